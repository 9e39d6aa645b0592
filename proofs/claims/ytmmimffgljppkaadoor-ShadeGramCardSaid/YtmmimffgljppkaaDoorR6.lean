/- A framework for walks, contracts of functions, and their proofs: part 6. -/
import Derived.ProofKit
import Derived.OpenShut
import Derived.LaidMore
import Derived.Carry
import Derived.Lib.SmallJoins
import Derived.Deep.Slices
import Derived.Test.YtmmimffgljppkaaDoorR5
set_option linter.unusedVariables false
namespace Go.Proofs.Tryd
open Go Go.V Go.Proofs
def al_sort_Search:AL (Int×((Int→Prop)×(Int→Bool))):=(.cons (.k (.i .i64)) (.one (.fn [(.i .i64)] .bo)))
def pre_sort_Search (d:Int×((Int→Prop)×(Int→Bool))):Prop:=0≤d.1∧d.1≤1000000∧(∀ i,0≤i→i<d.1→d.2.1 i)∧∀ i j,0≤i→i≤j→j<d.1→d.2.2 i=true→d.2.2 j=true
def res_sort_Search (d:Int×((Int→Prop)×(Int→Bool))):SV:=.val (.i .i64) (srchI d.1 d.2.2)
def obs_sort_Search (d:Int×((Int→Prop)×(Int→Bool))):List OB:=[]
def s_sort_Search:CSp:=mkSp al_sort_Search pre_sort_Search res_sort_Search obs_sort_Search
def vc_sort_Search (n:Int) (p:(Int→Prop)×(Int→Bool)):Prop :=
 ∃ (e2:Unit) (d20:Int×Int),(((SV.pf [(.i .i64)] .bo p.1 p.2=SV.pf [(.i .i64)] .bo p.1 p.2)∧(0:Int)=d20.1∧n=d20.2∧True)∧(True)) ∧
 LoopP (fun (d2:Int×Int) (q2:(Int×Int)→Prop) =>
  ((decide (d2.1<d2.2))=true →
   (I64 (d2.1+d2.2))∧(InK .u64 (d2.1+d2.2))∧(0≤(1:Int))∧(I64 (shrI .u64 (d2.1+d2.2) (1:Int)))∧(p.1 (shrI .u64 (d2.1+d2.2) (1:Int)))∧((!(p.2 (shrI .u64 (d2.1+d2.2) (1:Int))))=true →
    (I64 ((shrI .u64 (d2.1+d2.2) (1:Int))+(1:Int)))∧(∃ d3:Int×Int,(((SV.pf [(.i .i64)] .bo p.1 p.2=SV.pf [(.i .i64)] .bo p.1 p.2)∧((shrI .u64 (d2.1+d2.2) (1:Int))+(1:Int))=d3.1∧d2.2=d3.2∧True)∧(True))∧q2 d3)) ∧
   ((!(p.2 (shrI .u64 (d2.1+d2.2) (1:Int))))=false →
    (∃ d4:Int×Int,(((SV.pf [(.i .i64)] .bo p.1 p.2=SV.pf [(.i .i64)] .bo p.1 p.2)∧d2.1=d4.1∧(shrI .u64 (d2.1+d2.2) (1:Int))=d4.2∧True)∧(True))∧q2 d4))) ∧
  ((decide (d2.1<d2.2))=false →
   (d2.1=(srchI n p.2)∧(True)))) d20
def cx_sort_Search:Cx:=⟨[],[],26,[],0,[],[],[],[],false,[],[],[]⟩
def lp_sort_Search (n:Int) (p:(Int→Prop)×(Int→Bool)):List (Nat×LoopAnn):=[(0,⟨Unit,Int×Int,[1,5,6],fun e x=>[.pf [(.i .i64)] .bo p.1 p.2,.val (.i .i64) x.1,.val (.i .i64) x.2],fun e x=>[]⟩)]
set_option maxRecDepth 100000 in
theorem vq_sort_Search (d:Int×((Int→Prop)×(Int→Bool))):gwp (cx_sort_Search) (lp_sort_Search d.1 d.2) c13 0 (gend [.tmp 4] (res_sort_Search d) (obs_sort_Search d)) (gstart 26 (AL.can al_sort_Search d))=vc_sort_Search d.1 d.2:=by kernel_rfl
abbrev Ok_sort_Search:Prop:=OkC Tryd.prog 13 s_sort_Search
theorem mk_sort_Search (h:∀ (n:Int) (p:(Int→Prop)×(Int→Bool)),(0≤n∧n≤1000000∧(∀ i,0≤i→i<n→p.1 i)∧∀ i j,0≤i→i≤j→j<n→p.2 i=true→p.2 j=true)→vc_sort_Search n p):OkC Tryd.prog 13 s_sort_Search :=
 okC_vc fun13 mixed (C:=cx_sort_Search) (V:=fun (d:Int×((Int→Prop)×(Int→Bool)))=>vc_sort_Search d.1 d.2) ⟨.nil,XsOk.nil,ItsOk.nil,YlOk.nil,IysOk.nil⟩ (vq_sort_Search) fun d hp=>h d.1 d.2 hp
theorem shr_one {x:Int} (h:0≤x):shrI .u64 x 1=x / 2:=by
 unfold shrI
 show x.fdiv 2=x / 2
 exact Int.fdiv_eq_ediv_of_nonneg x (by decide)
theorem srch_eq {n i:Int} {p:Int→Bool} (hn:0≤n) (h0:0≤i) (hi:i≤n) (h1:i<n→p i=true) (h2:∀ k,0≤k→k<i→p k=false):i=srchI n p:=by
 obtain⟨a,b,c,d⟩:=srch_spec (n:=n) (p:=p) hn
 rcases Int.lt_trichotomy i (srchI n p) with h|h|h
 ·have e:=d i h0 h
  rw[h1 (by omega)] at e;cases e
 ·exact h
 ·have e:=h2 _ a h
  rw[c (by omega)] at e;cases e
theorem ok_sort_Search:Ok_sort_Search:=mk_sort_Search fun n p h=>by
 obtain⟨h1,h2,h3,h4⟩:=h
 unfold vc_sort_Search;(try delta lI gD sT I64)
 refine⟨(),(0,n),(by and_intros<;>first|rfl|trivial|simp),?_⟩
 refine⟨fun d=>0≤d.1∧d.1≤d.2∧d.2≤n∧(d.2<n→p.2 d.2=true)∧∀ k,0≤k→k<d.1→p.2 k=false,fun d=>(d.2-d.1).toNat,⟨by dsimp only;omega,h1,Int.le_refl _,fun h=>by dsimp only at h;omega,fun k a b=>by dsimp only at b;omega⟩,?_⟩
 rintro⟨i,j⟩ ⟨i1,i2,i3,i4,i5⟩
 dsimp only at i1 i2 i3 i4 i5 ⊢
 simp only[decide_eq_true_eq,decide_eq_false_iff_not]
 refine⟨fun hlt=>?_,fun hge=>?_⟩
 ·rw[shr_one (show 0≤i+j by omega)]
  simp only[InK_i64,InK_u64,Bool.not_eq_true',Bool.not_eq_false']
  refine⟨by omega,by omega,by omega,by omega,h3 _ (by omega) (by omega),fun hf=>⟨by omega,((i+j) / 2+1,j),(by and_intros<;>first|rfl|trivial|simp),⟨by dsimp only;omega,by dsimp only;omega,i3,i4,fun k a b=>?_⟩,by dsimp only;omega⟩,fun ht=>⟨(i,(i+j) / 2),(by and_intros<;>first|rfl|trivial|simp),⟨i1,by dsimp only;omega,by dsimp only;omega,fun _=>ht,i5⟩,by dsimp only;omega⟩⟩
  dsimp only at b
  cases hk:p.2 k with
  |false=>rfl
  |true=>rw[h4 k ((i+j) / 2) a (by omega) (by omega) hk] at hf;cases hf
 ·have hij:i=j:=by omega
  subst hij
  refine⟨?_,trivial⟩
  exact srch_eq h1 i1 i3 i4 i5
def al_shade_Scale_1:AL (Int×Int×List (Int×Int)):=(.cons (.k (.i .i64)) (.cons (.ptr (.one (.k (.i .i64)))) (.one (.ptr (.one (.k (.list (.pair (.i .i64) (.i .i64)))))))))
def pre_shade_Scale_1 (d:Int×Int×List (Int×Int)):Prop:=bookOk d.2.1 d.1 d.2.2
def res_shade_Scale_1 (d:Int×Int×List (Int×Int)):SV:=.val .bo (okS d.2.1 d.2.2 d.1)
def obs_shade_Scale_1 (d:Int×Int×List (Int×Int)):List OB:=[]
def s_shade_Scale_1:CSp:=mkSp al_shade_Scale_1 pre_shade_Scale_1 res_shade_Scale_1 obs_shade_Scale_1
def vc_shade_Scale_1 (s:Int) (g:Int) (l:List (Int×Int)):Prop :=
 (bookOk g s l)∧((decide ((wrongI g s l)<(0:Int)))=(okS g l s)∧(True))
def cx_shade_Scale_1:Cx:=⟨[],[(12,s_shade_book_forth)],17,[],0,[],[],[],[],false,[],[],[]⟩
def lp_shade_Scale_1 (s:Int) (g:Int) (l:List (Int×Int)):List (Nat×LoopAnn):=[]
set_option maxRecDepth 100000 in
theorem vq_shade_Scale_1 (d:Int×Int×List (Int×Int)):gwp (cx_shade_Scale_1) (lp_shade_Scale_1 d.1 d.2.1 d.2.2) c14 0 (gend [.tmp 4] (res_shade_Scale_1 d) (obs_shade_Scale_1 d)) (gstart 17 (AL.can al_shade_Scale_1 d))=vc_shade_Scale_1 d.1 d.2.1 d.2.2:=by kernel_rfl
abbrev Ok_shade_Scale_1:Prop:=OkC Tryd.prog 14 s_shade_Scale_1
theorem mk_shade_Scale_1 (h:∀ (s:Int) (g:Int) (l:List (Int×Int)),(bookOk g s l)→vc_shade_Scale_1 s g l):OkC Tryd.prog 14 s_shade_Scale_1 :=
 okC_vc fun14 mixed (C:=cx_shade_Scale_1) (V:=fun (d:Int×Int×List (Int×Int))=>vc_shade_Scale_1 d.1 d.2.1 d.2.2) ⟨(.cons ok_shade_book_forth .nil),XsOk.nil,ItsOk.nil,YlOk.nil,IysOk.nil⟩ (vq_shade_Scale_1) fun d hp=>h d.1 d.2.1 d.2.2 hp
theorem ok_shade_Scale_1:Ok_shade_Scale_1:=mk_shade_Scale_1 fun s g l h=>by
 unfold vc_shade_Scale_1;(try delta lI gD sT I64)
 refine⟨h,?_⟩
 and_intros<;>first|rfl|trivial
def al_law09_entries:AL (List (Int×Int)):=(.one (.k (.list (.pair (.i .i64) (.i .i64)))))
def pre_law09_entries (d:List (Int×Int)):Prop:=d.length≤1000
def res_law09_entries (d:List (Int×Int)):SV:=.lst 0
def obs_law09_entries (d:List (Int×Int)):List OB:=[.lst 42 (.pair (.i .i64) (.i .i64)) d false]
def s_law09_entries:CSp:=mkSp al_law09_entries pre_law09_entries res_law09_entries obs_law09_entries
def vc_law09_entries (l:List (Int×Int)):Prop :=
 (((List.length ([]:List (Int×Int)))+(List.length l))*16≤70368744177664)∧(True∧(((([]:List (Int×Int))++l)=l∧((List.isEmpty l)&&false)=false)∧True))
def cx_law09_entries:Cx:=⟨[(42,(.pair (.i .i64) (.i .i64)))],[],6,[],0,[],[],[],[],false,[],[],[]⟩
def lp_law09_entries (l:List (Int×Int)):List (Nat×LoopAnn):=[]
set_option maxRecDepth 100000 in
theorem vq_law09_entries (d:List (Int×Int)):gwp (cx_law09_entries) (lp_law09_entries d) c6 0 (gend [.tmp 2] (res_law09_entries d) (obs_law09_entries d)) (gstart 6 (AL.can al_law09_entries d))=vc_law09_entries d:=by kernel_rfl
abbrev Ok_law09_entries:Prop:=OkC Tryd.prog 6 s_law09_entries
theorem mk_law09_entries (h:∀ (l:List (Int×Int)),(l.length≤1000)→vc_law09_entries l):OkC Tryd.prog 6 s_law09_entries :=
 okC_vc fun6 mixed (C:=cx_law09_entries) (V:=fun (d:List (Int×Int))=>vc_law09_entries d) ⟨.nil,XsOk.nil,ItsOk.nil,YlOk.nil,IysOk.nil⟩ (vq_law09_entries) fun d hp=>h d hp
theorem ok_law09_entries:Ok_law09_entries:=mk_law09_entries fun l h=>by
 have h1:l.length*16≤70368744177664:=by omega
 simp[vc_law09_entries,h1]
def al_law09_span:AL (Int×Int):=(.cons (.k (.i .i64)) (.one (.k (.i .i64))))
def pre_law09_span (d:Int×Int):Prop:=True
def res_law09_span (d:Int×Int):SV:=.agg [.val (.i .i64) d.1,.val (.i .i64) d.2]
def obs_law09_span (d:Int×Int):List OB:=[]
def s_law09_span:CSp:=mkSp al_law09_span pre_law09_span res_law09_span obs_law09_span
def vc_law09_span (a:Int) (b:Int):Prop :=
 ((a=a∧b=b∧(([]:List SV)=[]))∧(True))
def cx_law09_span:Cx:=⟨[],[],8,[],0,[],[],[],[],false,[],[],[]⟩
def lp_law09_span (a:Int) (b:Int):List (Nat×LoopAnn):=[]
set_option maxRecDepth 100000 in
theorem vq_law09_span (d:Int×Int):gwp (cx_law09_span) (lp_law09_span d.1 d.2) c9 0 (gend [.cell 4 true 2] (res_law09_span d) (obs_law09_span d)) (gstart 8 (AL.can al_law09_span d))=vc_law09_span d.1 d.2:=by kernel_rfl
abbrev Ok_law09_span:Prop:=OkC Tryd.prog 9 s_law09_span
theorem mk_law09_span (h:∀ (a:Int) (b:Int),(True)→vc_law09_span a b):OkC Tryd.prog 9 s_law09_span :=
 okC_vc fun9 mixed (C:=cx_law09_span) (V:=fun (d:Int×Int)=>vc_law09_span d.1 d.2) ⟨.nil,XsOk.nil,ItsOk.nil,YlOk.nil,IysOk.nil⟩ (vq_law09_span) fun d hp=>h d.1 d.2 hp
theorem ok_law09_span:Ok_law09_span:=mk_law09_span fun a b _=>(by and_intros<;>first|rfl|trivial|simp)
end Go.Proofs.Tryd
set_option linter.unusedVariables false
namespace Go.Proofs.Tryd
open Go Go.V Go.Proofs
def al_shade_Scale:AL (Int×List (Int×Int)):=(.cons (.k (.i .i64)) (.one (.k (.list (.pair (.i .i64) (.i .i64))))))
def pre_shade_Scale (d:Int×List (Int×Int)):Prop:=d.2.length≤1000
def res_shade_Scale (d:Int×List (Int×Int)):SV:=.tup [.val (.i .i64) (scaleV d.1 d.2),.val (.i .i64) (scaleErr d.1 d.2)]
def obs_shade_Scale (d:Int×List (Int×Int)):List OB:=[]
def s_shade_Scale:CSp:=mkSp al_shade_Scale pre_shade_Scale res_shade_Scale obs_shade_Scale
def vc_shade_Scale (g:Int) (l:List (Int×Int)):Prop :=
 ∀ w1:List Value,([g].length≤1000000)∧((!(!([g].any fun n=>decide (n<(1:Int))||decide ((1000000:Int)<n))))=true →
  ((!(!([g].any fun n=>decide (n<(1:Int))||decide ((1000000:Int)<n))))=true →
   w1=w1∧(((2:Int) != (0:Int))=true →
    (((0:Int)=(scaleV g l)∧(2:Int)=(scaleErr g l)∧(([]:List SV)=[]))∧(True))) ∧
   (((2:Int) != (0:Int))=false →
    (0≤(1001:Int)∧(1001:Int)≤1000000∧(∀ i,0≤i→i<(1001:Int)→(fun (x1:Int)=>bookOk g x1 l) i)∧∀ i j,0≤i→i≤j→j<(1001:Int)→(fun (x1:Int)=>(okS g l x1)) i=true→(fun (x1:Int)=>(okS g l x1)) j=true)∧((decide ((srchI (1001:Int) (fun (x1:Int)=>(okS g l x1))) > (1000:Int)))=true →
     (((0:Int)=(scaleV g l)∧(90:Int)=(scaleErr g l)∧(([]:List SV)=[]))∧(True))) ∧
    ((decide ((srchI (1001:Int) (fun (x1:Int)=>(okS g l x1))) > (1000:Int)))=false →
     (((srchI (1001:Int) (fun (x1:Int)=>(okS g l x1)))=(scaleV g l)∧(0:Int)=(scaleErr g l)∧(([]:List SV)=[]))∧(True))))) ∧
  ((!(!([g].any fun n=>decide (n<(1:Int))||decide ((1000000:Int)<n))))=false →
   ((decide ((lI l) > (40:Int)))=true →
    w1=w1∧(((5:Int) != (0:Int))=true →
     (((0:Int)=(scaleV g l)∧(5:Int)=(scaleErr g l)∧(([]:List SV)=[]))∧(True))) ∧
    (((5:Int) != (0:Int))=false →
     (0≤(1001:Int)∧(1001:Int)≤1000000∧(∀ i,0≤i→i<(1001:Int)→(fun (x2:Int)=>bookOk g x2 l) i)∧∀ i j,0≤i→i≤j→j<(1001:Int)→(fun (x2:Int)=>(okS g l x2)) i=true→(fun (x2:Int)=>(okS g l x2)) j=true)∧((decide ((srchI (1001:Int) (fun (x2:Int)=>(okS g l x2))) > (1000:Int)))=true →
      (((0:Int)=(scaleV g l)∧(90:Int)=(scaleErr g l)∧(([]:List SV)=[]))∧(True))) ∧
     ((decide ((srchI (1001:Int) (fun (x2:Int)=>(okS g l x2))) > (1000:Int)))=false →
      (((srchI (1001:Int) (fun (x2:Int)=>(okS g l x2)))=(scaleV g l)∧(0:Int)=(scaleErr g l)∧(([]:List SV)=[]))∧(True))))) ∧
   ((decide ((lI l) > (40:Int)))=false →
    (l.length≤1000000∧∀ x∈l,(fun (x3:Int×Int)=>True) x)∧((l.any (fun (x3:Int×Int)=>(!inI x3.1 1 3||!inI x3.2 0 12000000)))=true →
     w1=w1∧(((2:Int) != (0:Int))=true →
      (((0:Int)=(scaleV g l)∧(2:Int)=(scaleErr g l)∧(([]:List SV)=[]))∧(True))) ∧
     (((2:Int) != (0:Int))=false →
      (0≤(1001:Int)∧(1001:Int)≤1000000∧(∀ i,0≤i→i<(1001:Int)→(fun (x4:Int)=>bookOk g x4 l) i)∧∀ i j,0≤i→i≤j→j<(1001:Int)→(fun (x4:Int)=>(okS g l x4)) i=true→(fun (x4:Int)=>(okS g l x4)) j=true)∧((decide ((srchI (1001:Int) (fun (x4:Int)=>(okS g l x4))) > (1000:Int)))=true →
       (((0:Int)=(scaleV g l)∧(90:Int)=(scaleErr g l)∧(([]:List SV)=[]))∧(True))) ∧
      ((decide ((srchI (1001:Int) (fun (x4:Int)=>(okS g l x4))) > (1000:Int)))=false →
       (((srchI (1001:Int) (fun (x4:Int)=>(okS g l x4)))=(scaleV g l)∧(0:Int)=(scaleErr g l)∧(([]:List SV)=[]))∧(True))))) ∧
    ((l.any (fun (x3:Int×Int)=>(!inI x3.1 1 3||!inI x3.2 0 12000000)))=false →
     w1=w1∧(((0:Int) != (0:Int))=true →
      (((0:Int)=(scaleV g l)∧(0:Int)=(scaleErr g l)∧(([]:List SV)=[]))∧(True))) ∧
     (((0:Int) != (0:Int))=false →
      (0≤(1001:Int)∧(1001:Int)≤1000000∧(∀ i,0≤i→i<(1001:Int)→(fun (x5:Int)=>bookOk g x5 l) i)∧∀ i j,0≤i→i≤j→j<(1001:Int)→(fun (x5:Int)=>(okS g l x5)) i=true→(fun (x5:Int)=>(okS g l x5)) j=true)∧((decide ((srchI (1001:Int) (fun (x5:Int)=>(okS g l x5))) > (1000:Int)))=true →
       (((0:Int)=(scaleV g l)∧(90:Int)=(scaleErr g l)∧(([]:List SV)=[]))∧(True))) ∧
      ((decide ((srchI (1001:Int) (fun (x5:Int)=>(okS g l x5))) > (1000:Int)))=false →
       (((srchI (1001:Int) (fun (x5:Int)=>(okS g l x5)))=(scaleV g l)∧(0:Int)=(scaleErr g l)∧(([]:List SV)=[]))∧(True)))))))) ∧
 ((!(!([g].any fun n=>decide (n<(1:Int))||decide ((1000000:Int)<n))))=false →
  ([(0:Int)].length≤1000000)∧((!(!([(0:Int)].any fun n=>decide (n<(0:Int))||decide ((1000:Int)<n))))=true →
   w1=w1∧(((2:Int) != (0:Int))=true →
    (((0:Int)=(scaleV g l)∧(2:Int)=(scaleErr g l)∧(([]:List SV)=[]))∧(True))) ∧
   (((2:Int) != (0:Int))=false →
    (0≤(1001:Int)∧(1001:Int)≤1000000∧(∀ i,0≤i→i<(1001:Int)→(fun (x6:Int)=>bookOk g x6 l) i)∧∀ i j,0≤i→i≤j→j<(1001:Int)→(fun (x6:Int)=>(okS g l x6)) i=true→(fun (x6:Int)=>(okS g l x6)) j=true)∧((decide ((srchI (1001:Int) (fun (x6:Int)=>(okS g l x6))) > (1000:Int)))=true →
     (((0:Int)=(scaleV g l)∧(90:Int)=(scaleErr g l)∧(([]:List SV)=[]))∧(True))) ∧
    ((decide ((srchI (1001:Int) (fun (x6:Int)=>(okS g l x6))) > (1000:Int)))=false →
     (((srchI (1001:Int) (fun (x6:Int)=>(okS g l x6)))=(scaleV g l)∧(0:Int)=(scaleErr g l)∧(([]:List SV)=[]))∧(True))))) ∧
  ((!(!([(0:Int)].any fun n=>decide (n<(0:Int))||decide ((1000:Int)<n))))=false →
   ((decide ((lI l) > (40:Int)))=true →
    w1=w1∧(((5:Int) != (0:Int))=true →
     (((0:Int)=(scaleV g l)∧(5:Int)=(scaleErr g l)∧(([]:List SV)=[]))∧(True))) ∧
    (((5:Int) != (0:Int))=false →
     (0≤(1001:Int)∧(1001:Int)≤1000000∧(∀ i,0≤i→i<(1001:Int)→(fun (x7:Int)=>bookOk g x7 l) i)∧∀ i j,0≤i→i≤j→j<(1001:Int)→(fun (x7:Int)=>(okS g l x7)) i=true→(fun (x7:Int)=>(okS g l x7)) j=true)∧((decide ((srchI (1001:Int) (fun (x7:Int)=>(okS g l x7))) > (1000:Int)))=true →
      (((0:Int)=(scaleV g l)∧(90:Int)=(scaleErr g l)∧(([]:List SV)=[]))∧(True))) ∧
     ((decide ((srchI (1001:Int) (fun (x7:Int)=>(okS g l x7))) > (1000:Int)))=false →
      (((srchI (1001:Int) (fun (x7:Int)=>(okS g l x7)))=(scaleV g l)∧(0:Int)=(scaleErr g l)∧(([]:List SV)=[]))∧(True))))) ∧
   ((decide ((lI l) > (40:Int)))=false →
    (l.length≤1000000∧∀ x∈l,(fun (x8:Int×Int)=>True) x)∧((l.any (fun (x8:Int×Int)=>(!inI x8.1 1 3||!inI x8.2 0 12000000)))=true →
     w1=w1∧(((2:Int) != (0:Int))=true →
      (((0:Int)=(scaleV g l)∧(2:Int)=(scaleErr g l)∧(([]:List SV)=[]))∧(True))) ∧
     (((2:Int) != (0:Int))=false →
      (0≤(1001:Int)∧(1001:Int)≤1000000∧(∀ i,0≤i→i<(1001:Int)→(fun (x9:Int)=>bookOk g x9 l) i)∧∀ i j,0≤i→i≤j→j<(1001:Int)→(fun (x9:Int)=>(okS g l x9)) i=true→(fun (x9:Int)=>(okS g l x9)) j=true)∧((decide ((srchI (1001:Int) (fun (x9:Int)=>(okS g l x9))) > (1000:Int)))=true →
       (((0:Int)=(scaleV g l)∧(90:Int)=(scaleErr g l)∧(([]:List SV)=[]))∧(True))) ∧
      ((decide ((srchI (1001:Int) (fun (x9:Int)=>(okS g l x9))) > (1000:Int)))=false →
       (((srchI (1001:Int) (fun (x9:Int)=>(okS g l x9)))=(scaleV g l)∧(0:Int)=(scaleErr g l)∧(([]:List SV)=[]))∧(True))))) ∧
    ((l.any (fun (x8:Int×Int)=>(!inI x8.1 1 3||!inI x8.2 0 12000000)))=false →
     w1=w1∧(((0:Int) != (0:Int))=true →
      (((0:Int)=(scaleV g l)∧(0:Int)=(scaleErr g l)∧(([]:List SV)=[]))∧(True))) ∧
     (((0:Int) != (0:Int))=false →
      (0≤(1001:Int)∧(1001:Int)≤1000000∧(∀ i,0≤i→i<(1001:Int)→(fun (x10:Int)=>bookOk g x10 l) i)∧∀ i j,0≤i→i≤j→j<(1001:Int)→(fun (x10:Int)=>(okS g l x10)) i=true→(fun (x10:Int)=>(okS g l x10)) j=true)∧((decide ((srchI (1001:Int) (fun (x10:Int)=>(okS g l x10))) > (1000:Int)))=true →
       (((0:Int)=(scaleV g l)∧(90:Int)=(scaleErr g l)∧(([]:List SV)=[]))∧(True))) ∧
      ((decide ((srchI (1001:Int) (fun (x10:Int)=>(okS g l x10))) > (1000:Int)))=false →
       (((srchI (1001:Int) (fun (x10:Int)=>(okS g l x10)))=(scaleV g l)∧(0:Int)=(scaleErr g l)∧(([]:List SV)=[]))∧(True))))))))
def cx_shade_Scale:Cx:=⟨[(3,(.i .i64))],[(15,s_shade_within),(13,s_sort_Search),(14,s_shade_Scale_1),(30,s_slices_ContainsFunc_api_ShadeEntry_api_ShadeEntry),(29,s_shade_newBook_1)],23,[],0,[(11,x_shade_newBook)],[],[],[],false,[],[],[]⟩
def lp_shade_Scale (g:Int) (l:List (Int×Int)):List (Nat×LoopAnn):=[]
set_option maxRecDepth 100000 in
theorem vq_shade_Scale (d:Int×List (Int×Int)):gwp (cx_shade_Scale) (lp_shade_Scale d.1 d.2) c7 0 (gend [.tmp 4,.tmp 5] (res_shade_Scale d) (obs_shade_Scale d)) (gstart 23 (AL.can al_shade_Scale d))=vc_shade_Scale d.1 d.2:=by kernel_rfl
abbrev Ok_shade_Scale:Prop:=OkC Tryd.prog 7 s_shade_Scale
theorem mk_shade_Scale (h:∀ (g:Int) (l:List (Int×Int)),(l.length≤1000)→vc_shade_Scale g l):OkC Tryd.prog 7 s_shade_Scale :=
 okC_vc fun7 mixed (C:=cx_shade_Scale) (V:=fun (d:Int×List (Int×Int))=>vc_shade_Scale d.1 d.2) ⟨(.cons ok_shade_within (.cons ok_sort_Search (.cons ok_shade_Scale_1 (.cons ok_slices_ContainsFunc_api_ShadeEntry_api_ShadeEntry (.cons ok_shade_newBook_1 .nil))))),(XsOk.cons okx_shade_newBook XsOk.nil),ItsOk.nil,YlOk.nil,IysOk.nil⟩ (vq_shade_Scale) fun d hp=>h d.1 d.2 hp
theorem ok_shade_Scale:Ok_shade_Scale:=mk_shade_Scale fun g l hl=>by
 unfold vc_shade_Scale;(try delta lI gD sT I64)
 simp only[List.any_cons,List.any_nil,Bool.or_false,Bool.not_not,←nI,List.length_cons,List.length_nil,dead2,dead5,dead0,Bool.true_eq_false,true_and,and_true,eq_self_iff_true,exists_eq_left',exists_const,decide_eq_true_eq,decide_eq_false_iff_not,beq_iff_eq,bne_iff_ne,ne_eq,beq_eq_false_iff_ne,bne_eq_false_iff_eq,Bool.not_eq_true',Bool.not_eq_false',Bool.not_eq_true,Bool.not_eq_false,Int.toNat_natCast,Int.ofNat_lt,gt_iff_lt,ge_iff_le,forall_eq,true_implies,false_implies,Bool.false_eq_true,Bool.or_self,Bool.and_self,Bool.or_false,Bool.false_or,Bool.or_true,Bool.true_or,Bool.and_false,Bool.false_and,Bool.and_true,Bool.true_and,Bool.not_true,Bool.not_false,implies_true,forall_const,decide_false,decide_true,not_false_eq_true,not_true_eq_false]
 have R0:∀ {e:Int},entErr g 0 l=e→e≠0→0=scaleV g l∧e=scaleErr g l:=fun {e} he h0=>by
  have h1:scaleErr g l=e:=by unfold scaleErr;rw[he,if_pos h0]
  refine⟨?_,h1.symm⟩
  unfold scaleV;rw[h1,if_neg h0]
 refine⟨by omega,fun h1=>⟨fun _=>R0 (ent2a h1) (by decide),fun h=>by rw[h1] at h;cases h⟩,fun h1=>⟨by omega,fun h2=>R0 (ent2b h2) (by decide),fun h2=>⟨fun h3=>R0 (ent5 h1 h2 h3) (by decide),fun h3=>⟨by omega,fun h4=>R0 (ent2c h1 h2 h3 h4) (by decide),fun h4=>?_⟩⟩⟩⟩
 have he:=ent0 h1 h2 h3 h4
 have hb:=entErr_zero he
 obtain⟨b1,b2,b3,b4,b5⟩:=hb
 refine⟨⟨by omega,by omega,fun i i0 i1=>⟨b1,b2,i0,by omega,b5⟩,fun i j i0 ij _ h=>okS_mono ⟨i0,ij⟩ h⟩,fun hw=>?_,fun hw=>?_⟩
 ·have h5:scaleErr g l=90:=by unfold scaleErr scaleN;rw[he,if_neg (by decide),if_pos (by first|exact hw|omega)]
  refine⟨?_,h5.symm⟩
  unfold scaleV;rw[h5,if_neg (by decide)]
 ·have h5:scaleErr g l=0:=by unfold scaleErr scaleN;rw[he,if_neg (by decide),if_neg (by first|exact hw|omega)]
  refine⟨?_,h5.symm⟩
  unfold scaleV scaleN;rw[if_pos h5]
def cx_slices_Backward_api_ShadeEntry_api_ShadeEntry:Cx:=⟨[],[],4,[],0,[],[],[],[],false,[],[],[]⟩
def x_slices_Backward_api_ShadeEntry_api_ShadeEntry:XSp:=inlX cx_slices_Backward_api_ShadeEntry_api_ShadeEntry (fun _=>[]) c17 [.tmp 2] 4
theorem okx_slices_Backward_api_ShadeEntry_api_ShadeEntry:XOk Tryd.prog 17 x_slices_Backward_api_ShadeEntry_api_ShadeEntry:=inlX_ok fun17 mixed (C:=cx_slices_Backward_api_ShadeEntry_api_ShadeEntry) ⟨.nil,XsOk.nil,ItsOk.nil,YlOk.nil,IysOk.nil⟩ _
end Go.Proofs.Tryd
set_option linter.unusedVariables false
namespace Go.Proofs.Tryd
open Go Go.V Go.Proofs
def al_shade_Was:AL (Int×Int×(List (Int×Int))×Int):=(.cons (.k (.i .i64)) (.cons (.k (.i .i64)) (.cons (.k (.list (.pair (.i .i64) (.i .i64)))) (.one (.k (.i .i64))))))
def pre_shade_Was (d:Int×Int×(List (Int×Int))×Int):Prop:=d.2.2.1.length≤1000
def res_shade_Was (d:Int×Int×(List (Int×Int))×Int):SV:=.tup [.agg [.val (.i .i64) ((wasSp d.1 d.2.1 d.2.2.1 d.2.2.2).1),.val (.i .i64) ((wasSp d.1 d.2.1 d.2.2.1 d.2.2.2).2)],.val (.i .i64) (wasErr d.1 d.2.1 d.2.2.1 d.2.2.2)]
def obs_shade_Was (d:Int×Int×(List (Int×Int))×Int):List OB:=[]
def s_shade_Was:CSp:=mkSp al_shade_Was pre_shade_Was res_shade_Was obs_shade_Was
def vc_shade_Was (g:Int) (s:Int) (l:List (Int×Int)) (ei:Int):Prop :=
 ∀ w1:List Value,([g].length≤1000000)∧((!(!([g].any fun n=>decide (n<(1:Int))||decide ((1000000:Int)<n))))=true →
  ((!(!([g].any fun n=>decide (n<(1:Int))||decide ((1000000:Int)<n))))=true →
   w1=w1∧(((2:Int) != (0:Int))=true →
    ((((0:Int)=((wasSp g s l ei).1)∧(0:Int)=((wasSp g s l ei).2)∧(([]:List SV)=[]))∧(2:Int)=(wasErr g s l ei)∧(([]:List SV)=[]))∧(True))) ∧
   (((2:Int) != (0:Int))=false →
    (bookOk (0:Int) (0:Int) ([]:List (Int×Int)))∧((decide ((wrongI (0:Int) (0:Int) ([]:List (Int×Int)))≥(0:Int)))=true →
     ((((0:Int)=((wasSp g s l ei).1)∧(0:Int)=((wasSp g s l ei).2)∧(([]:List SV)=[]))∧(90:Int)=(wasErr g s l ei)∧(([]:List SV)=[]))∧(True))) ∧
    ((decide ((wrongI (0:Int) (0:Int) ([]:List (Int×Int)))≥(0:Int)))=false →
     (I64 ((lI l)-(1:Int)))∧([ei].length≤1000000)∧((!(!([ei].any fun n=>decide (n<(0:Int))||decide (((lI l)-(1:Int))<n))))=true →
      ((((0:Int)=((wasSp g s l ei).1)∧(0:Int)=((wasSp g s l ei).2)∧(([]:List SV)=[]))∧(7:Int)=(wasErr g s l ei)∧(([]:List SV)=[]))∧(True))) ∧
     ((!(!([ei].any fun n=>decide (n<(0:Int))||decide (((lI l)-(1:Int))<n))))=false →
      (True)∧(I64 (ei+(1:Int)))∧(0≤(ei+(1:Int)))∧((ei+(1:Int))≤(lI l))∧((lI l)≤(List.length l))∧∀ w2:List Value,w2=w2∧(List.length (List.take (Int.toNat ((lI l)-(ei+(1:Int)))) (List.drop (Int.toNat (ei+(1:Int))) l))<4611686018427387904)∧∃ (e3:Unit) (d30:Int×Int),((l=l∧ei=ei∧True∧True∧True∧True∧True)∧(((0:Int)=(0:Int)∧(0:Int)=(0:Int)∧(([]:List SV)=[]))∧((0:Int)=g∧(0:Int)=s∧l=[]∧(([]:List SV)=[]))∧((forthW (0:Int) (0:Int) ([]:List (Int×Int)))=(forthW g s l)∧false=false)∧((0:Int)=d30.1∧(1099511627776:Int)=d30.2∧(([]:List SV)=[]))∧True)) ∧
      RangeP (List.length (List.take (Int.toNat ((lI l)-(ei+(1:Int)))) (List.drop (Int.toNat (ei+(1:Int))) l))) (fun (k3:Nat) (d3:Int×Int) (q3:(Int×Int)→Prop)=>∀ w3:List Value,
       (0≤s∧s≤1000∧0≤((List.getD (List.take (Int.toNat ((lI l)-(ei+(1:Int)))) (List.drop (Int.toNat (ei+(1:Int))) l)) (List.length (List.take (Int.toNat ((lI l)-(ei+(1:Int)))) (List.drop (Int.toNat (ei+(1:Int))) l))-1-k3) (0,0)).2)∧((List.getD (List.take (Int.toNat ((lI l)-(ei+(1:Int)))) (List.drop (Int.toNat (ei+(1:Int))) l)) (List.length (List.take (Int.toNat ((lI l)-(ei+(1:Int)))) (List.drop (Int.toNat (ei+(1:Int))) l))-1-k3) (0,0)).2)≤12000000∧-2000000000000≤d3.1∧d3.1≤2000000000000∧-2000000000000≤d3.2∧d3.2≤2000000000000)∧w3=w3∧(∃ d4:Int×Int,((l=l∧ei=ei∧True∧True∧True∧True∧True)∧(((0:Int)=(0:Int)∧(0:Int)=(0:Int)∧(([]:List SV)=[]))∧(g=g∧s=s∧l=l∧(([]:List SV)=[]))∧((forthW g s l)=(forthW g s l)∧false=false)∧(((beforeB s (d3.1,d3.2) (((List.getD (List.take (Int.toNat ((lI l)-(ei+(1:Int)))) (List.drop (Int.toNat (ei+(1:Int))) l)) (List.length (List.take (Int.toNat ((lI l)-(ei+(1:Int)))) (List.drop (Int.toNat (ei+(1:Int))) l))-1-k3) (0,0)).1),((List.getD (List.take (Int.toNat ((lI l)-(ei+(1:Int)))) (List.drop (Int.toNat (ei+(1:Int))) l)) (List.length (List.take (Int.toNat ((lI l)-(ei+(1:Int)))) (List.drop (Int.toNat (ei+(1:Int))) l))-1-k3) (0,0)).2))).1)=d4.1∧((beforeB s (d3.1,d3.2) (((List.getD (List.take (Int.toNat ((lI l)-(ei+(1:Int)))) (List.drop (Int.toNat (ei+(1:Int))) l)) (List.length (List.take (Int.toNat ((lI l)-(ei+(1:Int)))) (List.drop (Int.toNat (ei+(1:Int))) l))-1-k3) (0,0)).1),((List.getD (List.take (Int.toNat ((lI l)-(ei+(1:Int)))) (List.drop (Int.toNat (ei+(1:Int))) l)) (List.length (List.take (Int.toNat ((lI l)-(ei+(1:Int)))) (List.drop (Int.toNat (ei+(1:Int))) l))-1-k3) (0,0)).2))).2)=d4.2∧(([]:List SV)=[]))∧True))∧q3 d4))
      (fun (d5:Int×Int) =>
       (0≤ei)∧(ei<(List.length (forthW g s l)))∧(0≤ei)∧(ei<(List.length l))∧((True∧True∧True∧True∧True∧((gD l ei (0,0)).1=(gD l ei (0,0)).1∧(gD l ei (0,0)).2=(gD l ei (0,0)).2∧(([]:List SV)=[]))∧True)∧(((0:Int)=(0:Int)∧(0:Int)=(0:Int)∧(([]:List SV)=[]))∧(g=g∧s=s∧l=l∧(([]:List SV)=[]))∧(d5.1=d5.1∧d5.2=d5.2∧(([]:List SV)=[]))∧((gD (forthW g s l) ei (0,0)).1=(gD (forthW g s l) ei (0,0)).1∧(gD (forthW g s l) ei (0,0)).2=(gD (forthW g s l) ei (0,0)).2∧(([]:List SV)=[]))∧((0:Int)=(0:Int)∧(0:Int)=(0:Int)∧(([]:List SV)=[]))∧((forthW g s l)=(forthW g s l)∧false=false)∧True))∧((0≤ei)∧(ei<(List.length (forthW g s l)))∧(0≤ei)∧(ei<(List.length l))∧((True∧True∧True∧True∧True∧((gD l ei (0,0)).1=(gD l ei (0,0)).1∧(gD l ei (0,0)).2=(gD l ei (0,0)).2∧(([]:List SV)=[]))∧True)∧(((0:Int)=(0:Int)∧(0:Int)=(0:Int)∧(([]:List SV)=[]))∧(g=g∧s=s∧l=l∧(([]:List SV)=[]))∧(d5.1=d5.1∧d5.2=d5.2∧(([]:List SV)=[]))∧((gD (forthW g s l) ei (0,0)).1=(gD (forthW g s l) ei (0,0)).1∧(gD (forthW g s l) ei (0,0)).2=(gD (forthW g s l) ei (0,0)).2∧(([]:List SV)=[]))∧((0:Int)=(0:Int)∧(0:Int)=(0:Int)∧(([]:List SV)=[]))∧((forthW g s l)=(forthW g s l)∧false=false)∧True)))∧(((gD l ei (0,0)).1==(1:Int))=true →
        (I64 ((gD (forthW g s l) ei (0,0)).1-d5.2))∧(I64 ((gD (forthW g s l) ei (0,0)).2-d5.1))∧(0≤s∧s≤1000∧0≤((gD l ei (0,0)).2)∧((gD l ei (0,0)).2)≤12000000)∧(True)∧((((gmax ((gD (forthW g s l) ei (0,0)).1-d5.2) ((realB s (((gD l ei (0,0)).1),((gD l ei (0,0)).2))).1))=((wasSp g s l ei).1)∧(gmin ((gD (forthW g s l) ei (0,0)).2-d5.1) ((realB s (((gD l ei (0,0)).1),((gD l ei (0,0)).2))).2))=((wasSp g s l ei).2)∧(([]:List SV)=[]))∧(0:Int)=(wasErr g s l ei)∧(([]:List SV)=[]))∧(True))) ∧
       (((gD l ei (0,0)).1==(1:Int))=false →
        (((gD l ei (0,0)).1==(2:Int))=true →
         (I64 (d5.1-(gD (forthW g s l) ei (0,0)).2))∧(I64 (d5.2-(gD (forthW g s l) ei (0,0)).1))∧(0≤s∧s≤1000∧0≤((gD l ei (0,0)).2)∧((gD l ei (0,0)).2)≤12000000)∧(True)∧((((gmax (d5.1-(gD (forthW g s l) ei (0,0)).2) ((realB s (((gD l ei (0,0)).1),((gD l ei (0,0)).2))).1))=((wasSp g s l ei).1)∧(gmin (d5.2-(gD (forthW g s l) ei (0,0)).1) ((realB s (((gD l ei (0,0)).1),((gD l ei (0,0)).2))).2))=((wasSp g s l ei).2)∧(([]:List SV)=[]))∧(0:Int)=(wasErr g s l ei)∧(([]:List SV)=[]))∧(True))) ∧
        (((gD l ei (0,0)).1==(2:Int))=false →
         (True)∧(0≤s∧s≤1000∧0≤((gD l ei (0,0)).2)∧((gD l ei (0,0)).2)≤12000000)∧(True)∧((((gmax (gmax ((gD (forthW g s l) ei (0,0)).1) d5.1) ((realB s (((gD l ei (0,0)).1),((gD l ei (0,0)).2))).1))=((wasSp g s l ei).1)∧(gmin (gmin ((gD (forthW g s l) ei (0,0)).2) d5.2) ((realB s (((gD l ei (0,0)).1),((gD l ei (0,0)).2))).2))=((wasSp g s l ei).2)∧(([]:List SV)=[]))∧(0:Int)=(wasErr g s l ei)∧(([]:List SV)=[]))∧(True))))) d30)))) ∧
  ((!(!([g].any fun n=>decide (n<(1:Int))||decide ((1000000:Int)<n))))=false →
   ((decide ((lI l) > (40:Int)))=true →
    w1=w1∧(((5:Int) != (0:Int))=true →
     ((((0:Int)=((wasSp g s l ei).1)∧(0:Int)=((wasSp g s l ei).2)∧(([]:List SV)=[]))∧(5:Int)=(wasErr g s l ei)∧(([]:List SV)=[]))∧(True))) ∧
    (((5:Int) != (0:Int))=false →
     (bookOk (0:Int) (0:Int) ([]:List (Int×Int)))∧((decide ((wrongI (0:Int) (0:Int) ([]:List (Int×Int)))≥(0:Int)))=true →
      ((((0:Int)=((wasSp g s l ei).1)∧(0:Int)=((wasSp g s l ei).2)∧(([]:List SV)=[]))∧(90:Int)=(wasErr g s l ei)∧(([]:List SV)=[]))∧(True))) ∧
     ((decide ((wrongI (0:Int) (0:Int) ([]:List (Int×Int)))≥(0:Int)))=false →
      (I64 ((lI l)-(1:Int)))∧([ei].length≤1000000)∧((!(!([ei].any fun n=>decide (n<(0:Int))||decide (((lI l)-(1:Int))<n))))=true →
       ((((0:Int)=((wasSp g s l ei).1)∧(0:Int)=((wasSp g s l ei).2)∧(([]:List SV)=[]))∧(7:Int)=(wasErr g s l ei)∧(([]:List SV)=[]))∧(True))) ∧
      ((!(!([ei].any fun n=>decide (n<(0:Int))||decide (((lI l)-(1:Int))<n))))=false →
       (True)∧(I64 (ei+(1:Int)))∧(0≤(ei+(1:Int)))∧((ei+(1:Int))≤(lI l))∧((lI l)≤(List.length l))∧∀ w6:List Value,w6=w6∧(List.length (List.take (Int.toNat ((lI l)-(ei+(1:Int)))) (List.drop (Int.toNat (ei+(1:Int))) l))<4611686018427387904)∧∃ (e7:Unit) (d70:Int×Int),((l=l∧ei=ei∧True∧True∧True∧True∧True)∧(((0:Int)=(0:Int)∧(0:Int)=(0:Int)∧(([]:List SV)=[]))∧((0:Int)=g∧(0:Int)=s∧l=[]∧(([]:List SV)=[]))∧((forthW (0:Int) (0:Int) ([]:List (Int×Int)))=(forthW g s l)∧false=false)∧((0:Int)=d70.1∧(1099511627776:Int)=d70.2∧(([]:List SV)=[]))∧True)) ∧
       RangeP (List.length (List.take (Int.toNat ((lI l)-(ei+(1:Int)))) (List.drop (Int.toNat (ei+(1:Int))) l))) (fun (k7:Nat) (d7:Int×Int) (q7:(Int×Int)→Prop)=>∀ w7:List Value,
        (0≤s∧s≤1000∧0≤((List.getD (List.take (Int.toNat ((lI l)-(ei+(1:Int)))) (List.drop (Int.toNat (ei+(1:Int))) l)) (List.length (List.take (Int.toNat ((lI l)-(ei+(1:Int)))) (List.drop (Int.toNat (ei+(1:Int))) l))-1-k7) (0,0)).2)∧((List.getD (List.take (Int.toNat ((lI l)-(ei+(1:Int)))) (List.drop (Int.toNat (ei+(1:Int))) l)) (List.length (List.take (Int.toNat ((lI l)-(ei+(1:Int)))) (List.drop (Int.toNat (ei+(1:Int))) l))-1-k7) (0,0)).2)≤12000000∧-2000000000000≤d7.1∧d7.1≤2000000000000∧-2000000000000≤d7.2∧d7.2≤2000000000000)∧w7=w7∧(∃ d8:Int×Int,((l=l∧ei=ei∧True∧True∧True∧True∧True)∧(((0:Int)=(0:Int)∧(0:Int)=(0:Int)∧(([]:List SV)=[]))∧(g=g∧s=s∧l=l∧(([]:List SV)=[]))∧((forthW g s l)=(forthW g s l)∧false=false)∧(((beforeB s (d7.1,d7.2) (((List.getD (List.take (Int.toNat ((lI l)-(ei+(1:Int)))) (List.drop (Int.toNat (ei+(1:Int))) l)) (List.length (List.take (Int.toNat ((lI l)-(ei+(1:Int)))) (List.drop (Int.toNat (ei+(1:Int))) l))-1-k7) (0,0)).1),((List.getD (List.take (Int.toNat ((lI l)-(ei+(1:Int)))) (List.drop (Int.toNat (ei+(1:Int))) l)) (List.length (List.take (Int.toNat ((lI l)-(ei+(1:Int)))) (List.drop (Int.toNat (ei+(1:Int))) l))-1-k7) (0,0)).2))).1)=d8.1∧((beforeB s (d7.1,d7.2) (((List.getD (List.take (Int.toNat ((lI l)-(ei+(1:Int)))) (List.drop (Int.toNat (ei+(1:Int))) l)) (List.length (List.take (Int.toNat ((lI l)-(ei+(1:Int)))) (List.drop (Int.toNat (ei+(1:Int))) l))-1-k7) (0,0)).1),((List.getD (List.take (Int.toNat ((lI l)-(ei+(1:Int)))) (List.drop (Int.toNat (ei+(1:Int))) l)) (List.length (List.take (Int.toNat ((lI l)-(ei+(1:Int)))) (List.drop (Int.toNat (ei+(1:Int))) l))-1-k7) (0,0)).2))).2)=d8.2∧(([]:List SV)=[]))∧True))∧q7 d8))
       (fun (d9:Int×Int) =>
        (0≤ei)∧(ei<(List.length (forthW g s l)))∧(0≤ei)∧(ei<(List.length l))∧((True∧True∧True∧True∧True∧((gD l ei (0,0)).1=(gD l ei (0,0)).1∧(gD l ei (0,0)).2=(gD l ei (0,0)).2∧(([]:List SV)=[]))∧True)∧(((0:Int)=(0:Int)∧(0:Int)=(0:Int)∧(([]:List SV)=[]))∧(g=g∧s=s∧l=l∧(([]:List SV)=[]))∧(d9.1=d9.1∧d9.2=d9.2∧(([]:List SV)=[]))∧((gD (forthW g s l) ei (0,0)).1=(gD (forthW g s l) ei (0,0)).1∧(gD (forthW g s l) ei (0,0)).2=(gD (forthW g s l) ei (0,0)).2∧(([]:List SV)=[]))∧((0:Int)=(0:Int)∧(0:Int)=(0:Int)∧(([]:List SV)=[]))∧((forthW g s l)=(forthW g s l)∧false=false)∧True))∧((0≤ei)∧(ei<(List.length (forthW g s l)))∧(0≤ei)∧(ei<(List.length l))∧((True∧True∧True∧True∧True∧((gD l ei (0,0)).1=(gD l ei (0,0)).1∧(gD l ei (0,0)).2=(gD l ei (0,0)).2∧(([]:List SV)=[]))∧True)∧(((0:Int)=(0:Int)∧(0:Int)=(0:Int)∧(([]:List SV)=[]))∧(g=g∧s=s∧l=l∧(([]:List SV)=[]))∧(d9.1=d9.1∧d9.2=d9.2∧(([]:List SV)=[]))∧((gD (forthW g s l) ei (0,0)).1=(gD (forthW g s l) ei (0,0)).1∧(gD (forthW g s l) ei (0,0)).2=(gD (forthW g s l) ei (0,0)).2∧(([]:List SV)=[]))∧((0:Int)=(0:Int)∧(0:Int)=(0:Int)∧(([]:List SV)=[]))∧((forthW g s l)=(forthW g s l)∧false=false)∧True)))∧(((gD l ei (0,0)).1==(1:Int))=true →
         (I64 ((gD (forthW g s l) ei (0,0)).1-d9.2))∧(I64 ((gD (forthW g s l) ei (0,0)).2-d9.1))∧(0≤s∧s≤1000∧0≤((gD l ei (0,0)).2)∧((gD l ei (0,0)).2)≤12000000)∧(True)∧((((gmax ((gD (forthW g s l) ei (0,0)).1-d9.2) ((realB s (((gD l ei (0,0)).1),((gD l ei (0,0)).2))).1))=((wasSp g s l ei).1)∧(gmin ((gD (forthW g s l) ei (0,0)).2-d9.1) ((realB s (((gD l ei (0,0)).1),((gD l ei (0,0)).2))).2))=((wasSp g s l ei).2)∧(([]:List SV)=[]))∧(0:Int)=(wasErr g s l ei)∧(([]:List SV)=[]))∧(True))) ∧
        (((gD l ei (0,0)).1==(1:Int))=false →
         (((gD l ei (0,0)).1==(2:Int))=true →
          (I64 (d9.1-(gD (forthW g s l) ei (0,0)).2))∧(I64 (d9.2-(gD (forthW g s l) ei (0,0)).1))∧(0≤s∧s≤1000∧0≤((gD l ei (0,0)).2)∧((gD l ei (0,0)).2)≤12000000)∧(True)∧((((gmax (d9.1-(gD (forthW g s l) ei (0,0)).2) ((realB s (((gD l ei (0,0)).1),((gD l ei (0,0)).2))).1))=((wasSp g s l ei).1)∧(gmin (d9.2-(gD (forthW g s l) ei (0,0)).1) ((realB s (((gD l ei (0,0)).1),((gD l ei (0,0)).2))).2))=((wasSp g s l ei).2)∧(([]:List SV)=[]))∧(0:Int)=(wasErr g s l ei)∧(([]:List SV)=[]))∧(True))) ∧
         (((gD l ei (0,0)).1==(2:Int))=false →
          (True)∧(0≤s∧s≤1000∧0≤((gD l ei (0,0)).2)∧((gD l ei (0,0)).2)≤12000000)∧(True)∧((((gmax (gmax ((gD (forthW g s l) ei (0,0)).1) d9.1) ((realB s (((gD l ei (0,0)).1),((gD l ei (0,0)).2))).1))=((wasSp g s l ei).1)∧(gmin (gmin ((gD (forthW g s l) ei (0,0)).2) d9.2) ((realB s (((gD l ei (0,0)).1),((gD l ei (0,0)).2))).2))=((wasSp g s l ei).2)∧(([]:List SV)=[]))∧(0:Int)=(wasErr g s l ei)∧(([]:List SV)=[]))∧(True))))) d70)))) ∧
   ((decide ((lI l) > (40:Int)))=false →
    (l.length≤1000000∧∀ x∈l,(fun (x1:Int×Int)=>True) x)∧((l.any (fun (x1:Int×Int)=>(!inI x1.1 1 3||!inI x1.2 0 12000000)))=true →
     w1=w1∧(((2:Int) != (0:Int))=true →
      ((((0:Int)=((wasSp g s l ei).1)∧(0:Int)=((wasSp g s l ei).2)∧(([]:List SV)=[]))∧(2:Int)=(wasErr g s l ei)∧(([]:List SV)=[]))∧(True))) ∧
     (((2:Int) != (0:Int))=false →
      (bookOk (0:Int) (0:Int) ([]:List (Int×Int)))∧((decide ((wrongI (0:Int) (0:Int) ([]:List (Int×Int)))≥(0:Int)))=true →
       ((((0:Int)=((wasSp g s l ei).1)∧(0:Int)=((wasSp g s l ei).2)∧(([]:List SV)=[]))∧(90:Int)=(wasErr g s l ei)∧(([]:List SV)=[]))∧(True))) ∧
      ((decide ((wrongI (0:Int) (0:Int) ([]:List (Int×Int)))≥(0:Int)))=false →
       (I64 ((lI l)-(1:Int)))∧([ei].length≤1000000)∧((!(!([ei].any fun n=>decide (n<(0:Int))||decide (((lI l)-(1:Int))<n))))=true →
        ((((0:Int)=((wasSp g s l ei).1)∧(0:Int)=((wasSp g s l ei).2)∧(([]:List SV)=[]))∧(7:Int)=(wasErr g s l ei)∧(([]:List SV)=[]))∧(True))) ∧
       ((!(!([ei].any fun n=>decide (n<(0:Int))||decide (((lI l)-(1:Int))<n))))=false →
        (True)∧(I64 (ei+(1:Int)))∧(0≤(ei+(1:Int)))∧((ei+(1:Int))≤(lI l))∧((lI l)≤(List.length l))∧∀ w10:List Value,w10=w10∧(List.length (List.take (Int.toNat ((lI l)-(ei+(1:Int)))) (List.drop (Int.toNat (ei+(1:Int))) l))<4611686018427387904)∧∃ (e11:Unit) (d110:Int×Int),((l=l∧ei=ei∧True∧True∧True∧True∧True)∧(((0:Int)=(0:Int)∧(0:Int)=(0:Int)∧(([]:List SV)=[]))∧((0:Int)=g∧(0:Int)=s∧l=[]∧(([]:List SV)=[]))∧((forthW (0:Int) (0:Int) ([]:List (Int×Int)))=(forthW g s l)∧false=false)∧((0:Int)=d110.1∧(1099511627776:Int)=d110.2∧(([]:List SV)=[]))∧True)) ∧
        RangeP (List.length (List.take (Int.toNat ((lI l)-(ei+(1:Int)))) (List.drop (Int.toNat (ei+(1:Int))) l))) (fun (k11:Nat) (d11:Int×Int) (q11:(Int×Int)→Prop)=>∀ w11:List Value,
         (0≤s∧s≤1000∧0≤((List.getD (List.take (Int.toNat ((lI l)-(ei+(1:Int)))) (List.drop (Int.toNat (ei+(1:Int))) l)) (List.length (List.take (Int.toNat ((lI l)-(ei+(1:Int)))) (List.drop (Int.toNat (ei+(1:Int))) l))-1-k11) (0,0)).2)∧((List.getD (List.take (Int.toNat ((lI l)-(ei+(1:Int)))) (List.drop (Int.toNat (ei+(1:Int))) l)) (List.length (List.take (Int.toNat ((lI l)-(ei+(1:Int)))) (List.drop (Int.toNat (ei+(1:Int))) l))-1-k11) (0,0)).2)≤12000000∧-2000000000000≤d11.1∧d11.1≤2000000000000∧-2000000000000≤d11.2∧d11.2≤2000000000000)∧w11=w11∧(∃ d12:Int×Int,((l=l∧ei=ei∧True∧True∧True∧True∧True)∧(((0:Int)=(0:Int)∧(0:Int)=(0:Int)∧(([]:List SV)=[]))∧(g=g∧s=s∧l=l∧(([]:List SV)=[]))∧((forthW g s l)=(forthW g s l)∧false=false)∧(((beforeB s (d11.1,d11.2) (((List.getD (List.take (Int.toNat ((lI l)-(ei+(1:Int)))) (List.drop (Int.toNat (ei+(1:Int))) l)) (List.length (List.take (Int.toNat ((lI l)-(ei+(1:Int)))) (List.drop (Int.toNat (ei+(1:Int))) l))-1-k11) (0,0)).1),((List.getD (List.take (Int.toNat ((lI l)-(ei+(1:Int)))) (List.drop (Int.toNat (ei+(1:Int))) l)) (List.length (List.take (Int.toNat ((lI l)-(ei+(1:Int)))) (List.drop (Int.toNat (ei+(1:Int))) l))-1-k11) (0,0)).2))).1)=d12.1∧((beforeB s (d11.1,d11.2) (((List.getD (List.take (Int.toNat ((lI l)-(ei+(1:Int)))) (List.drop (Int.toNat (ei+(1:Int))) l)) (List.length (List.take (Int.toNat ((lI l)-(ei+(1:Int)))) (List.drop (Int.toNat (ei+(1:Int))) l))-1-k11) (0,0)).1),((List.getD (List.take (Int.toNat ((lI l)-(ei+(1:Int)))) (List.drop (Int.toNat (ei+(1:Int))) l)) (List.length (List.take (Int.toNat ((lI l)-(ei+(1:Int)))) (List.drop (Int.toNat (ei+(1:Int))) l))-1-k11) (0,0)).2))).2)=d12.2∧(([]:List SV)=[]))∧True))∧q11 d12))
        (fun (d13:Int×Int) =>
         (0≤ei)∧(ei<(List.length (forthW g s l)))∧(0≤ei)∧(ei<(List.length l))∧((True∧True∧True∧True∧True∧((gD l ei (0,0)).1=(gD l ei (0,0)).1∧(gD l ei (0,0)).2=(gD l ei (0,0)).2∧(([]:List SV)=[]))∧True)∧(((0:Int)=(0:Int)∧(0:Int)=(0:Int)∧(([]:List SV)=[]))∧(g=g∧s=s∧l=l∧(([]:List SV)=[]))∧(d13.1=d13.1∧d13.2=d13.2∧(([]:List SV)=[]))∧((gD (forthW g s l) ei (0,0)).1=(gD (forthW g s l) ei (0,0)).1∧(gD (forthW g s l) ei (0,0)).2=(gD (forthW g s l) ei (0,0)).2∧(([]:List SV)=[]))∧((0:Int)=(0:Int)∧(0:Int)=(0:Int)∧(([]:List SV)=[]))∧((forthW g s l)=(forthW g s l)∧false=false)∧True))∧((0≤ei)∧(ei<(List.length (forthW g s l)))∧(0≤ei)∧(ei<(List.length l))∧((True∧True∧True∧True∧True∧((gD l ei (0,0)).1=(gD l ei (0,0)).1∧(gD l ei (0,0)).2=(gD l ei (0,0)).2∧(([]:List SV)=[]))∧True)∧(((0:Int)=(0:Int)∧(0:Int)=(0:Int)∧(([]:List SV)=[]))∧(g=g∧s=s∧l=l∧(([]:List SV)=[]))∧(d13.1=d13.1∧d13.2=d13.2∧(([]:List SV)=[]))∧((gD (forthW g s l) ei (0,0)).1=(gD (forthW g s l) ei (0,0)).1∧(gD (forthW g s l) ei (0,0)).2=(gD (forthW g s l) ei (0,0)).2∧(([]:List SV)=[]))∧((0:Int)=(0:Int)∧(0:Int)=(0:Int)∧(([]:List SV)=[]))∧((forthW g s l)=(forthW g s l)∧false=false)∧True)))∧(((gD l ei (0,0)).1==(1:Int))=true →
          (I64 ((gD (forthW g s l) ei (0,0)).1-d13.2))∧(I64 ((gD (forthW g s l) ei (0,0)).2-d13.1))∧(0≤s∧s≤1000∧0≤((gD l ei (0,0)).2)∧((gD l ei (0,0)).2)≤12000000)∧(True)∧((((gmax ((gD (forthW g s l) ei (0,0)).1-d13.2) ((realB s (((gD l ei (0,0)).1),((gD l ei (0,0)).2))).1))=((wasSp g s l ei).1)∧(gmin ((gD (forthW g s l) ei (0,0)).2-d13.1) ((realB s (((gD l ei (0,0)).1),((gD l ei (0,0)).2))).2))=((wasSp g s l ei).2)∧(([]:List SV)=[]))∧(0:Int)=(wasErr g s l ei)∧(([]:List SV)=[]))∧(True))) ∧
         (((gD l ei (0,0)).1==(1:Int))=false →
          (((gD l ei (0,0)).1==(2:Int))=true →
           (I64 (d13.1-(gD (forthW g s l) ei (0,0)).2))∧(I64 (d13.2-(gD (forthW g s l) ei (0,0)).1))∧(0≤s∧s≤1000∧0≤((gD l ei (0,0)).2)∧((gD l ei (0,0)).2)≤12000000)∧(True)∧((((gmax (d13.1-(gD (forthW g s l) ei (0,0)).2) ((realB s (((gD l ei (0,0)).1),((gD l ei (0,0)).2))).1))=((wasSp g s l ei).1)∧(gmin (d13.2-(gD (forthW g s l) ei (0,0)).1) ((realB s (((gD l ei (0,0)).1),((gD l ei (0,0)).2))).2))=((wasSp g s l ei).2)∧(([]:List SV)=[]))∧(0:Int)=(wasErr g s l ei)∧(([]:List SV)=[]))∧(True))) ∧
          (((gD l ei (0,0)).1==(2:Int))=false →
           (True)∧(0≤s∧s≤1000∧0≤((gD l ei (0,0)).2)∧((gD l ei (0,0)).2)≤12000000)∧(True)∧((((gmax (gmax ((gD (forthW g s l) ei (0,0)).1) d13.1) ((realB s (((gD l ei (0,0)).1),((gD l ei (0,0)).2))).1))=((wasSp g s l ei).1)∧(gmin (gmin ((gD (forthW g s l) ei (0,0)).2) d13.2) ((realB s (((gD l ei (0,0)).1),((gD l ei (0,0)).2))).2))=((wasSp g s l ei).2)∧(([]:List SV)=[]))∧(0:Int)=(wasErr g s l ei)∧(([]:List SV)=[]))∧(True))))) d110)))) ∧
    ((l.any (fun (x1:Int×Int)=>(!inI x1.1 1 3||!inI x1.2 0 12000000)))=false →
     w1=w1∧(((0:Int) != (0:Int))=true →
      ((((0:Int)=((wasSp g s l ei).1)∧(0:Int)=((wasSp g s l ei).2)∧(([]:List SV)=[]))∧(0:Int)=(wasErr g s l ei)∧(([]:List SV)=[]))∧(True))) ∧
     (((0:Int) != (0:Int))=false →
      (bookOk g s l)∧((decide ((wrongI g s l)≥(0:Int)))=true →
       ((((0:Int)=((wasSp g s l ei).1)∧(0:Int)=((wasSp g s l ei).2)∧(([]:List SV)=[]))∧(90:Int)=(wasErr g s l ei)∧(([]:List SV)=[]))∧(True))) ∧
      ((decide ((wrongI g s l)≥(0:Int)))=false →
       (I64 ((lI l)-(1:Int)))∧([ei].length≤1000000)∧((!(!([ei].any fun n=>decide (n<(0:Int))||decide (((lI l)-(1:Int))<n))))=true →
        ((((0:Int)=((wasSp g s l ei).1)∧(0:Int)=((wasSp g s l ei).2)∧(([]:List SV)=[]))∧(7:Int)=(wasErr g s l ei)∧(([]:List SV)=[]))∧(True))) ∧
       ((!(!([ei].any fun n=>decide (n<(0:Int))||decide (((lI l)-(1:Int))<n))))=false →
        (True)∧(I64 (ei+(1:Int)))∧(0≤(ei+(1:Int)))∧((ei+(1:Int))≤(lI l))∧((lI l)≤(List.length l))∧∀ w14:List Value,w14=w14∧(List.length (List.take (Int.toNat ((lI l)-(ei+(1:Int)))) (List.drop (Int.toNat (ei+(1:Int))) l))<4611686018427387904)∧∃ (e17:Unit) (d170:Int×Int),((l=l∧ei=ei∧True∧True∧True∧True∧True)∧(((0:Int)=(0:Int)∧(0:Int)=(0:Int)∧(([]:List SV)=[]))∧(g=g∧s=s∧l=l∧(([]:List SV)=[]))∧((forthW g s l)=(forthW g s l)∧false=false)∧((0:Int)=d170.1∧(1099511627776:Int)=d170.2∧(([]:List SV)=[]))∧True)) ∧
        RangeP (List.length (List.take (Int.toNat ((lI l)-(ei+(1:Int)))) (List.drop (Int.toNat (ei+(1:Int))) l))) (fun (k17:Nat) (d17:Int×Int) (q17:(Int×Int)→Prop)=>∀ w17:List Value,
         (0≤s∧s≤1000∧0≤((List.getD (List.take (Int.toNat ((lI l)-(ei+(1:Int)))) (List.drop (Int.toNat (ei+(1:Int))) l)) (List.length (List.take (Int.toNat ((lI l)-(ei+(1:Int)))) (List.drop (Int.toNat (ei+(1:Int))) l))-1-k17) (0,0)).2)∧((List.getD (List.take (Int.toNat ((lI l)-(ei+(1:Int)))) (List.drop (Int.toNat (ei+(1:Int))) l)) (List.length (List.take (Int.toNat ((lI l)-(ei+(1:Int)))) (List.drop (Int.toNat (ei+(1:Int))) l))-1-k17) (0,0)).2)≤12000000∧-2000000000000≤d17.1∧d17.1≤2000000000000∧-2000000000000≤d17.2∧d17.2≤2000000000000)∧w17=w17∧(∃ d18:Int×Int,((l=l∧ei=ei∧True∧True∧True∧True∧True)∧(((0:Int)=(0:Int)∧(0:Int)=(0:Int)∧(([]:List SV)=[]))∧(g=g∧s=s∧l=l∧(([]:List SV)=[]))∧((forthW g s l)=(forthW g s l)∧false=false)∧(((beforeB s (d17.1,d17.2) (((List.getD (List.take (Int.toNat ((lI l)-(ei+(1:Int)))) (List.drop (Int.toNat (ei+(1:Int))) l)) (List.length (List.take (Int.toNat ((lI l)-(ei+(1:Int)))) (List.drop (Int.toNat (ei+(1:Int))) l))-1-k17) (0,0)).1),((List.getD (List.take (Int.toNat ((lI l)-(ei+(1:Int)))) (List.drop (Int.toNat (ei+(1:Int))) l)) (List.length (List.take (Int.toNat ((lI l)-(ei+(1:Int)))) (List.drop (Int.toNat (ei+(1:Int))) l))-1-k17) (0,0)).2))).1)=d18.1∧((beforeB s (d17.1,d17.2) (((List.getD (List.take (Int.toNat ((lI l)-(ei+(1:Int)))) (List.drop (Int.toNat (ei+(1:Int))) l)) (List.length (List.take (Int.toNat ((lI l)-(ei+(1:Int)))) (List.drop (Int.toNat (ei+(1:Int))) l))-1-k17) (0,0)).1),((List.getD (List.take (Int.toNat ((lI l)-(ei+(1:Int)))) (List.drop (Int.toNat (ei+(1:Int))) l)) (List.length (List.take (Int.toNat ((lI l)-(ei+(1:Int)))) (List.drop (Int.toNat (ei+(1:Int))) l))-1-k17) (0,0)).2))).2)=d18.2∧(([]:List SV)=[]))∧True))∧q17 d18))
        (fun (d19:Int×Int) =>
         (0≤ei)∧(ei<(List.length (forthW g s l)))∧(0≤ei)∧(ei<(List.length l))∧((True∧True∧True∧True∧True∧((gD l ei (0,0)).1=(gD l ei (0,0)).1∧(gD l ei (0,0)).2=(gD l ei (0,0)).2∧(([]:List SV)=[]))∧True)∧(((0:Int)=(0:Int)∧(0:Int)=(0:Int)∧(([]:List SV)=[]))∧(g=g∧s=s∧l=l∧(([]:List SV)=[]))∧(d19.1=d19.1∧d19.2=d19.2∧(([]:List SV)=[]))∧((gD (forthW g s l) ei (0,0)).1=(gD (forthW g s l) ei (0,0)).1∧(gD (forthW g s l) ei (0,0)).2=(gD (forthW g s l) ei (0,0)).2∧(([]:List SV)=[]))∧((0:Int)=(0:Int)∧(0:Int)=(0:Int)∧(([]:List SV)=[]))∧((forthW g s l)=(forthW g s l)∧false=false)∧True))∧((0≤ei)∧(ei<(List.length (forthW g s l)))∧(0≤ei)∧(ei<(List.length l))∧((True∧True∧True∧True∧True∧((gD l ei (0,0)).1=(gD l ei (0,0)).1∧(gD l ei (0,0)).2=(gD l ei (0,0)).2∧(([]:List SV)=[]))∧True)∧(((0:Int)=(0:Int)∧(0:Int)=(0:Int)∧(([]:List SV)=[]))∧(g=g∧s=s∧l=l∧(([]:List SV)=[]))∧(d19.1=d19.1∧d19.2=d19.2∧(([]:List SV)=[]))∧((gD (forthW g s l) ei (0,0)).1=(gD (forthW g s l) ei (0,0)).1∧(gD (forthW g s l) ei (0,0)).2=(gD (forthW g s l) ei (0,0)).2∧(([]:List SV)=[]))∧((0:Int)=(0:Int)∧(0:Int)=(0:Int)∧(([]:List SV)=[]))∧((forthW g s l)=(forthW g s l)∧false=false)∧True)))∧(((gD l ei (0,0)).1==(1:Int))=true →
          (I64 ((gD (forthW g s l) ei (0,0)).1-d19.2))∧(I64 ((gD (forthW g s l) ei (0,0)).2-d19.1))∧(0≤s∧s≤1000∧0≤((gD l ei (0,0)).2)∧((gD l ei (0,0)).2)≤12000000)∧(True)∧((((gmax ((gD (forthW g s l) ei (0,0)).1-d19.2) ((realB s (((gD l ei (0,0)).1),((gD l ei (0,0)).2))).1))=((wasSp g s l ei).1)∧(gmin ((gD (forthW g s l) ei (0,0)).2-d19.1) ((realB s (((gD l ei (0,0)).1),((gD l ei (0,0)).2))).2))=((wasSp g s l ei).2)∧(([]:List SV)=[]))∧(0:Int)=(wasErr g s l ei)∧(([]:List SV)=[]))∧(True))) ∧
         (((gD l ei (0,0)).1==(1:Int))=false →
          (((gD l ei (0,0)).1==(2:Int))=true →
           (I64 (d19.1-(gD (forthW g s l) ei (0,0)).2))∧(I64 (d19.2-(gD (forthW g s l) ei (0,0)).1))∧(0≤s∧s≤1000∧0≤((gD l ei (0,0)).2)∧((gD l ei (0,0)).2)≤12000000)∧(True)∧((((gmax (d19.1-(gD (forthW g s l) ei (0,0)).2) ((realB s (((gD l ei (0,0)).1),((gD l ei (0,0)).2))).1))=((wasSp g s l ei).1)∧(gmin (d19.2-(gD (forthW g s l) ei (0,0)).1) ((realB s (((gD l ei (0,0)).1),((gD l ei (0,0)).2))).2))=((wasSp g s l ei).2)∧(([]:List SV)=[]))∧(0:Int)=(wasErr g s l ei)∧(([]:List SV)=[]))∧(True))) ∧
          (((gD l ei (0,0)).1==(2:Int))=false →
           (True)∧(0≤s∧s≤1000∧0≤((gD l ei (0,0)).2)∧((gD l ei (0,0)).2)≤12000000)∧(True)∧((((gmax (gmax ((gD (forthW g s l) ei (0,0)).1) d19.1) ((realB s (((gD l ei (0,0)).1),((gD l ei (0,0)).2))).1))=((wasSp g s l ei).1)∧(gmin (gmin ((gD (forthW g s l) ei (0,0)).2) d19.2) ((realB s (((gD l ei (0,0)).1),((gD l ei (0,0)).2))).2))=((wasSp g s l ei).2)∧(([]:List SV)=[]))∧(0:Int)=(wasErr g s l ei)∧(([]:List SV)=[]))∧(True))))) d170))))))) ∧
 ((!(!([g].any fun n=>decide (n<(1:Int))||decide ((1000000:Int)<n))))=false →
  ([s].length≤1000000)∧((!(!([s].any fun n=>decide (n<(0:Int))||decide ((1000:Int)<n))))=true →
   w1=w1∧(((2:Int) != (0:Int))=true →
    ((((0:Int)=((wasSp g s l ei).1)∧(0:Int)=((wasSp g s l ei).2)∧(([]:List SV)=[]))∧(2:Int)=(wasErr g s l ei)∧(([]:List SV)=[]))∧(True))) ∧
   (((2:Int) != (0:Int))=false →
    (bookOk (0:Int) (0:Int) ([]:List (Int×Int)))∧((decide ((wrongI (0:Int) (0:Int) ([]:List (Int×Int)))≥(0:Int)))=true →
     ((((0:Int)=((wasSp g s l ei).1)∧(0:Int)=((wasSp g s l ei).2)∧(([]:List SV)=[]))∧(90:Int)=(wasErr g s l ei)∧(([]:List SV)=[]))∧(True))) ∧
    ((decide ((wrongI (0:Int) (0:Int) ([]:List (Int×Int)))≥(0:Int)))=false →
     (I64 ((lI l)-(1:Int)))∧([ei].length≤1000000)∧((!(!([ei].any fun n=>decide (n<(0:Int))||decide (((lI l)-(1:Int))<n))))=true →
      ((((0:Int)=((wasSp g s l ei).1)∧(0:Int)=((wasSp g s l ei).2)∧(([]:List SV)=[]))∧(7:Int)=(wasErr g s l ei)∧(([]:List SV)=[]))∧(True))) ∧
     ((!(!([ei].any fun n=>decide (n<(0:Int))||decide (((lI l)-(1:Int))<n))))=false →
      (True)∧(I64 (ei+(1:Int)))∧(0≤(ei+(1:Int)))∧((ei+(1:Int))≤(lI l))∧((lI l)≤(List.length l))∧∀ w20:List Value,w20=w20∧(List.length (List.take (Int.toNat ((lI l)-(ei+(1:Int)))) (List.drop (Int.toNat (ei+(1:Int))) l))<4611686018427387904)∧∃ (e21:Unit) (d210:Int×Int),((l=l∧ei=ei∧True∧True∧True∧True∧True)∧(((0:Int)=(0:Int)∧(0:Int)=(0:Int)∧(([]:List SV)=[]))∧((0:Int)=g∧(0:Int)=s∧l=[]∧(([]:List SV)=[]))∧((forthW (0:Int) (0:Int) ([]:List (Int×Int)))=(forthW g s l)∧false=false)∧((0:Int)=d210.1∧(1099511627776:Int)=d210.2∧(([]:List SV)=[]))∧True)) ∧
      RangeP (List.length (List.take (Int.toNat ((lI l)-(ei+(1:Int)))) (List.drop (Int.toNat (ei+(1:Int))) l))) (fun (k21:Nat) (d21:Int×Int) (q21:(Int×Int)→Prop)=>∀ w21:List Value,
       (0≤s∧s≤1000∧0≤((List.getD (List.take (Int.toNat ((lI l)-(ei+(1:Int)))) (List.drop (Int.toNat (ei+(1:Int))) l)) (List.length (List.take (Int.toNat ((lI l)-(ei+(1:Int)))) (List.drop (Int.toNat (ei+(1:Int))) l))-1-k21) (0,0)).2)∧((List.getD (List.take (Int.toNat ((lI l)-(ei+(1:Int)))) (List.drop (Int.toNat (ei+(1:Int))) l)) (List.length (List.take (Int.toNat ((lI l)-(ei+(1:Int)))) (List.drop (Int.toNat (ei+(1:Int))) l))-1-k21) (0,0)).2)≤12000000∧-2000000000000≤d21.1∧d21.1≤2000000000000∧-2000000000000≤d21.2∧d21.2≤2000000000000)∧w21=w21∧(∃ d22:Int×Int,((l=l∧ei=ei∧True∧True∧True∧True∧True)∧(((0:Int)=(0:Int)∧(0:Int)=(0:Int)∧(([]:List SV)=[]))∧(g=g∧s=s∧l=l∧(([]:List SV)=[]))∧((forthW g s l)=(forthW g s l)∧false=false)∧(((beforeB s (d21.1,d21.2) (((List.getD (List.take (Int.toNat ((lI l)-(ei+(1:Int)))) (List.drop (Int.toNat (ei+(1:Int))) l)) (List.length (List.take (Int.toNat ((lI l)-(ei+(1:Int)))) (List.drop (Int.toNat (ei+(1:Int))) l))-1-k21) (0,0)).1),((List.getD (List.take (Int.toNat ((lI l)-(ei+(1:Int)))) (List.drop (Int.toNat (ei+(1:Int))) l)) (List.length (List.take (Int.toNat ((lI l)-(ei+(1:Int)))) (List.drop (Int.toNat (ei+(1:Int))) l))-1-k21) (0,0)).2))).1)=d22.1∧((beforeB s (d21.1,d21.2) (((List.getD (List.take (Int.toNat ((lI l)-(ei+(1:Int)))) (List.drop (Int.toNat (ei+(1:Int))) l)) (List.length (List.take (Int.toNat ((lI l)-(ei+(1:Int)))) (List.drop (Int.toNat (ei+(1:Int))) l))-1-k21) (0,0)).1),((List.getD (List.take (Int.toNat ((lI l)-(ei+(1:Int)))) (List.drop (Int.toNat (ei+(1:Int))) l)) (List.length (List.take (Int.toNat ((lI l)-(ei+(1:Int)))) (List.drop (Int.toNat (ei+(1:Int))) l))-1-k21) (0,0)).2))).2)=d22.2∧(([]:List SV)=[]))∧True))∧q21 d22))
      (fun (d23:Int×Int) =>
       (0≤ei)∧(ei<(List.length (forthW g s l)))∧(0≤ei)∧(ei<(List.length l))∧((True∧True∧True∧True∧True∧((gD l ei (0,0)).1=(gD l ei (0,0)).1∧(gD l ei (0,0)).2=(gD l ei (0,0)).2∧(([]:List SV)=[]))∧True)∧(((0:Int)=(0:Int)∧(0:Int)=(0:Int)∧(([]:List SV)=[]))∧(g=g∧s=s∧l=l∧(([]:List SV)=[]))∧(d23.1=d23.1∧d23.2=d23.2∧(([]:List SV)=[]))∧((gD (forthW g s l) ei (0,0)).1=(gD (forthW g s l) ei (0,0)).1∧(gD (forthW g s l) ei (0,0)).2=(gD (forthW g s l) ei (0,0)).2∧(([]:List SV)=[]))∧((0:Int)=(0:Int)∧(0:Int)=(0:Int)∧(([]:List SV)=[]))∧((forthW g s l)=(forthW g s l)∧false=false)∧True))∧((0≤ei)∧(ei<(List.length (forthW g s l)))∧(0≤ei)∧(ei<(List.length l))∧((True∧True∧True∧True∧True∧((gD l ei (0,0)).1=(gD l ei (0,0)).1∧(gD l ei (0,0)).2=(gD l ei (0,0)).2∧(([]:List SV)=[]))∧True)∧(((0:Int)=(0:Int)∧(0:Int)=(0:Int)∧(([]:List SV)=[]))∧(g=g∧s=s∧l=l∧(([]:List SV)=[]))∧(d23.1=d23.1∧d23.2=d23.2∧(([]:List SV)=[]))∧((gD (forthW g s l) ei (0,0)).1=(gD (forthW g s l) ei (0,0)).1∧(gD (forthW g s l) ei (0,0)).2=(gD (forthW g s l) ei (0,0)).2∧(([]:List SV)=[]))∧((0:Int)=(0:Int)∧(0:Int)=(0:Int)∧(([]:List SV)=[]))∧((forthW g s l)=(forthW g s l)∧false=false)∧True)))∧(((gD l ei (0,0)).1==(1:Int))=true →
        (I64 ((gD (forthW g s l) ei (0,0)).1-d23.2))∧(I64 ((gD (forthW g s l) ei (0,0)).2-d23.1))∧(0≤s∧s≤1000∧0≤((gD l ei (0,0)).2)∧((gD l ei (0,0)).2)≤12000000)∧(True)∧((((gmax ((gD (forthW g s l) ei (0,0)).1-d23.2) ((realB s (((gD l ei (0,0)).1),((gD l ei (0,0)).2))).1))=((wasSp g s l ei).1)∧(gmin ((gD (forthW g s l) ei (0,0)).2-d23.1) ((realB s (((gD l ei (0,0)).1),((gD l ei (0,0)).2))).2))=((wasSp g s l ei).2)∧(([]:List SV)=[]))∧(0:Int)=(wasErr g s l ei)∧(([]:List SV)=[]))∧(True))) ∧
       (((gD l ei (0,0)).1==(1:Int))=false →
        (((gD l ei (0,0)).1==(2:Int))=true →
         (I64 (d23.1-(gD (forthW g s l) ei (0,0)).2))∧(I64 (d23.2-(gD (forthW g s l) ei (0,0)).1))∧(0≤s∧s≤1000∧0≤((gD l ei (0,0)).2)∧((gD l ei (0,0)).2)≤12000000)∧(True)∧((((gmax (d23.1-(gD (forthW g s l) ei (0,0)).2) ((realB s (((gD l ei (0,0)).1),((gD l ei (0,0)).2))).1))=((wasSp g s l ei).1)∧(gmin (d23.2-(gD (forthW g s l) ei (0,0)).1) ((realB s (((gD l ei (0,0)).1),((gD l ei (0,0)).2))).2))=((wasSp g s l ei).2)∧(([]:List SV)=[]))∧(0:Int)=(wasErr g s l ei)∧(([]:List SV)=[]))∧(True))) ∧
        (((gD l ei (0,0)).1==(2:Int))=false →
         (True)∧(0≤s∧s≤1000∧0≤((gD l ei (0,0)).2)∧((gD l ei (0,0)).2)≤12000000)∧(True)∧((((gmax (gmax ((gD (forthW g s l) ei (0,0)).1) d23.1) ((realB s (((gD l ei (0,0)).1),((gD l ei (0,0)).2))).1))=((wasSp g s l ei).1)∧(gmin (gmin ((gD (forthW g s l) ei (0,0)).2) d23.2) ((realB s (((gD l ei (0,0)).1),((gD l ei (0,0)).2))).2))=((wasSp g s l ei).2)∧(([]:List SV)=[]))∧(0:Int)=(wasErr g s l ei)∧(([]:List SV)=[]))∧(True))))) d210)))) ∧
  ((!(!([s].any fun n=>decide (n<(0:Int))||decide ((1000:Int)<n))))=false →
   ((decide ((lI l) > (40:Int)))=true →
    w1=w1∧(((5:Int) != (0:Int))=true →
     ((((0:Int)=((wasSp g s l ei).1)∧(0:Int)=((wasSp g s l ei).2)∧(([]:List SV)=[]))∧(5:Int)=(wasErr g s l ei)∧(([]:List SV)=[]))∧(True))) ∧
    (((5:Int) != (0:Int))=false →
     (bookOk (0:Int) (0:Int) ([]:List (Int×Int)))∧((decide ((wrongI (0:Int) (0:Int) ([]:List (Int×Int)))≥(0:Int)))=true →
      ((((0:Int)=((wasSp g s l ei).1)∧(0:Int)=((wasSp g s l ei).2)∧(([]:List SV)=[]))∧(90:Int)=(wasErr g s l ei)∧(([]:List SV)=[]))∧(True))) ∧
     ((decide ((wrongI (0:Int) (0:Int) ([]:List (Int×Int)))≥(0:Int)))=false →
      (I64 ((lI l)-(1:Int)))∧([ei].length≤1000000)∧((!(!([ei].any fun n=>decide (n<(0:Int))||decide (((lI l)-(1:Int))<n))))=true →
       ((((0:Int)=((wasSp g s l ei).1)∧(0:Int)=((wasSp g s l ei).2)∧(([]:List SV)=[]))∧(7:Int)=(wasErr g s l ei)∧(([]:List SV)=[]))∧(True))) ∧
      ((!(!([ei].any fun n=>decide (n<(0:Int))||decide (((lI l)-(1:Int))<n))))=false →
       (True)∧(I64 (ei+(1:Int)))∧(0≤(ei+(1:Int)))∧((ei+(1:Int))≤(lI l))∧((lI l)≤(List.length l))∧∀ w24:List Value,w24=w24∧(List.length (List.take (Int.toNat ((lI l)-(ei+(1:Int)))) (List.drop (Int.toNat (ei+(1:Int))) l))<4611686018427387904)∧∃ (e25:Unit) (d250:Int×Int),((l=l∧ei=ei∧True∧True∧True∧True∧True)∧(((0:Int)=(0:Int)∧(0:Int)=(0:Int)∧(([]:List SV)=[]))∧((0:Int)=g∧(0:Int)=s∧l=[]∧(([]:List SV)=[]))∧((forthW (0:Int) (0:Int) ([]:List (Int×Int)))=(forthW g s l)∧false=false)∧((0:Int)=d250.1∧(1099511627776:Int)=d250.2∧(([]:List SV)=[]))∧True)) ∧
       RangeP (List.length (List.take (Int.toNat ((lI l)-(ei+(1:Int)))) (List.drop (Int.toNat (ei+(1:Int))) l))) (fun (k25:Nat) (d25:Int×Int) (q25:(Int×Int)→Prop)=>∀ w25:List Value,
        (0≤s∧s≤1000∧0≤((List.getD (List.take (Int.toNat ((lI l)-(ei+(1:Int)))) (List.drop (Int.toNat (ei+(1:Int))) l)) (List.length (List.take (Int.toNat ((lI l)-(ei+(1:Int)))) (List.drop (Int.toNat (ei+(1:Int))) l))-1-k25) (0,0)).2)∧((List.getD (List.take (Int.toNat ((lI l)-(ei+(1:Int)))) (List.drop (Int.toNat (ei+(1:Int))) l)) (List.length (List.take (Int.toNat ((lI l)-(ei+(1:Int)))) (List.drop (Int.toNat (ei+(1:Int))) l))-1-k25) (0,0)).2)≤12000000∧-2000000000000≤d25.1∧d25.1≤2000000000000∧-2000000000000≤d25.2∧d25.2≤2000000000000)∧w25=w25∧(∃ d26:Int×Int,((l=l∧ei=ei∧True∧True∧True∧True∧True)∧(((0:Int)=(0:Int)∧(0:Int)=(0:Int)∧(([]:List SV)=[]))∧(g=g∧s=s∧l=l∧(([]:List SV)=[]))∧((forthW g s l)=(forthW g s l)∧false=false)∧(((beforeB s (d25.1,d25.2) (((List.getD (List.take (Int.toNat ((lI l)-(ei+(1:Int)))) (List.drop (Int.toNat (ei+(1:Int))) l)) (List.length (List.take (Int.toNat ((lI l)-(ei+(1:Int)))) (List.drop (Int.toNat (ei+(1:Int))) l))-1-k25) (0,0)).1),((List.getD (List.take (Int.toNat ((lI l)-(ei+(1:Int)))) (List.drop (Int.toNat (ei+(1:Int))) l)) (List.length (List.take (Int.toNat ((lI l)-(ei+(1:Int)))) (List.drop (Int.toNat (ei+(1:Int))) l))-1-k25) (0,0)).2))).1)=d26.1∧((beforeB s (d25.1,d25.2) (((List.getD (List.take (Int.toNat ((lI l)-(ei+(1:Int)))) (List.drop (Int.toNat (ei+(1:Int))) l)) (List.length (List.take (Int.toNat ((lI l)-(ei+(1:Int)))) (List.drop (Int.toNat (ei+(1:Int))) l))-1-k25) (0,0)).1),((List.getD (List.take (Int.toNat ((lI l)-(ei+(1:Int)))) (List.drop (Int.toNat (ei+(1:Int))) l)) (List.length (List.take (Int.toNat ((lI l)-(ei+(1:Int)))) (List.drop (Int.toNat (ei+(1:Int))) l))-1-k25) (0,0)).2))).2)=d26.2∧(([]:List SV)=[]))∧True))∧q25 d26))
       (fun (d27:Int×Int) =>
        (0≤ei)∧(ei<(List.length (forthW g s l)))∧(0≤ei)∧(ei<(List.length l))∧((True∧True∧True∧True∧True∧((gD l ei (0,0)).1=(gD l ei (0,0)).1∧(gD l ei (0,0)).2=(gD l ei (0,0)).2∧(([]:List SV)=[]))∧True)∧(((0:Int)=(0:Int)∧(0:Int)=(0:Int)∧(([]:List SV)=[]))∧(g=g∧s=s∧l=l∧(([]:List SV)=[]))∧(d27.1=d27.1∧d27.2=d27.2∧(([]:List SV)=[]))∧((gD (forthW g s l) ei (0,0)).1=(gD (forthW g s l) ei (0,0)).1∧(gD (forthW g s l) ei (0,0)).2=(gD (forthW g s l) ei (0,0)).2∧(([]:List SV)=[]))∧((0:Int)=(0:Int)∧(0:Int)=(0:Int)∧(([]:List SV)=[]))∧((forthW g s l)=(forthW g s l)∧false=false)∧True))∧((0≤ei)∧(ei<(List.length (forthW g s l)))∧(0≤ei)∧(ei<(List.length l))∧((True∧True∧True∧True∧True∧((gD l ei (0,0)).1=(gD l ei (0,0)).1∧(gD l ei (0,0)).2=(gD l ei (0,0)).2∧(([]:List SV)=[]))∧True)∧(((0:Int)=(0:Int)∧(0:Int)=(0:Int)∧(([]:List SV)=[]))∧(g=g∧s=s∧l=l∧(([]:List SV)=[]))∧(d27.1=d27.1∧d27.2=d27.2∧(([]:List SV)=[]))∧((gD (forthW g s l) ei (0,0)).1=(gD (forthW g s l) ei (0,0)).1∧(gD (forthW g s l) ei (0,0)).2=(gD (forthW g s l) ei (0,0)).2∧(([]:List SV)=[]))∧((0:Int)=(0:Int)∧(0:Int)=(0:Int)∧(([]:List SV)=[]))∧((forthW g s l)=(forthW g s l)∧false=false)∧True)))∧(((gD l ei (0,0)).1==(1:Int))=true →
         (I64 ((gD (forthW g s l) ei (0,0)).1-d27.2))∧(I64 ((gD (forthW g s l) ei (0,0)).2-d27.1))∧(0≤s∧s≤1000∧0≤((gD l ei (0,0)).2)∧((gD l ei (0,0)).2)≤12000000)∧(True)∧((((gmax ((gD (forthW g s l) ei (0,0)).1-d27.2) ((realB s (((gD l ei (0,0)).1),((gD l ei (0,0)).2))).1))=((wasSp g s l ei).1)∧(gmin ((gD (forthW g s l) ei (0,0)).2-d27.1) ((realB s (((gD l ei (0,0)).1),((gD l ei (0,0)).2))).2))=((wasSp g s l ei).2)∧(([]:List SV)=[]))∧(0:Int)=(wasErr g s l ei)∧(([]:List SV)=[]))∧(True))) ∧
        (((gD l ei (0,0)).1==(1:Int))=false →
         (((gD l ei (0,0)).1==(2:Int))=true →
          (I64 (d27.1-(gD (forthW g s l) ei (0,0)).2))∧(I64 (d27.2-(gD (forthW g s l) ei (0,0)).1))∧(0≤s∧s≤1000∧0≤((gD l ei (0,0)).2)∧((gD l ei (0,0)).2)≤12000000)∧(True)∧((((gmax (d27.1-(gD (forthW g s l) ei (0,0)).2) ((realB s (((gD l ei (0,0)).1),((gD l ei (0,0)).2))).1))=((wasSp g s l ei).1)∧(gmin (d27.2-(gD (forthW g s l) ei (0,0)).1) ((realB s (((gD l ei (0,0)).1),((gD l ei (0,0)).2))).2))=((wasSp g s l ei).2)∧(([]:List SV)=[]))∧(0:Int)=(wasErr g s l ei)∧(([]:List SV)=[]))∧(True))) ∧
         (((gD l ei (0,0)).1==(2:Int))=false →
          (True)∧(0≤s∧s≤1000∧0≤((gD l ei (0,0)).2)∧((gD l ei (0,0)).2)≤12000000)∧(True)∧((((gmax (gmax ((gD (forthW g s l) ei (0,0)).1) d27.1) ((realB s (((gD l ei (0,0)).1),((gD l ei (0,0)).2))).1))=((wasSp g s l ei).1)∧(gmin (gmin ((gD (forthW g s l) ei (0,0)).2) d27.2) ((realB s (((gD l ei (0,0)).1),((gD l ei (0,0)).2))).2))=((wasSp g s l ei).2)∧(([]:List SV)=[]))∧(0:Int)=(wasErr g s l ei)∧(([]:List SV)=[]))∧(True))))) d250)))) ∧
   ((decide ((lI l) > (40:Int)))=false →
    (l.length≤1000000∧∀ x∈l,(fun (x2:Int×Int)=>True) x)∧((l.any (fun (x2:Int×Int)=>(!inI x2.1 1 3||!inI x2.2 0 12000000)))=true →
     w1=w1∧(((2:Int) != (0:Int))=true →
      ((((0:Int)=((wasSp g s l ei).1)∧(0:Int)=((wasSp g s l ei).2)∧(([]:List SV)=[]))∧(2:Int)=(wasErr g s l ei)∧(([]:List SV)=[]))∧(True))) ∧
     (((2:Int) != (0:Int))=false →
      (bookOk (0:Int) (0:Int) ([]:List (Int×Int)))∧((decide ((wrongI (0:Int) (0:Int) ([]:List (Int×Int)))≥(0:Int)))=true →
       ((((0:Int)=((wasSp g s l ei).1)∧(0:Int)=((wasSp g s l ei).2)∧(([]:List SV)=[]))∧(90:Int)=(wasErr g s l ei)∧(([]:List SV)=[]))∧(True))) ∧
      ((decide ((wrongI (0:Int) (0:Int) ([]:List (Int×Int)))≥(0:Int)))=false →
       (I64 ((lI l)-(1:Int)))∧([ei].length≤1000000)∧((!(!([ei].any fun n=>decide (n<(0:Int))||decide (((lI l)-(1:Int))<n))))=true →
        ((((0:Int)=((wasSp g s l ei).1)∧(0:Int)=((wasSp g s l ei).2)∧(([]:List SV)=[]))∧(7:Int)=(wasErr g s l ei)∧(([]:List SV)=[]))∧(True))) ∧
       ((!(!([ei].any fun n=>decide (n<(0:Int))||decide (((lI l)-(1:Int))<n))))=false →
        (True)∧(I64 (ei+(1:Int)))∧(0≤(ei+(1:Int)))∧((ei+(1:Int))≤(lI l))∧((lI l)≤(List.length l))∧∀ w28:List Value,w28=w28∧(List.length (List.take (Int.toNat ((lI l)-(ei+(1:Int)))) (List.drop (Int.toNat (ei+(1:Int))) l))<4611686018427387904)∧∃ (e29:Unit) (d290:Int×Int),((l=l∧ei=ei∧True∧True∧True∧True∧True)∧(((0:Int)=(0:Int)∧(0:Int)=(0:Int)∧(([]:List SV)=[]))∧((0:Int)=g∧(0:Int)=s∧l=[]∧(([]:List SV)=[]))∧((forthW (0:Int) (0:Int) ([]:List (Int×Int)))=(forthW g s l)∧false=false)∧((0:Int)=d290.1∧(1099511627776:Int)=d290.2∧(([]:List SV)=[]))∧True)) ∧
        RangeP (List.length (List.take (Int.toNat ((lI l)-(ei+(1:Int)))) (List.drop (Int.toNat (ei+(1:Int))) l))) (fun (k29:Nat) (d29:Int×Int) (q29:(Int×Int)→Prop)=>∀ w29:List Value,
         (0≤s∧s≤1000∧0≤((List.getD (List.take (Int.toNat ((lI l)-(ei+(1:Int)))) (List.drop (Int.toNat (ei+(1:Int))) l)) (List.length (List.take (Int.toNat ((lI l)-(ei+(1:Int)))) (List.drop (Int.toNat (ei+(1:Int))) l))-1-k29) (0,0)).2)∧((List.getD (List.take (Int.toNat ((lI l)-(ei+(1:Int)))) (List.drop (Int.toNat (ei+(1:Int))) l)) (List.length (List.take (Int.toNat ((lI l)-(ei+(1:Int)))) (List.drop (Int.toNat (ei+(1:Int))) l))-1-k29) (0,0)).2)≤12000000∧-2000000000000≤d29.1∧d29.1≤2000000000000∧-2000000000000≤d29.2∧d29.2≤2000000000000)∧w29=w29∧(∃ d30:Int×Int,((l=l∧ei=ei∧True∧True∧True∧True∧True)∧(((0:Int)=(0:Int)∧(0:Int)=(0:Int)∧(([]:List SV)=[]))∧(g=g∧s=s∧l=l∧(([]:List SV)=[]))∧((forthW g s l)=(forthW g s l)∧false=false)∧(((beforeB s (d29.1,d29.2) (((List.getD (List.take (Int.toNat ((lI l)-(ei+(1:Int)))) (List.drop (Int.toNat (ei+(1:Int))) l)) (List.length (List.take (Int.toNat ((lI l)-(ei+(1:Int)))) (List.drop (Int.toNat (ei+(1:Int))) l))-1-k29) (0,0)).1),((List.getD (List.take (Int.toNat ((lI l)-(ei+(1:Int)))) (List.drop (Int.toNat (ei+(1:Int))) l)) (List.length (List.take (Int.toNat ((lI l)-(ei+(1:Int)))) (List.drop (Int.toNat (ei+(1:Int))) l))-1-k29) (0,0)).2))).1)=d30.1∧((beforeB s (d29.1,d29.2) (((List.getD (List.take (Int.toNat ((lI l)-(ei+(1:Int)))) (List.drop (Int.toNat (ei+(1:Int))) l)) (List.length (List.take (Int.toNat ((lI l)-(ei+(1:Int)))) (List.drop (Int.toNat (ei+(1:Int))) l))-1-k29) (0,0)).1),((List.getD (List.take (Int.toNat ((lI l)-(ei+(1:Int)))) (List.drop (Int.toNat (ei+(1:Int))) l)) (List.length (List.take (Int.toNat ((lI l)-(ei+(1:Int)))) (List.drop (Int.toNat (ei+(1:Int))) l))-1-k29) (0,0)).2))).2)=d30.2∧(([]:List SV)=[]))∧True))∧q29 d30))
        (fun (d31:Int×Int) =>
         (0≤ei)∧(ei<(List.length (forthW g s l)))∧(0≤ei)∧(ei<(List.length l))∧((True∧True∧True∧True∧True∧((gD l ei (0,0)).1=(gD l ei (0,0)).1∧(gD l ei (0,0)).2=(gD l ei (0,0)).2∧(([]:List SV)=[]))∧True)∧(((0:Int)=(0:Int)∧(0:Int)=(0:Int)∧(([]:List SV)=[]))∧(g=g∧s=s∧l=l∧(([]:List SV)=[]))∧(d31.1=d31.1∧d31.2=d31.2∧(([]:List SV)=[]))∧((gD (forthW g s l) ei (0,0)).1=(gD (forthW g s l) ei (0,0)).1∧(gD (forthW g s l) ei (0,0)).2=(gD (forthW g s l) ei (0,0)).2∧(([]:List SV)=[]))∧((0:Int)=(0:Int)∧(0:Int)=(0:Int)∧(([]:List SV)=[]))∧((forthW g s l)=(forthW g s l)∧false=false)∧True))∧((0≤ei)∧(ei<(List.length (forthW g s l)))∧(0≤ei)∧(ei<(List.length l))∧((True∧True∧True∧True∧True∧((gD l ei (0,0)).1=(gD l ei (0,0)).1∧(gD l ei (0,0)).2=(gD l ei (0,0)).2∧(([]:List SV)=[]))∧True)∧(((0:Int)=(0:Int)∧(0:Int)=(0:Int)∧(([]:List SV)=[]))∧(g=g∧s=s∧l=l∧(([]:List SV)=[]))∧(d31.1=d31.1∧d31.2=d31.2∧(([]:List SV)=[]))∧((gD (forthW g s l) ei (0,0)).1=(gD (forthW g s l) ei (0,0)).1∧(gD (forthW g s l) ei (0,0)).2=(gD (forthW g s l) ei (0,0)).2∧(([]:List SV)=[]))∧((0:Int)=(0:Int)∧(0:Int)=(0:Int)∧(([]:List SV)=[]))∧((forthW g s l)=(forthW g s l)∧false=false)∧True)))∧(((gD l ei (0,0)).1==(1:Int))=true →
          (I64 ((gD (forthW g s l) ei (0,0)).1-d31.2))∧(I64 ((gD (forthW g s l) ei (0,0)).2-d31.1))∧(0≤s∧s≤1000∧0≤((gD l ei (0,0)).2)∧((gD l ei (0,0)).2)≤12000000)∧(True)∧((((gmax ((gD (forthW g s l) ei (0,0)).1-d31.2) ((realB s (((gD l ei (0,0)).1),((gD l ei (0,0)).2))).1))=((wasSp g s l ei).1)∧(gmin ((gD (forthW g s l) ei (0,0)).2-d31.1) ((realB s (((gD l ei (0,0)).1),((gD l ei (0,0)).2))).2))=((wasSp g s l ei).2)∧(([]:List SV)=[]))∧(0:Int)=(wasErr g s l ei)∧(([]:List SV)=[]))∧(True))) ∧
         (((gD l ei (0,0)).1==(1:Int))=false →
          (((gD l ei (0,0)).1==(2:Int))=true →
           (I64 (d31.1-(gD (forthW g s l) ei (0,0)).2))∧(I64 (d31.2-(gD (forthW g s l) ei (0,0)).1))∧(0≤s∧s≤1000∧0≤((gD l ei (0,0)).2)∧((gD l ei (0,0)).2)≤12000000)∧(True)∧((((gmax (d31.1-(gD (forthW g s l) ei (0,0)).2) ((realB s (((gD l ei (0,0)).1),((gD l ei (0,0)).2))).1))=((wasSp g s l ei).1)∧(gmin (d31.2-(gD (forthW g s l) ei (0,0)).1) ((realB s (((gD l ei (0,0)).1),((gD l ei (0,0)).2))).2))=((wasSp g s l ei).2)∧(([]:List SV)=[]))∧(0:Int)=(wasErr g s l ei)∧(([]:List SV)=[]))∧(True))) ∧
          (((gD l ei (0,0)).1==(2:Int))=false →
           (True)∧(0≤s∧s≤1000∧0≤((gD l ei (0,0)).2)∧((gD l ei (0,0)).2)≤12000000)∧(True)∧((((gmax (gmax ((gD (forthW g s l) ei (0,0)).1) d31.1) ((realB s (((gD l ei (0,0)).1),((gD l ei (0,0)).2))).1))=((wasSp g s l ei).1)∧(gmin (gmin ((gD (forthW g s l) ei (0,0)).2) d31.2) ((realB s (((gD l ei (0,0)).1),((gD l ei (0,0)).2))).2))=((wasSp g s l ei).2)∧(([]:List SV)=[]))∧(0:Int)=(wasErr g s l ei)∧(([]:List SV)=[]))∧(True))))) d290)))) ∧
    ((l.any (fun (x2:Int×Int)=>(!inI x2.1 1 3||!inI x2.2 0 12000000)))=false →
     w1=w1∧(((0:Int) != (0:Int))=true →
      ((((0:Int)=((wasSp g s l ei).1)∧(0:Int)=((wasSp g s l ei).2)∧(([]:List SV)=[]))∧(0:Int)=(wasErr g s l ei)∧(([]:List SV)=[]))∧(True))) ∧
     (((0:Int) != (0:Int))=false →
      (bookOk g s l)∧((decide ((wrongI g s l)≥(0:Int)))=true →
       ((((0:Int)=((wasSp g s l ei).1)∧(0:Int)=((wasSp g s l ei).2)∧(([]:List SV)=[]))∧(90:Int)=(wasErr g s l ei)∧(([]:List SV)=[]))∧(True))) ∧
      ((decide ((wrongI g s l)≥(0:Int)))=false →
       (I64 ((lI l)-(1:Int)))∧([ei].length≤1000000)∧((!(!([ei].any fun n=>decide (n<(0:Int))||decide (((lI l)-(1:Int))<n))))=true →
        ((((0:Int)=((wasSp g s l ei).1)∧(0:Int)=((wasSp g s l ei).2)∧(([]:List SV)=[]))∧(7:Int)=(wasErr g s l ei)∧(([]:List SV)=[]))∧(True))) ∧
       ((!(!([ei].any fun n=>decide (n<(0:Int))||decide (((lI l)-(1:Int))<n))))=false →
        (True)∧(I64 (ei+(1:Int)))∧(0≤(ei+(1:Int)))∧((ei+(1:Int))≤(lI l))∧((lI l)≤(List.length l))∧∀ w32:List Value,w32=w32∧(List.length (List.take (Int.toNat ((lI l)-(ei+(1:Int)))) (List.drop (Int.toNat (ei+(1:Int))) l))<4611686018427387904)∧∃ (e35:Unit) (d350:Int×Int),((l=l∧ei=ei∧True∧True∧True∧True∧True)∧(((0:Int)=(0:Int)∧(0:Int)=(0:Int)∧(([]:List SV)=[]))∧(g=g∧s=s∧l=l∧(([]:List SV)=[]))∧((forthW g s l)=(forthW g s l)∧false=false)∧((0:Int)=d350.1∧(1099511627776:Int)=d350.2∧(([]:List SV)=[]))∧True)) ∧
        RangeP (List.length (List.take (Int.toNat ((lI l)-(ei+(1:Int)))) (List.drop (Int.toNat (ei+(1:Int))) l))) (fun (k35:Nat) (d35:Int×Int) (q35:(Int×Int)→Prop)=>∀ w35:List Value,
         (0≤s∧s≤1000∧0≤((List.getD (List.take (Int.toNat ((lI l)-(ei+(1:Int)))) (List.drop (Int.toNat (ei+(1:Int))) l)) (List.length (List.take (Int.toNat ((lI l)-(ei+(1:Int)))) (List.drop (Int.toNat (ei+(1:Int))) l))-1-k35) (0,0)).2)∧((List.getD (List.take (Int.toNat ((lI l)-(ei+(1:Int)))) (List.drop (Int.toNat (ei+(1:Int))) l)) (List.length (List.take (Int.toNat ((lI l)-(ei+(1:Int)))) (List.drop (Int.toNat (ei+(1:Int))) l))-1-k35) (0,0)).2)≤12000000∧-2000000000000≤d35.1∧d35.1≤2000000000000∧-2000000000000≤d35.2∧d35.2≤2000000000000)∧w35=w35∧(∃ d36:Int×Int,((l=l∧ei=ei∧True∧True∧True∧True∧True)∧(((0:Int)=(0:Int)∧(0:Int)=(0:Int)∧(([]:List SV)=[]))∧(g=g∧s=s∧l=l∧(([]:List SV)=[]))∧((forthW g s l)=(forthW g s l)∧false=false)∧(((beforeB s (d35.1,d35.2) (((List.getD (List.take (Int.toNat ((lI l)-(ei+(1:Int)))) (List.drop (Int.toNat (ei+(1:Int))) l)) (List.length (List.take (Int.toNat ((lI l)-(ei+(1:Int)))) (List.drop (Int.toNat (ei+(1:Int))) l))-1-k35) (0,0)).1),((List.getD (List.take (Int.toNat ((lI l)-(ei+(1:Int)))) (List.drop (Int.toNat (ei+(1:Int))) l)) (List.length (List.take (Int.toNat ((lI l)-(ei+(1:Int)))) (List.drop (Int.toNat (ei+(1:Int))) l))-1-k35) (0,0)).2))).1)=d36.1∧((beforeB s (d35.1,d35.2) (((List.getD (List.take (Int.toNat ((lI l)-(ei+(1:Int)))) (List.drop (Int.toNat (ei+(1:Int))) l)) (List.length (List.take (Int.toNat ((lI l)-(ei+(1:Int)))) (List.drop (Int.toNat (ei+(1:Int))) l))-1-k35) (0,0)).1),((List.getD (List.take (Int.toNat ((lI l)-(ei+(1:Int)))) (List.drop (Int.toNat (ei+(1:Int))) l)) (List.length (List.take (Int.toNat ((lI l)-(ei+(1:Int)))) (List.drop (Int.toNat (ei+(1:Int))) l))-1-k35) (0,0)).2))).2)=d36.2∧(([]:List SV)=[]))∧True))∧q35 d36))
        (fun (d37:Int×Int) =>
         (0≤ei)∧(ei<(List.length (forthW g s l)))∧(0≤ei)∧(ei<(List.length l))∧((True∧True∧True∧True∧True∧((gD l ei (0,0)).1=(gD l ei (0,0)).1∧(gD l ei (0,0)).2=(gD l ei (0,0)).2∧(([]:List SV)=[]))∧True)∧(((0:Int)=(0:Int)∧(0:Int)=(0:Int)∧(([]:List SV)=[]))∧(g=g∧s=s∧l=l∧(([]:List SV)=[]))∧(d37.1=d37.1∧d37.2=d37.2∧(([]:List SV)=[]))∧((gD (forthW g s l) ei (0,0)).1=(gD (forthW g s l) ei (0,0)).1∧(gD (forthW g s l) ei (0,0)).2=(gD (forthW g s l) ei (0,0)).2∧(([]:List SV)=[]))∧((0:Int)=(0:Int)∧(0:Int)=(0:Int)∧(([]:List SV)=[]))∧((forthW g s l)=(forthW g s l)∧false=false)∧True))∧((0≤ei)∧(ei<(List.length (forthW g s l)))∧(0≤ei)∧(ei<(List.length l))∧((True∧True∧True∧True∧True∧((gD l ei (0,0)).1=(gD l ei (0,0)).1∧(gD l ei (0,0)).2=(gD l ei (0,0)).2∧(([]:List SV)=[]))∧True)∧(((0:Int)=(0:Int)∧(0:Int)=(0:Int)∧(([]:List SV)=[]))∧(g=g∧s=s∧l=l∧(([]:List SV)=[]))∧(d37.1=d37.1∧d37.2=d37.2∧(([]:List SV)=[]))∧((gD (forthW g s l) ei (0,0)).1=(gD (forthW g s l) ei (0,0)).1∧(gD (forthW g s l) ei (0,0)).2=(gD (forthW g s l) ei (0,0)).2∧(([]:List SV)=[]))∧((0:Int)=(0:Int)∧(0:Int)=(0:Int)∧(([]:List SV)=[]))∧((forthW g s l)=(forthW g s l)∧false=false)∧True)))∧(((gD l ei (0,0)).1==(1:Int))=true →
          (I64 ((gD (forthW g s l) ei (0,0)).1-d37.2))∧(I64 ((gD (forthW g s l) ei (0,0)).2-d37.1))∧(0≤s∧s≤1000∧0≤((gD l ei (0,0)).2)∧((gD l ei (0,0)).2)≤12000000)∧(True)∧((((gmax ((gD (forthW g s l) ei (0,0)).1-d37.2) ((realB s (((gD l ei (0,0)).1),((gD l ei (0,0)).2))).1))=((wasSp g s l ei).1)∧(gmin ((gD (forthW g s l) ei (0,0)).2-d37.1) ((realB s (((gD l ei (0,0)).1),((gD l ei (0,0)).2))).2))=((wasSp g s l ei).2)∧(([]:List SV)=[]))∧(0:Int)=(wasErr g s l ei)∧(([]:List SV)=[]))∧(True))) ∧
         (((gD l ei (0,0)).1==(1:Int))=false →
          (((gD l ei (0,0)).1==(2:Int))=true →
           (I64 (d37.1-(gD (forthW g s l) ei (0,0)).2))∧(I64 (d37.2-(gD (forthW g s l) ei (0,0)).1))∧(0≤s∧s≤1000∧0≤((gD l ei (0,0)).2)∧((gD l ei (0,0)).2)≤12000000)∧(True)∧((((gmax (d37.1-(gD (forthW g s l) ei (0,0)).2) ((realB s (((gD l ei (0,0)).1),((gD l ei (0,0)).2))).1))=((wasSp g s l ei).1)∧(gmin (d37.2-(gD (forthW g s l) ei (0,0)).1) ((realB s (((gD l ei (0,0)).1),((gD l ei (0,0)).2))).2))=((wasSp g s l ei).2)∧(([]:List SV)=[]))∧(0:Int)=(wasErr g s l ei)∧(([]:List SV)=[]))∧(True))) ∧
          (((gD l ei (0,0)).1==(2:Int))=false →
           (True)∧(0≤s∧s≤1000∧0≤((gD l ei (0,0)).2)∧((gD l ei (0,0)).2)≤12000000)∧(True)∧((((gmax (gmax ((gD (forthW g s l) ei (0,0)).1) d37.1) ((realB s (((gD l ei (0,0)).1),((gD l ei (0,0)).2))).1))=((wasSp g s l ei).1)∧(gmin (gmin ((gD (forthW g s l) ei (0,0)).2) d37.2) ((realB s (((gD l ei (0,0)).1),((gD l ei (0,0)).2))).2))=((wasSp g s l ei).2)∧(([]:List SV)=[]))∧(0:Int)=(wasErr g s l ei)∧(([]:List SV)=[]))∧(True))))) d350)))))))
def cx_shade_Was:Cx:=⟨[(3,(.i .i64))],[(15,s_shade_within),(12,s_shade_book_forth),(16,s_shade_anything),(18,s_shade_book_before),(20,s_shade_book_real),(19,s_shade_both),(30,s_slices_ContainsFunc_api_ShadeEntry_api_ShadeEntry),(29,s_shade_newBook_1)],103,[],0,[(11,x_shade_newBook),(17,x_slices_Backward_api_ShadeEntry_api_ShadeEntry)],[(34,bwIt (.pair (.i .i64) (.i .i64)))],[],[8,10,13,16,17,66],false,[],[],[]⟩
def lp_shade_Was (g:Int) (s:Int) (l:List (Int×Int)) (ei:Int):List (Nat×LoopAnn):=[(1,⟨Unit,Int×Int,[2,3,8,10,11,13],fun e x=>[.val (.list (.pair (.i .i64) (.i .i64))) l,.val (.i .i64) ei,.box 8 0,.box 10 0,.lst 31,.box 13 0],fun e x=>[(8,.slot 8,.cells [.val (.i .i64) (0:Int),.val (.i .i64) (0:Int)] (some 31)),(10,.slot 10,.cells [.val (.i .i64) g,.val (.i .i64) s,.val (.list (.pair (.i .i64) (.i .i64))) l] (some 49)),(31,.slot 11,.lst 31 (.pair (.i .i64) (.i .i64)) (forthW g s l) false),(13,.slot 13,.cells [.val (.i .i64) x.1,.val (.i .i64) x.2] (some 31))]⟩)]
set_option maxRecDepth 100000 in
theorem vq_shade_Was (d:Int×Int×(List (Int×Int))×Int):gwp (cx_shade_Was) (lp_shade_Was d.1 d.2.1 d.2.2.1 d.2.2.2) c8 0 (gend [.cell 8 true 2,.tmp 9] (res_shade_Was d) (obs_shade_Was d)) (gstart 103 (AL.can al_shade_Was d))=vc_shade_Was d.1 d.2.1 d.2.2.1 d.2.2.2:=by kernel_rfl
abbrev Ok_shade_Was:Prop:=OkC Tryd.prog 8 s_shade_Was
theorem mk_shade_Was (h:∀ (g:Int) (s:Int) (l:List (Int×Int)) (ei:Int),(l.length≤1000)→vc_shade_Was g s l ei):OkC Tryd.prog 8 s_shade_Was :=
 okC_vc fun8 mixed (C:=cx_shade_Was) (V:=fun (d:Int×Int×(List (Int×Int))×Int)=>vc_shade_Was d.1 d.2.1 d.2.2.1 d.2.2.2) ⟨(.cons ok_shade_within (.cons ok_shade_book_forth (.cons ok_shade_anything (.cons ok_shade_book_before (.cons ok_shade_book_real (.cons ok_shade_both (.cons ok_slices_ContainsFunc_api_ShadeEntry_api_ShadeEntry (.cons ok_shade_newBook_1 .nil)))))))),(XsOk.cons okx_shade_newBook (XsOk.cons okx_slices_Backward_api_ShadeEntry_api_ShadeEntry XsOk.nil)),(ItsOk.cons (bw_ok funbw34 mixed) ItsOk.nil),YlOk.nil,IysOk.nil⟩ (vq_shade_Was) fun d hp=>h d.1 d.2.1 d.2.2.1 d.2.2.2 hp
end Go.Proofs.Tryd
set_option linter.unusedVariables false
namespace Go.Proofs.Tryd
open Go Go.V Go.Proofs
theorem beforeB_bd {s B:Int} {p:Sp} {x:En} (hs:0≤s∧s≤1000) (hx:enOk x) (hB:0≤B) (hp:0≤p.1∧p.1≤B∧-B≤p.2∧p.2≤1099511627776+B):0≤(beforeB s p x).1∧(beforeB s p x).1≤B+12001000∧-(B+12001000)≤(beforeB s p x).2∧(beforeB s p x).2≤1099511627776+(B+12001000):=by
 obtain⟨h1,h2,h3,h4⟩:=hx
 unfold beforeB bothB realB anyB
 simp only[gmax_eq,gmin_eq]
 split
 ·dsimp only;omega
 ·split
  ·dsimp only;omega
  ·dsimp only;omega
theorem rest_bd {s:Int} (hs:0≤s∧s≤1000):∀ L:List En,(∀ x∈L,enOk x)→0≤(restB s L).1∧(restB s L).1≤12001000*L.length∧-(12001000*(L.length:Int))≤(restB s L).2∧(restB s L).2≤1099511627776+12001000*L.length
 |[],_=>by unfold restB anyB;simp
 |x::L,h=>by
  have ih:=rest_bd hs L fun y hy=>h y (by simp[hy])
  have:=beforeB_bd (B:=12001000*(L.length:Int)) hs (h x (by simp)) (by omega) ih
  have e:(12001000*((x::L).length:Int))=12001000*(L.length:Int)+12001000:=by simp only[List.length_cons];omega
  rw[e]
  exact this
theorem rest_step {s:Int} {L:List En} {k:Nat} (hk:k<L.length):restB s (L.drop (L.length-(k+1)))=beforeB s (restB s (L.drop (L.length-k))) (L.getD (L.length-1-k) (0,0)):=by
 have e:L.length-(k+1)=L.length-1-k:=by omega
 rw[e,restB_cons (by omega),show L.length-1-k+1=L.length-k by omega]
theorem was_err {g s e ei:Int} {l:List En} (he:entErr g s l=e) (h0:e≠0):(0=(wasSp g s l ei).1∧0=(wasSp g s l ei).2)∧e=wasErr g s l ei:=by
 have h1:wasErr g s l ei=e:=by unfold wasErr;rw[(book_err he h0).1,if_pos h0]
 have h2:wasSp g s l ei=(0,0):=by unfold wasSp;rw[h1,if_neg h0]
 rw[h1,h2];exact⟨⟨rfl,rfl⟩,rfl⟩
theorem ok_shade_Was:Ok_shade_Was:=mk_shade_Was fun g s l ei hl=>by
 unfold vc_shade_Was;(try delta lI gD sT I64)
 simp only[List.any_cons,List.any_nil,Bool.or_false,Bool.not_not,←nI,List.length_cons,List.length_nil,dead2,dead5,dead0,Bool.true_eq_false,true_and,and_true,eq_self_iff_true,exists_eq_left',exists_const,decide_eq_true_eq,decide_eq_false_iff_not,beq_iff_eq,bne_iff_ne,ne_eq,beq_eq_false_iff_ne,bne_eq_false_iff_eq,Bool.not_eq_true',Bool.not_eq_false',Bool.not_eq_true,Bool.not_eq_false,Int.toNat_natCast,Int.ofNat_lt,gt_iff_lt,ge_iff_le,forall_eq,true_implies,false_implies,Bool.false_eq_true,Bool.or_self,Bool.and_self,Bool.or_false,Bool.false_or,Bool.or_true,Bool.true_or,Bool.and_false,Bool.false_and,Bool.and_true,Bool.true_and,Bool.not_true,Bool.not_false,implies_true,forall_const,decide_false,decide_true,not_false_eq_true,not_true_eq_false]
 refine⟨by omega,fun h1=>⟨fun _=>was_err (ent2a h1) (by decide),fun h=>by rw[h1] at h;cases h⟩,fun h1=>⟨by omega,fun h2=>was_err (ent2b h2) (by decide),fun h2=>⟨fun h3=>was_err (ent5 h1 h2 h3) (by decide),fun h3=>⟨by omega,fun h4=>was_err (ent2c h1 h2 h3 h4) (by decide),fun h4=>?_⟩⟩⟩⟩
 have he:=ent0 h1 h2 h3 h4
 have hb:=entErr_zero he
 refine⟨hb,fun hw=>?_,fun hw=>⟨by rw[InK_i64];omega,by omega,fun h5=>?_,fun h5=>?_⟩⟩
 ·have h6:wasErr g s l ei=90:=by unfold wasErr;rw[(book_bad he hw).1,if_pos (by decide)]
  have h7:wasSp g s l ei=(0,0):=by unfold wasSp;rw[h6,if_neg (by decide)]
  rw[h6,h7];exact⟨⟨rfl,rfl⟩,rfl⟩
 ·have h6:wasErr g s l ei=7:=by unfold wasErr;rw[(book_good he hw).1,if_neg (by decide),h5,if_pos (by decide)]
  have h7:wasSp g s l ei=(0,0):=by unfold wasSp;rw[h6,if_neg (by decide)]
  rw[h6,h7];exact⟨⟨rfl,rfl⟩,rfl⟩
 have h5':=h5
 simp only[inI,Bool.and_eq_true,decide_eq_true_eq] at h5
 obtain⟨n,rfl⟩:=Int.eq_ofNat_of_zero_le h5.1
 have hn:n<l.length:=by omega
 have hfw:=(book_good he hw).2.2.2
 have hwe:wasErr g s l n=0:=by unfold wasErr;rw[(book_good he hw).1,if_neg (by decide),h5',if_neg (by decide)]
 have hws:wasSp g s l n=wasK g s l n:=by unfold wasSp;rw[if_pos hwe,Int.toNat_natCast]
 have hM:List.take ((l.length:Int)-((n:Int)+1)).toNat (List.drop ((n:Int)+1).toNat l)=l.drop (n+1):=by
  rw[toNat_add1];exact List.take_of_length_le (by rw[List.length_drop];omega)
 obtain⟨b1,b2,b3,b4,b5,b6⟩:=hb
 have hx:=b6 _ (List.getElem_mem hn)
 obtain⟨x1,x2,x3,x4⟩:=hx
 have hbd:=stB_bd ⟨b1,b2,b3,b4,b5,b6⟩ n (by omega) fun j h1 h2=>wrong_none.1 (by omega) j (by omega)
 have hLx:∀ x∈l.drop (n+1),enOk x:=fun x hx=>b6 x (List.mem_of_mem_drop hx)
 have hfl:((List.range (l.length+1)).map (stB g s l)).length=l.length+1:=by simp
 have hwk:wasK g s l n=entB s (stB g s l n) (restB s (l.drop (n+1))) l[n]:=by unfold wasK;rw[getD_nat hn]
 rw[hM,hwe,hws,hwk]
 simp only[Int.toNat_natCast,hfw,stB_at (show n<l.length+1 by omega),getD_nat (d:=((0,0):Int×Int)) hn,hfl]
 have hLl:(l.drop (n+1)).length=l.length-(n+1):=List.length_drop ..
 generalize l.drop (n+1)=L at *
 have hr:=rest_bd ⟨b3,b4⟩ L hLx
 refine⟨by rw[InK_i64];omega,by omega,by omega,by omega,by omega,(0,1099511627776),⟨rfl,rfl⟩,fun k d=>d=restB s (L.drop (L.length-k)),?_,fun k d hk hd=>?_,fun d hd=>?_⟩
 ·show ((0:Int),(1099511627776:Int))=restB s (L.drop (L.length-0))
  rw[Nat.sub_zero,List.drop_length];rfl
 ·subst hd
  have hd2:=rest_bd ⟨b3,b4⟩ (L.drop (L.length-k)) fun x hx=>hLx x (List.mem_of_mem_drop hx)
  rw[List.length_drop] at hd2
  have hk2:L.length-1-k<L.length:=by omega
  obtain⟨y1,y2,y3,y4⟩:=hLx _ (List.getElem_mem hk2)
  have hst:=rest_step (s:=s) hk
  rw[getD_nat hk2] at hst ⊢
  refine⟨⟨b3,b4,y3,y4,by omega,by omega,by omega,by omega⟩,beforeB s (restB s (L.drop (L.length-k))) L[L.length-1-k],⟨rfl,rfl⟩,hst.symm⟩
 ·dsimp only at hd
  rw[Nat.sub_self,List.drop_zero] at hd
  subst hd
  have hp:∀ y:Int×Int,(y.1,y.2)=y:=fun _=>rfl
  simp only[hp]
  refine⟨by omega,by omega,by omega,by omega,⟨by omega,by omega,by omega,by omega⟩,fun e1=>⟨by rw[InK_i64];omega,by rw[InK_i64];omega,⟨b3,b4,x3,x4⟩,⟨?_,?_⟩,trivial⟩,fun e1=>⟨fun e2=>⟨by rw[InK_i64];omega,by rw[InK_i64];omega,⟨b3,b4,x3,x4⟩,⟨?_,?_⟩,trivial⟩,fun e2=>⟨⟨b3,b4,x3,x4⟩,⟨?_,?_⟩,trivial⟩⟩⟩<;>unfold entB bothB<;>first|(rw[if_pos e1];done)|(rw[if_neg e1,if_pos e2];done)|(rw[if_neg e1,if_neg e2];done)
end Go.Proofs.Tryd
namespace Go.V
open Go
theorem ret_true {P:Program} {σ:Heap}:Ret P σ (.val .bo true) [] (.bool true) σ :=
 ⟨⟨.refl _,Dead.refl _⟩,fun _=>rfl,noPl,fun j b hj=>by simp at hj,fun j j' i hj=>by simp at hj,by simp[SR,KC]⟩
theorem okC_true {P:Program} {f:Nat} (h:∀ (σ:Heap) (K:Value→Heap→Prop),K (.bool true) σ→VCalled P f [] σ K):OkC P f (mkSp (.nil:AL Unit) (fun _=>True) (fun _=>.val .bo true) (fun _=>[])):=by
 intro ap hap σ args vs c v bs hargs hs hv hbs hc
 unfold mkSp at hs
 split at hs
 ·rename_i d hd
  obtain⟨rfl,rfl,rfl⟩:=(by simpa using hs:True=c∧SV.val .bo true=v∧[]=bs)
  have:vs=[]:=by
   cases args with
   |nil=>simpa [SRs] using hargs
   |cons a l=>simp[AL.dec] at hd
  subst this
  refine⟨h σ _ ret_true,fun _ _=>h σ _ ⟨rfl,?_⟩⟩
  unfold canH
  cases σ
  simp only[List.length_nil,Nat.add_zero,List.getElem?_nil,Option.bind_none,Heap.mk.injEq,and_true]
  funext i
  split
  ·rfl
  ·rename_i wf hi;exact wf i (by simpa using hi)
 ·cases hs
end Go.V
namespace Go.V
open Go Go.ChangeShapes Go.WideShapes Go.RowKit Go.Deep Go.Joins
def Heap.RO (σ:Heap):Prop:=∀ i b,σ.get i=some b→b.wr=false
structure View (w:World) (ρ:Plc) (σ:Heap):Prop where
 rel:HRel ρ σ w
 ro:σ.RO
structure More (ρ:Plc) (σ:Heap) (ρ':Plc) (σ':Heap):Prop where
 n:σ.n≤σ'.n
 pl:∀ i,i<σ.n→∀ p,ρ' i=some p→ρ i=some p
 ag:Agree σ σ'
theorem More.refl (ρ:Plc) (σ:Heap):More ρ σ ρ σ:=⟨Nat.le_refl _,fun _ _ _ h=>h,Agree.refl _⟩
theorem More.trans {ρ ρ' ρ'':Plc} {σ σ' σ'':Heap} (h:More ρ σ ρ' σ') (k:More ρ' σ' ρ'' σ''):More ρ σ ρ'' σ'' :=
 ⟨Nat.le_trans h.n k.n,fun i hi p hp=>h.pl i hi p (k.pl i (Nat.lt_of_lt_of_le hi h.n) p hp),h.ag.trans k.ag h.n⟩
def Tabs (w:World):Prop:=∀ g cs,gtab g=some cs→∃ e f,w.heap[g]?=some (.cells cs.toArray e f)
theorem View.emptyT (w:World) (ht:Tabs w):View w (fun _=>none) Heap.empty where
 rel:=⟨⟨fun i b h=>(by cases h),fun _ _=>rfl,fun i p h=>(by cases h),fun i j p q b _ h=>(by cases h)⟩,fun g cs hg=>⟨ht g cs hg,fun ⟨_,_,_,h,_⟩=>by cases h⟩⟩
 ro:=fun i b h=>by cases h
theorem View.add {w:World} {ρ:Plc} {σ:Heap} (h:View w ρ σ) (p:Pl) (c:List Value) {C:Array Value} {e:TypeId} {f:Nat×Nat} (hb:w.heap[p.blk]?=some (.cells C e f)) (hs:p.shift+p.ext≤C.size) (hl:c.length≤p.ext) (ht:e=p.esz.ty)
  (hc:∀ (k:Nat) (v:Value),c[k]?=some v→∃ u,w.cell? ⟨p.blk,p.shift+k,none⟩=some u∧VRel ρ σ.n v u) :
  View w (ρ.put σ.n (some p)) (σ.push (.cells c p.esz false p.tight))∧More ρ σ (ρ.put σ.n (some p)) (σ.push (.cells c p.esz false p.tight)):=by
 have hpl:∀ i,i<σ.n→∀ q,(ρ.put σ.n (some p)) i=some q→ρ i=some q:=fun i hi q hq=>by
  unfold Plc.put at hq;rwa [if_neg (by omega)] at hq
 have hro:(σ.push (.cells c p.esz false p.tight)).RO:=fun i b hi=>by
  by_cases e:i=σ.n
  ·subst e;rw[Heap.get_push_self] at hi;obtain rfl:=Option.some.inj hi;rfl
  ·rw[Heap.get_push_ne _ _ e] at hi;exact h.ro i b hi
 refine⟨⟨⟨⟨?_,?_,?_,?_⟩,fun g cs hg=>⟨(h.rel.tab g cs hg).1,fun ⟨i,_,b,_,hi,hw,_⟩=>by rw[hro i b hi] at hw;cases hw⟩⟩,hro⟩,⟨by simp,hpl,fun i hi=>Heap.get_push_lt _ _ hi⟩⟩
 ·intro i b hi
  by_cases hin:i=σ.n
  ·subst hin
   rw[Heap.get_push_self] at hi
   obtain rfl:=Option.some.inj hi
   refine⟨p,by simp[Plc.put],rfl,rfl,hl,⟨C,e,f,hb,hs,ht⟩,fun k v hk=>?_,fun h=>by cases h⟩
   obtain⟨u,hu,hv⟩:=hc k v hk
   exact⟨u,hu,hv.mono (by simp) hpl⟩
  ·rw[Heap.get_push_ne _ _ hin] at hi
   obtain⟨q,hq,hB⟩:=h.rel.live i b hi
   exact⟨q,by simp[Plc.put,hin,hq],hB.mono (by simp) hpl rfl⟩
 ·intro i hi
  by_cases hin:i=σ.n
  ·subst hin;rw[Heap.get_push_self] at hi;cases hi
  ·rw[Heap.get_push_ne _ _ hin] at hi
   simp[Plc.put,hin,h.rel.dead i hi]
 ·intro i q hq
  by_cases hin:i=σ.n
  ·subst hin
   simp[Plc.put] at hq
   subst hq
   exact(Array.getElem?_eq_some_iff.1 hb).1
  ·simp[Plc.put,hin] at hq
   exact h.rel.lt i q hq
 ·intro i j q r b _ _ _ hb' hw _
  rw[hro i b hb'] at hw;cases hw
theorem rowAt_off {P:Program} {fits:TypeId→Bool} {d:Nat} {e:TypeId} {count off n:Nat} (h:rowAt P fits d e count off n=true):off≤count*P.cellsOf e:=by
 cases d with
 |zero=>cases h
 |succ d =>
  unfold rowAt at h
  by_cases hs:P.cellsOf e=0
  ·simp[hs] at h
  ·have hpos:0<P.cellsOf e:=Nat.pos_of_ne_zero hs
   simp only[hs,if_false,Bool.or_eq_true,Bool.and_eq_true,beq_iff_eq,decide_eq_true_eq] at h
   have hd:=Nat.div_add_mod off (P.cellsOf e)
   have hm:=Nat.mod_lt off hpos
   rcases h with⟨⟨h1,h2⟩,_⟩|⟨h1,_⟩
   ·have:P.cellsOf e*(off / P.cellsOf e)≤P.cellsOf e*count:=Nat.mul_le_mul_left _ (by omega)
    rw[Nat.mul_comm count];omega
   ·have:P.cellsOf e*(off / P.cellsOf e+1)≤P.cellsOf e*count:=Nat.mul_le_mul_left _ (by omega)
    rw[Nat.mul_add] at this
    rw[Nat.mul_comm count];omega
theorem liesAt_off {P:Program}:∀ {d:Nat} {e:TypeId} {count off:Nat} {u:TypeId} {n:Nat},liesAt P d e count off u n=true→off≤count*P.cellsOf e
 |0,_,_,_,_,_,h=>by cases h
 |d+1,e,count,off,u,n,h=>by
  unfold liesAt at h
  rw[Bool.or_eq_true] at h
  rcases h with h|h
  ·exact rowAt_off h
  ·split at h
   ·exact liesAt_off h
   ·cases h
theorem has_block {P:Program} {w:World} {r:Reach} {base:Nat} {a:Addr} {e:TypeId} {n:Nat} (h:w.has P r base a e n):∃ C row f,w.heap[a.block]?=some (.cells C row f)∧a.off≤C.size∧a.spot=none:=by
 obtain⟨_,hs,row,cells,hsh,hl⟩:=h
 unfold World.shape? at hsh
 split at hsh
 ·rename_i C e' f hb
  obtain⟨rfl,rfl⟩:=(by simpa using hsh:e'=row∧C.size=cells)
  exact⟨C,e',f,hb,Nat.le_trans (liesAt_off hl) (Nat.div_mul_le_self _ _),hs⟩
 ·cases hsh
theorem okWide_slice {P:Program} {w:World} {r:Reach} {base:Nat} {t e:TypeId} {v:Value} (ht:P.underlying t=some (.slice e)) (h:Cell.okWide P w r base t v) :
  v=.slice none 0 0∨∃ a len cap,v=.slice (some a) len cap∧w.has P r base a e cap:=by
 unfold Cell.okWide at h
 rw[ht] at h
 have h':Cell.ok P w r base t v:=by
  split at h<;>first|exact h|simp_all
 unfold Cell.ok at h'
 rw[ht] at h'
 split at h'<;>first|exact .inl rfl|(cases h';done)|skip
 all_goals first|(rename_i h1 h2;simp_all;done)|skip
 all_goals first|(simp_all;exact⟨_,_,_,⟨rfl,rfl,rfl⟩,h'.2.2⟩)|(simp_all)
theorem int_wf {k:IntKind} {x:Int} (h:(Lit.int k x).wf=true):k.min≤x∧x≤k.max:=by
 simpa [Lit.wf] using h
theorem View.calls {P:Program} {f:FuncId} {w:World} {ρ:Plc} {σ:Heap} (h:View w ρ σ) {args:List Value} {cargs:Array Value} (hl:LRel ρ σ.n args cargs.toList) (hc:VCallsTo P f args σ fun v _=>v=.bool true) :
  Calls P f cargs w fun e w'=>e=.returned (.bool true)∧Below w.heap.size w w':=by
 refine (hc ρ w cargs h.rel hl).mono fun e w' ⟨c,he,v,ρ',σ',hv,hr,_,hx⟩=>?_
 subst hv
 have:c=.bool true:=by cases hr;rfl
 subst this
 exact⟨he,hx.os,hx.tape,hx.output,hx.size,fun B hB=>hx.keep B hB fun ⟨i,p,b,_,hi,hw,_⟩=>by rw[h.ro i b hi] at hw;cases hw⟩
theorem trodAll_stays {H:Type} {enc:TypeId×Value→H} {P:Program} (hl:laidOutB P=true) {W W':World} {sp:Nat→Bool} (hb:Below W.heap.size W W') :
  ∀ {ts:List TypeId} {vs:List Value} {ds:List (DataW H)} {ps:List MemPlace},(∀ t∈ts,P.readableRec t=true∧t<P.types.size)→DataW.TrodAll enc P W 0 (fun _=>true) true ts vs ds ps→(∀ p∈ps,p.block<W.heap.size)→(∀ p∈ps,sp p.block=true) →
   DataW.TrodAll enc P W' 0 sp true ts vs ds ps
 |[],vs,ds,ps,_,h,_,_=>by
  obtain⟨rfl,rfl,rfl⟩:=trodAll_nil h
  rfl
 |t::ts,vs,ds,ps,ht,h,hlt,hs=>by
  obtain⟨v,vs',d,ds',p,q,rfl,rfl,rfl,h1,h2⟩:=trodAll_cons h
  obtain⟨r1,r2⟩:=ht t (by simp)
  exact⟨p,q,WideElems.Trod_stays hl r1 r2 h1 (fun x hx=>hb.same (hlt x (by simp[hx]))) (fun x hx=>hs x (by simp[hx])),
   trodAll_stays hl hb (fun t ht'=>ht t (by simp[ht'])) h2 (fun x hx=>hlt x (by simp[hx])) (fun x hx=>hs x (by simp[hx])),rfl⟩
theorem post_true {H:Type} {enc:TypeId×Value→H} {P:Program} {f:Func} {s:ChangeSpec} {apart fresh handsOn again:Bool} {W W':World} {args:Array Value} {ds gs:List (DataW H)} {before:List MemPlace} {tb:TypeId}
  (hl:laidOutB P=true) (hp:f.params.toList.all (fun t=>P.readableRec t&&decide (t<P.types.size))=true) (hvars:s.vars=[]) (hr:f.resultTypes=#[tb]) (hb1:P.underlying tb=some .bool) (hs:s.fn H ds={results:=[.lit (.bool true)],args:=ds})
  (hW:DataW.Whole enc P f.params.toList s.vars apart W args.toList ds gs before) (hb:Below W.heap.size W W'):s.post enc P f apart fresh handsOn again W args (.bool true) W':=by
 have hlt:∀ p∈before,p.block<W.heap.size:=fun p hp=>hW.lt p hp
 have hW0:=hW
 obtain⟨p,q,hA,hV,rfl,hz,hn⟩:=hW
 rw[hvars] at hV
 obtain⟨rfl,rfl⟩:=trodVars_none hV
 have hp':∀ t∈f.params.toList,P.readableRec t=true∧t<P.types.size:=fun t ht=>by
  have:=List.all_eq_true.1 hp t ht
  simpa using this
 have hsg:s.fn H (ds++[])={results:=[.lit (.bool true)],args:=ds}:=by rw[List.append_nil];exact hs
 have hres:∀ (b:Nat) (sp:Nat→Bool) (hd:Bool),DataW.TrodAll enc P W' b sp hd f.resultTypes.toList ((Value.bool true).resultList f.resultTypes.size) (s.fn H (ds++[])).results []:=fun b sp hd=>by
  rw[hsg,hr]
  exact trodAll_mk1 (shut_bool hb1 _)
 have hargs:∀ sp:Nat→Bool,(∀ x∈p++[],sp x.block=true)→DataW.TrodAll enc P W' 0 sp true f.params.toList args.toList (s.fn H (ds++[])).args p:=fun sp hsp=>by
  rw[hsg]
  exact trodAll_stays hl hb hp' hA (fun x hx=>hlt x (by simp[hx])) (fun x hx=>hsp x (by simp[hx]))
 have hvs:∀ sp:Nat→Bool,DataW.TrodVars enc P W' sp s.vars (s.fn H (ds++[])).vars []:=fun sp=>by
  rw[hsg,hvars];rfl
 have hold:∀ x∈p++[],(fun b=>decide (b<W.heap.size)) x.block=true:=fun x hx=>by simpa using hlt x hx
 refine⟨ds,[],p++[],[],p,[],hW0,hres _ _ _,hargs _ hold,hvs _,World.keptBut_mono (fun x hx=>⟨hx,?_⟩) (hb.frame (·∈p++[])),fun _=>?_⟩
 ·exact .inr (by simpa using hx)
 ·refine⟨ok_one hr rfl (okWide_bool_mk hb1 _),_,_,([]++p)++[],⟨[]++p,[],trodAll_append (hargs _ (fun _ _=>rfl)) (hres _ _ _),hvs _,rfl,?_,?_⟩,?_⟩
  ·intro b off hx
   have hin:MemPlace.cell b off∈p++[]:=by simpa using hx
   rw[hb.frozen (hlt _ hin)]
   exact hz b off hin
  ·intro ha
   simpa using hn ha
  ·intro x hx _
   simpa using hx
end Go.V
namespace Go.V
open Go Go.ChangeShapes Go.WideShapes Go.RowKit Go.Deep Go.Joins
def KFs (T:Kind→TypeId→Bool) (sz:TypeId→Nat):Kind→List (TypeId×Nat)→Nat→Bool
 |_,[],_=>false
 |k,[p],off=>p.2==off&&(sz p.1==k.size&&T k p.1)
 |.pair a b,p::q::r,off=>p.2==off&&(sz p.1==a.size&&(T a p.1&&KFs T sz b (q::r) (off+a.size)))
 |_,_::_::_,_=>false
def KTy (P:Program):Nat→Kind→TypeId→Bool
 |0,_,_=>false
 |n+1,k,t=>match P.underlying t with
  |some (.struct fs)=>P.cellsOf t==k.size&&KFs (KTy P n) P.cellsOf k (fs.toList.map fun f=>(f.type,f.offset)) 0
  |some (.array m e)=>P.cellsOf t==k.size&&KFs (KTy P n) P.cellsOf k ((List.range m).map fun i=>(e,i*P.cellsOf e)) 0
  |some (.int ik)=>(match k with|.i k'=>decide (k'=ik)|_=>false)
  |some .bool=>(match k with|.bo=>true|_=>false)
  |some .string=>(match k with|.st=>true|_=>false)
  |some (.slice e)=>(match k with|.list k'=>P.cellsOf e==k'.size&&(k'.flat&&KTy P n k' e)|_=>false)
  |_=>false
def KWf:(k:Kind)→k.T→Prop
 |.i ik,x=>InK ik x
 |.bo,_=>True
 |.st,s=>s.length≤maxLen
 |.list k,l=>l.length≤maxLen∧∀ x∈l,KWf k x
 |.pair a b,x=>KWf a x.1∧KWf b x.2
theorem More.le {ρ ρ':Plc} {σ σ':Heap} (h:More ρ σ ρ' σ'):σ.Le σ':=⟨h.n,fun i b hb=>by rw[h.ag i (σ.lt hb)];exact hb⟩
def ArgIs (w:World) (ρ:Plc) (σ:Heap) (k:Kind) (cs:List Value):Prop :=
 ∃ ρ' σ' vs x,View w ρ' σ'∧More ρ σ ρ' σ'∧LRel ρ' σ'.n vs cs∧KC σ' k x vs∧KWf k x
theorem ArgIs.pair {w:World} {ρ:Plc} {σ:Heap} {a b:Kind} {cs ds:List Value} (h1:ArgIs w ρ σ a cs) (h2:∀ ρ σ,View w ρ σ→ArgIs w ρ σ b ds):ArgIs w ρ σ (.pair a b) (cs++ds):=by
 obtain⟨ρ1,σ1,vs1,x1,k1,k2,k3,k4,k5⟩:=h1
 obtain⟨ρ2,σ2,vs2,x2,m1,m2,m3,m4,m5⟩:=h2 ρ1 σ1 k1
 exact⟨ρ2,σ2,vs1++vs2,(x1,x2),m1,k2.trans m2,(k3.mono m2.n m2.pl).append m3,⟨vs1,vs2,rfl,k4.mono m2.le,m4⟩,k5,m5⟩
section
variable {H:Type} {enc:TypeId×Value→H} {P:Program} {w:World} {r:Reach} {base:Nat}
def okc (P:Program) (w:World) (r:Reach) (base:Nat) (ts:List TypeId) (cs:List Value):Prop:=∀ (i:Nat) v u,cs[i]?=some v→ts[i]?=some u→Cell.okWide P w r base u v
theorem KFs_len {T:Kind→TypeId→Bool} {sz:TypeId→Nat} {g:TypeId→Option (List TypeId)} (hT:∀ k t ts,T k t=true→g t=some ts→ts.length=k.size) :
  ∀ {k:Kind} {L:List (TypeId×Nat)} {off:Nat} {tss:List (List TypeId)},KFs T sz k L off=true→L.mapM (fun p=>g p.1)=some tss→tss.flatten.length=k.size
 |k,[],_,_,h,_=>by simp[KFs] at h
 |k,[p],off,tss,h,hm=>by
  simp only[KFs,Bool.and_eq_true] at h
  cases hg:g p.1 with
  |none=>simp[hg] at hm
  |some ts =>
   simp[hg] at hm
   subst hm
   simpa using hT _ _ _ h.2.2 hg
 |.pair a b,p::q::r,off,tss,h,hm=>by
  simp only[KFs,Bool.and_eq_true] at h
  rw[List.mapM_cons] at hm
  cases hg:g p.1 with
  |none=>simp[hg] at hm
  |some ts =>
   cases hr:(q::r).mapM (fun p=>g p.1) with
   |none=>simp[hg,hr] at hm
   |some tr =>
    simp[hg,hr] at hm
    subst hm
    have:=KFs_len hT h.2.2.2 hr
    simp only[List.flatten_cons,List.length_append,this,hT _ _ _ h.2.2.1 hg,Kind.size]
 |.i _,_::_::_,_,_,h,_|.bo,_::_::_,_,_,h,_|.st,_::_::_,_,_,h,_|.list _,_::_::_,_,_,h,_=>by cases h
theorem mapM_map {α β γ:Type} {f:α→β} {g:β→Option γ}:∀ (l:List α),(l.map f).mapM g=l.mapM (fun x=>g (f x))
 |[]=>rfl
 |a::l=>by simp only[List.map_cons,List.mapM_cons,mapM_map l]
theorem mapM_const {β:Type} {x:β} {f:Nat→Option β} (h:∀ i,f i=some x):∀ l:List Nat,l.mapM f=some (List.replicate l.length x)
 |[]=>rfl
 |a::l=>by simp[List.mapM_cons,h,mapM_const h l,List.replicate_succ]
theorem KTy_len:∀ {n:Nat} {k:Kind} {t:TypeId} {d:Nat} {ts:List TypeId},KTy P n k t=true→P.cellTypes d t=some ts→ts.length=k.size
 |0,_,_,_,_,h,_=>by cases h
 |_+1,_,_,0,_,_,h=>by cases h
 |n+1,k,t,d+1,ts,h,ht=>by
  have ih:∀ k t ts,KTy P n k t=true→P.cellTypes d t=some ts→ts.length=k.size:=fun k t ts h1 h2=>KTy_len h1 h2
  unfold Program.cellTypes at ht
  unfold KTy at h
  cases hu:P.underlying t with
  |none=>rw[hu] at h;cases h
  |some u =>
   rw[hu] at h ht
   cases u<;>first|(cases h;done)|skip
   all_goals simp only at h ht
   ·split at h<;>first|(cases h;done)|(obtain rfl:=Option.some.inj ht;rfl)
   ·split at h<;>first|(cases h;done)|(obtain rfl:=Option.some.inj ht;rfl)
   ·split at h<;>first|(cases h;done)|(obtain rfl:=Option.some.inj ht;rfl)
   ·split at h<;>first|(cases h;done)|(obtain rfl:=Option.some.inj ht;rfl)
   ·rename_i m e
    rw[Bool.and_eq_true] at h
    cases hc:P.cellTypes d e with
    |none=>rw[hc] at ht;cases ht
    |some te =>
     rw[hc] at ht
     obtain rfl:=Option.some.inj ht
     refine KFs_len (g:=fun t=>P.cellTypes d t) ih h.2 ?_
     rw[mapM_map,mapM_const (x:=te) (fun _=>hc)]
     simp
   ·rename_i fs
    rw[Bool.and_eq_true] at h
    cases hc:fs.toList.mapM fun f=>P.cellTypes d f.type with
    |none=>rw[hc] at ht;cases ht
    |some tss =>
     rw[hc] at ht
     obtain rfl:=Option.some.inj ht
     refine KFs_len (g:=fun t=>P.cellTypes d t) ih h.2 ?_
     rw[mapM_map];exact hc
theorem KFs_read {T:Kind→TypeId→Bool} {sz:TypeId→Nat} {Q:TypeId→List Value→Prop} {R:Kind→List Value→Prop} (hT:∀ k t cs,T k t=true→Q t cs→R k cs) (hR:∀ a b cs ds,R a cs→R b ds→R (.pair a b) (cs++ds)) (cs:List Value) :
  ∀ {k:Kind} {L:List (TypeId×Nat)} {off:Nat},KFs T sz k L off=true→(∀ p∈L,Q p.1 ((cs.drop p.2).take (sz p.1)))→R k ((cs.drop off).take k.size)
 |k,[],_,h,_=>by simp[KFs] at h
 |k,[p],off,h,hq=>by
  simp only[KFs,Bool.and_eq_true,beq_iff_eq] at h
  have:=hq p (by simp)
  rw[h.1,h.2.1] at this
  exact hT _ _ _ h.2.2 this
 |.pair a b,p::q::r,off,h,hq=>by
  simp only[KFs,Bool.and_eq_true,beq_iff_eq] at h
  have h1:=hq p (by simp)
  rw[h.1,h.2.1] at h1
  have h2:=KFs_read hT hR cs h.2.2.2 fun x hx=>hq x (List.mem_cons_of_mem _ hx)
  have e:(cs.drop off).take (Kind.pair a b).size=(cs.drop off).take a.size++(cs.drop (off+a.size)).take b.size:=by
   rw[Kind.size,List.take_add,List.drop_drop]
  rw[e]
  exact hR _ _ _ _ (hT _ _ _ h.2.2.1 h1) h2
 |.i _,_::_::_,_,h,_|.bo,_::_::_,_,h,_|.st,_::_::_,_,h,_|.list _,_::_::_,_,h,_=>by cases h
def FlatIs (k:Kind) (cs:List Value):Prop:=∃ y:k.T,(∀ h,KC h k y cs)∧KWf k y∧∀ ρ m,LRel ρ m cs cs
theorem FlatIs.pair {a b:Kind} {cs ds:List Value} (h1:FlatIs a cs) (h2:FlatIs b ds):FlatIs (.pair a b) (cs++ds):=by
 obtain⟨x,k1,k2,k3⟩:=h1
 obtain⟨y,m1,m2,m3⟩:=h2
 exact⟨(x,y),fun h=>⟨cs,ds,rfl,k1 h,m1 h⟩,⟨k2,m2⟩,fun ρ m=>(k3 ρ m).append (m3 ρ m)⟩
theorem LRel.one {ρ:Plc} {n:Nat} {v c:Value} (h:VRel ρ n v c):LRel ρ n [v] [c]:=.cons h (.nil _ _)
theorem range_mem_get {fs:Array Field} {f:Field} (h:f∈fs.toList):∃ i:Nat,fs[i]?=some f:=by
 obtain⟨i,hi,rfl⟩:=List.mem_iff_getElem.1 h
 exact⟨i,by simp at hi;simp[hi]⟩
theorem KTy_flat {sp:Nat→Bool} {held:Bool}:∀ {n:Nat} {k:Kind} {t:TypeId} {fuel:Nat} {cs:List Value} {x:DataW H×List MemPlace},KTy P n k t=true→k.flat=true→DataW.trod enc P w base sp held fuel t cs=some x→FlatIs k cs
 |0,_,_,_,_,_,h,_,_=>by cases h
 |n+1,k,t,fuel,cs,x,h,hf,hx=>by
  unfold KTy at h
  cases hu:P.underlying t with
  |none=>rw[hu] at h;cases h
  |some u =>
   rw[hu] at h
   have hR:∀ a b cs ds,((a.flat=true→FlatIs a cs)∧True)→((b.flat=true→FlatIs b ds)∧True)→(((Kind.pair a b).flat=true→FlatIs (.pair a b) (cs++ds))∧True):=fun a b cs ds h1 h2=>⟨fun hf=>by
    simp only[Kind.flat,Bool.and_eq_true] at hf
    exact(h1.1 hf.1).pair (h2.1 hf.2),trivial⟩
   have hT:∀ k t cs,KTy P n k t=true→(∃ fuel x,DataW.trod enc P w base sp held fuel t cs=some x)→((k.flat=true→FlatIs k cs)∧True):=fun k t cs h1 ⟨fuel,x,h2⟩=>⟨fun hf=>KTy_flat h1 hf h2,trivial⟩
   cases u<;>first|(cases h;done)|skip
   all_goals simp only at h
   ·split at h<;>first|(cases h;done)|skip
    obtain⟨b,rfl,_⟩:=DataW.trod_bool hu hx
    exact⟨b,fun _=>rfl,trivial,fun _ _=>.one (.bool _)⟩
   ·split at h<;>first|(cases h;done)|skip
    obtain rfl:=of_decide_eq_true h
    obtain⟨z,rfl,_,hw⟩:=DataW.trod_int hu hx
    exact⟨z,fun _=>rfl,int_wf hw,fun _ _=>.one (.int _ _)⟩
   ·split at h<;>first|(cases h;done)|skip
    obtain⟨s,rfl,_,hs⟩:=DataW.trod_string hu hx
    exact⟨s.data.toList,fun _=>rfl,hs,fun _ _=>.one (.string _)⟩
   ·split at h<;>first|(cases h;done)|(cases hf;done)
   ·rename_i m e
    simp only[Bool.and_eq_true,beq_iff_eq] at h
    obtain⟨xs,m',_,_,hl,hxl,hx⟩:=DataW.trod_array hu hx
    have:=(KFs_read (R:=fun k cs=>(k.flat=true→FlatIs k cs)∧True) hT hR cs h.2 fun p hp=>by
     simp only[List.mem_map,List.mem_range] at hp
     obtain⟨i,hi,rfl⟩:=hp
     have:=hx i hi
     rw[List.getElem?_eq_getElem (by omega)] at this
     exact⟨_,_,this⟩).1 hf
    rwa [List.drop_zero,List.take_of_length_le (by omega)] at this
   ·rename_i fs
    simp only[Bool.and_eq_true,beq_iff_eq] at h
    obtain⟨xs,m',_,_,hl,hxl,hx⟩:=DataW.trod_struct hu hx
    have:=(KFs_read (R:=fun k cs=>(k.flat=true→FlatIs k cs)∧True) hT hR cs h.2 fun p hp=>by
     simp only[List.mem_map] at hp
     obtain⟨f,hf',rfl⟩:=hp
     obtain⟨i,hi⟩:=range_mem_get hf'
     have:=hx i f hi
     have hil:i<fs.size:=(Array.getElem?_eq_some_iff.1 hi).1
     rw[List.getElem?_eq_getElem (by omega)] at this
     exact⟨_,_,this⟩).1 hf
    rwa [List.drop_zero,List.take_of_length_le (by omega)] at this
theorem Rows.range {α:Type} {R:α→List Value→Prop} {n:Nat} {c:List Value} {x:Nat→α}:∀ (m:Nat),(∀ i,i<m→R (x i) ((c.drop (i*n)).take n))→Rows R ((List.range m).map x) (c.take (m*n))
 |0,_=>by simp;exact .nil
 |m+1,h=>by
  have e:c.take ((m+1)*n)=c.take (m*n)++(c.drop (m*n)).take n:=by rw[Nat.add_mul,Nat.one_mul,List.take_add]
  rw[List.range_succ,List.map_append,e]
  exact(Rows.range m fun i hi=>h i (by omega)).append (by simpa using Rows.cons (h m (by omega)) .nil)
theorem choose_below {α:Type} [Inhabited α] {m:Nat} {p:Nat→α→Prop} (h:∀ i,i<m→∃ x,p i x):∃ f:Nat→α,∀ i,i<m→p i (f i) :=
 ⟨fun i=>if hi:i<m then (h i hi).choose else default,fun i hi=>by simp only[hi,dif_pos];exact(h i hi).choose_spec⟩
instance KInh (k:Kind):Inhabited k.T:=⟨k.dflt⟩
theorem View.list {ρ:Plc} {σ:Heap} (h:View w ρ σ) {n:Nat} {k:Kind} {t e:TypeId} {fuel:Nat} {cs:List Value} {x:DataW H×List MemPlace} (hu:P.underlying t=some (.slice e)) (hs:P.cellsOf e=k.size) (hf:k.flat=true) (hk:KTy P n k e=true)
  (hx:DataW.trod enc P w 0 (fun _=>true) true fuel t cs=some x) (hok:okc P w r base [t] cs):ArgIs w ρ σ (.list k) cs:=by
 rcases open_slice hu hx with⟨rfl,_⟩|⟨a,len,cap,m,fu,D,Pl,rfl,hb,hl,hm,hmm,_,hel⟩
 ·exact⟨ρ,σ,[.slice none 0 0],[],h,More.refl _ _,.one .nilSl,⟨_,rfl,.inl ⟨rfl,rfl⟩⟩,by simp[maxLen],fun _ hx=>by cases hx⟩
 simp only[if_true] at hmm
 subst hmm
 rw[hs] at hel
 have hhas:w.has P r base a e m:=by
  rcases okWide_slice hu (hok 0 _ t rfl rfl) with hh|⟨a',len',cap',hh,h2⟩
  ·cases hh
  ·cases hh;exact h2
 obtain⟨C,row,f,hblk,hoff,hsp⟩:=has_block hhas
 obtain⟨blk,off,spot⟩:=a
 simp only at hblk hoff hsp
 subst hsp
 have hadd:∀ i,(⟨blk,off,none⟩:Addr).add i=⟨blk,off+i,none⟩:=fun i=>by unfold Addr.add;split<;>simp_all
 obtain⟨X,hX⟩:=choose_below (α:=k.T×List Value) (m:=m) (p:=fun i p=>p.2.length=k.size∧(∀ j,j<k.size→w.cell? ⟨blk,off+i*k.size+j,none⟩=p.2[j]?)∧(∀ h,KC h k p.1 p.2)∧KWf k p.1∧∀ ρ m,LRel ρ m p.2 p.2) fun i hi=>by
  obtain⟨cs',h1,h2⟩:=hel i hi
  obtain⟨_,k1,k2⟩:=World.cells?_some h1
  obtain⟨y,m1,m2,m3⟩:=KTy_flat hk hf h2
  refine⟨(y,cs'),k1,fun j hj=>?_,m1,m2,m3⟩
  have:=k2 j hj
  rw[hadd] at this
  have e2:(⟨blk,off+i*k.size,none⟩:Addr).add j=⟨blk,off+i*k.size+j,none⟩:=by unfold Addr.add;split<;>simp_all
  rw[e2] at this
  exact this
 have hpos:=k.size_pos
 let c:List Value:=(List.range (m*k.size)).map fun j=>((X (j / k.size)).2[j % k.size]?).getD undef
 have hcl:c.length=m*k.size:=by simp[c]
 have hdiv:∀ j,j<m*k.size→j / k.size<m:=fun j hj=>Nat.div_lt_of_lt_mul (by rw[Nat.mul_comm];exact hj)
 have hcell:∀ j,j<m*k.size→∃ v,c[j]?=some v∧w.cell? ⟨blk,off+j,none⟩=some v∧∀ ρ m,VRel ρ m v v:=fun j hj=>by
  have h1:=hX (j / k.size) (hdiv j hj)
  have hjm:j % k.size<k.size:=Nat.mod_lt _ hpos
  have h2:=h1.2.1 _ hjm
  have e:off+j / k.size*k.size+j % k.size=off+j:=by rw[Nat.add_assoc,Nat.div_add_mod']
  rw[e] at h2
  have h3:j % k.size<(X (j / k.size)).2.length:=by rw[h1.1];exact hjm
  refine⟨(X (j / k.size)).2[j % k.size],?_,?_,fun ρ m=>(h1.2.2.2.2 ρ m).2 _ _ _ (List.getElem?_eq_getElem h3) (List.getElem?_eq_getElem h3)⟩
  ·simp only[c,List.getElem?_map,List.getElem?_range hj,Option.map_some,List.getElem?_eq_getElem h3,Option.getD_some]
  ·rw[h2,List.getElem?_eq_getElem h3]
 have helt:∀ i,i<m→(c.drop (i*k.size)).take k.size=(X i).2:=fun i hi=>by
  have h1:=hX i hi
  have hle:i*k.size+k.size≤m*k.size:=by
   have:(i+1)*k.size≤m*k.size:=Nat.mul_le_mul_right _ hi
   rw[Nat.add_mul] at this;omega
  apply List.ext_getElem?
  intro j
  by_cases hj:j<k.size
  ·rw[List.getElem?_take_of_lt hj,List.getElem?_drop]
   have hj2:i*k.size+j<m*k.size:=by omega
   have e1:(i*k.size+j) / k.size=i:=by rw[Nat.mul_comm,Nat.mul_add_div hpos,Nat.div_eq_of_lt hj,Nat.add_zero]
   have e2:(i*k.size+j) % k.size=j:=by rw[Nat.mul_comm,Nat.mul_add_mod,Nat.mod_eq_of_lt hj]
   have h3:j<(X i).2.length:=by rw[h1.1];exact hj
   simp only[c,List.getElem?_map,List.getElem?_range hj2,Option.map_some,e1,e2,List.getElem?_eq_getElem h3,Option.getD_some]
  ·rw[List.getElem?_eq_none (by simp;omega),List.getElem?_eq_none (by omega)]
 have hsz:off+m*k.size≤C.size:=by
  rcases Nat.eq_zero_or_pos (m*k.size) with h0|h0
  ·omega
  ·obtain⟨v,_,h2,_⟩:=hcell (m*k.size-1) (by omega)
   unfold World.cell? at h2
   simp only[hblk] at h2
   have:=(Array.getElem?_eq_some_iff.1 (by simpa using h2)).1
   omega
 obtain⟨hv,hmo⟩:=h.add ⟨blk,off,m*k.size,⟨k.size,row⟩,false⟩ c hblk hsz (by simp[hcl]) rfl (fun j v hj=>by
  have hjl:j<m*k.size:=by rw[←hcl];exact(List.getElem?_eq_some_iff.1 hj).1
  obtain⟨v',h1,h2,h3⟩:=hcell j hjl
  obtain rfl:=Option.some.inj (hj.symm.trans h1)
  exact⟨v,h2,h3 _ _⟩)
 have hlen:((List.range len).map fun i=>(X i).1).length=len:=by simp
 refine⟨_,_,[.slice (some ⟨σ.n,0,none⟩) len m],(List.range len).map fun i=>(X i).1,hv,hmo,.one ?_,⟨_,rfl,.inr ⟨σ.n,0,m,c,⟨k.size,row⟩,false,false,by rw[hlen],by rw[hlen];exact hl,Heap.get_push_self _ _,rfl,?_,?_⟩⟩,?_,fun y hy=>?_⟩
 ·refine .sl _ _ _ _ _ _ (by simp) fun p hp=>?_
  simp[Plc.put] at hp
  subst hp
  exact⟨Nat.le_refl _,(fun h=>by cases h),0,by simp,by simp,.inl rfl⟩
 ·rw[hlen,hcl,Nat.zero_add];exact Nat.mul_le_mul_right _ hl
 ·rw[hlen,List.drop_zero]
  refine Rows.range len fun i hi=>?_
  rw[helt i (by omega)]
  exact(hX i (by omega)).2.2.1 _
 ·rw[hlen];exact Nat.le_trans hl hm
 ·obtain⟨i,hi,rfl⟩:=List.mem_map.1 hy
  exact(hX i (by have:=List.mem_range.1 hi;omega)).2.2.2.1
def Kind.lev1:Kind→Bool
 |.list k=>k.flat
 |.pair a b=>a.lev1&&b.lev1
 |_=>true
theorem okc_part {ts:List TypeId} {cs:List Value} (h:okc P w r base ts cs) (o n:Nat):okc P w r base ((ts.drop o).take n) ((cs.drop o).take n):=fun i v u h1 h2=>by
 have hi:i<n:=by
  have:=(List.getElem?_eq_some_iff.1 h1).1
  rw[List.length_take] at this;omega
 rw[List.getElem?_take_of_lt hi,List.getElem?_drop] at h1 h2
 exact h _ v u h1 h2
theorem KFs_types {T:Kind→TypeId→Bool} {sz:TypeId→Nat} {g:TypeId→Option (List TypeId)} (hT:∀ k t ts,T k t=true→g t=some ts→ts.length=k.size) :
  ∀ {k:Kind} {L:List (TypeId×Nat)} {off:Nat} {tss:List (List TypeId)},KFs T sz k L off=true→L.mapM (fun p=>g p.1)=some tss→∀ p∈L,off≤p.2∧g p.1=some ((tss.flatten.drop (p.2-off)).take (sz p.1))
 |k,[],_,_,h,_=>by simp[KFs] at h
 |k,[p],off,tss,h,hm=>by
  simp only[KFs,Bool.and_eq_true,beq_iff_eq] at h
  intro p' hp
  obtain rfl:=List.mem_singleton.1 hp
  cases hg:g p'.1 with
  |none=>simp[hg] at hm
  |some ts =>
   simp[hg] at hm
   subst hm
   refine⟨by omega,?_⟩
   rw[h.1,Nat.sub_self,List.drop_zero,h.2.1,List.take_of_length_le]
   ·simp
   ·simp[hT _ _ _ h.2.2 hg]
 |.pair a b,p::q::r,off,tss,h,hm=>by
  simp only[KFs,Bool.and_eq_true,beq_iff_eq] at h
  rw[List.mapM_cons] at hm
  intro p' hp
  cases hg:g p.1 with
  |none=>simp[hg] at hm
  |some ts =>
   cases hr:(q::r).mapM (fun p=>g p.1) with
   |none=>simp[hg,hr] at hm
   |some tr =>
    simp[hg,hr] at hm
    subst hm
    have hlen:=hT _ _ _ h.2.2.1 hg
    rcases List.mem_cons.1 hp with rfl|hp
    ·refine⟨by omega,?_⟩
     rw[hg,h.1,Nat.sub_self,List.drop_zero,h.2.1,List.flatten_cons,List.take_append,←hlen,Nat.sub_self,List.take_zero,List.append_nil,List.take_length]
    ·obtain⟨h1,h2⟩:=KFs_types hT h.2.2.2 hr p' hp
     refine⟨by omega,?_⟩
     have e1:ts.drop (p'.2-off)=[]:=List.drop_eq_nil_of_le (by omega)
     have e2:p'.2-off-a.size=p'.2-(off+a.size):=by omega
     rw[h2,List.flatten_cons,List.drop_append,hlen,e1,e2,List.nil_append]
 |.i _,_::_::_,_,_,h,_|.bo,_::_::_,_,_,h,_|.st,_::_::_,_,_,h,_|.list _,_::_::_,_,_,h,_=>by cases h
theorem KTy_read:∀ {n:Nat} {k:Kind} {t:TypeId} {d:Nat} {ts:List TypeId} {fuel:Nat} {cs:List Value} {x:DataW H×List MemPlace},KTy P n k t=true→k.lev1=true→P.cellTypes d t=some ts→okc P w r base ts cs→DataW.trod enc P w 0 (fun _=>true) true fuel t cs=some x→∀ ρ σ,View w ρ σ→ArgIs w ρ σ k cs
 |0,_,_,_,_,_,_,_,h,_,_,_,_=>by cases h
 |_+1,_,_,0,_,_,_,_,_,_,h,_,_=>by cases h
 |n+1,k,t,d+1,ts,fuel,cs,x,h,hf,hts,hok,hx=>by
  intro ρ σ hv
  by_cases hflat:k.flat=true
  ·obtain⟨y,h1,h2,h3⟩:=KTy_flat h hflat hx
   exact⟨ρ,σ,cs,y,hv,More.refl _ _,h3 _ _,h1 _,h2⟩
  unfold KTy at h
  cases hu:P.underlying t with
  |none=>rw[hu] at h;cases h
  |some u =>
   rw[hu] at h
   let Q:TypeId→List Value→Prop:=fun t cs=>(∃ fuel x,DataW.trod enc P w 0 (fun _=>true) true fuel t cs=some x)∧∃ ts,P.cellTypes d t=some ts∧okc P w r base ts cs
   let R:Kind→List Value→Prop:=fun k cs=>k.lev1=true→∀ ρ σ,View w ρ σ→ArgIs w ρ σ k cs
   have hR:∀ a b cs ds,R a cs→R b ds→R (.pair a b) (cs++ds):=fun a b cs ds h1 h2 hl ρ σ hv=>by
    simp only[Kind.lev1,Bool.and_eq_true] at hl
    exact(h1 hl.1 ρ σ hv).pair fun ρ σ hv=>h2 hl.2 ρ σ hv
   have hT:∀ k t cs,KTy P n k t=true→Q t cs→R k cs:=fun k t cs h1 ⟨⟨fuel,x,h2⟩,ts,h3,h4⟩ hl=>KTy_read h1 hl h3 h4 h2
   have hlen:∀ k t ts,KTy P n k t=true→P.cellTypes d t=some ts→ts.length=k.size:=fun k t ts h1 h2=>KTy_len h1 h2
   unfold Program.cellTypes at hts
   rw[hu] at hts
   cases u<;>first|(cases h;done)|skip
   all_goals simp only at h
   ·split at h<;>first|(cases h;done)|(exact absurd rfl hflat)
   ·split at h<;>first|(cases h;done)|(exact absurd rfl hflat)
   ·split at h<;>first|(cases h;done)|(exact absurd rfl hflat)
   ·rename_i e
    split at h<;>first|(cases h;done)|skip
    simp only[Bool.and_eq_true,beq_iff_eq] at h
    simp only[Option.some.injEq] at hts
    subst hts
    exact hv.list hu h.1 h.2.1 h.2.2 hx hok
   ·rename_i m e
    simp only[Bool.and_eq_true,beq_iff_eq] at h
    obtain⟨xs,m',_,_,hl,hxl,hx⟩:=DataW.trod_array hu hx
    simp only at hts
    cases hc:P.cellTypes d e with
    |none=>rw[hc] at hts;cases hts
    |some te =>
     rw[hc] at hts
     obtain rfl:=Option.some.inj hts
     have htm:((List.range m).map fun i=>(e,i*P.cellsOf e)).mapM (fun p:TypeId×Nat=>P.cellTypes d p.1)=some (List.replicate m te):=by
      rw[mapM_map,mapM_const (x:=te) (fun _=>hc)];simp
     have:=KFs_read (Q:=Q) (R:=R) hT hR cs h.2 (fun p hp=>by
      have hty:=KFs_types (g:=fun t=>P.cellTypes d t) hlen h.2 htm p hp
      simp only[List.mem_map,List.mem_range] at hp
      obtain⟨i,hi,rfl⟩:=hp
      have:=hx i hi
      rw[List.getElem?_eq_getElem (by omega)] at this
      exact⟨⟨_,_,this⟩,_,hty.2,okc_part hok _ _⟩) hf ρ σ hv
     rwa [List.drop_zero,List.take_of_length_le (by omega)] at this
   ·rename_i fs
    simp only[Bool.and_eq_true,beq_iff_eq] at h
    obtain⟨xs,m',_,_,hl,hxl,hx⟩:=DataW.trod_struct hu hx
    simp only at hts
    cases hc:fs.toList.mapM fun f=>P.cellTypes d f.type with
    |none=>rw[hc] at hts;cases hts
    |some tss =>
     rw[hc] at hts
     obtain rfl:=Option.some.inj hts
     have htm:(fs.toList.map fun f=>(f.type,f.offset)).mapM (fun p:TypeId×Nat=>P.cellTypes d p.1)=some tss:=by
      rw[mapM_map];exact hc
     have:=KFs_read (Q:=Q) (R:=R) hT hR cs h.2 (fun p hp=>by
      have hty:=KFs_types (g:=fun t=>P.cellTypes d t) hlen h.2 htm p hp
      simp only[List.mem_map] at hp
      obtain⟨f,hf',rfl⟩:=hp
      obtain⟨i,hi⟩:=range_mem_get hf'
      have:=hx i f hi
      have hil:i<fs.size:=(Array.getElem?_eq_some_iff.1 hi).1
      rw[List.getElem?_eq_getElem (by omega)] at this
      exact⟨⟨_,_,this⟩,_,hty.2,okc_part hok _ _⟩) hf ρ σ hv
     rwa [List.drop_zero,List.take_of_length_le (by omega)] at this
def isAgg (P:Program) (t:TypeId):Bool:=match P.underlying t with
 |some (.struct _)=>true
 |some (.array _ _)=>true
 |_=>false
theorem View.arg {ρ:Plc} {σ:Heap} (h:View w ρ σ) {n:Nat} {k:Kind} {t:TypeId} {v:Value} {d:DataW H} {p:List MemPlace} (hk:KTy P n k t=true) (hl:k.lev1=true) (ha:isAgg P t=!k.one) (hok:Value.okWide P w r base t v) (hd:DataW.Trod enc P w 0 (fun _=>true) true t v d p) :
  ∃ ρ' σ' vv x,View w ρ' σ'∧More ρ σ ρ' σ'∧VRel ρ' σ'.n vv v∧KV σ' k x vv∧KWf k x:=by
 obtain⟨fuel,hd⟩:=hd
 by_cases hagg:isAgg P t=true
 ·have hone:k.one=false:=by rw[hagg] at ha;simpa using ha.symm
  have:∃ cs,v=.agg cs∧cs.size=P.cellsOf t∧Row.okWide P w r base t cs:=by
   unfold isAgg at hagg
   unfold Value.okWide at hok
   split at hagg<;>first|(cases hagg;done)|skip
   ·rename_i hu;rw[hu] at hok;exact hok
   ·rename_i hu;rw[hu] at hok;exact hok
  obtain⟨cs,rfl,hsz,ts,hts,_,hcells⟩:=this
  have hlen:=KTy_len hk hts
  have hcs:P.cellsOf t=k.size:=by
   unfold isAgg at hagg
   cases n with
   |zero=>cases hk
   |succ n =>
    unfold KTy at hk
    split at hagg<;>first|(cases hagg;done)|skip
    all_goals
     rename_i hu
     rw[hu] at hk
     simp only[Bool.and_eq_true,beq_iff_eq] at hk
     exact hk.1
  have hokc:okc P w r base ts cs.toList:=fun i v u h1 h2=>by
   have hi:i<ts.length:=(List.getElem?_eq_some_iff.1 h2).1
   obtain⟨u',h3,h4⟩:=hcells i v (by simpa using h1)
   rw[Nat.mod_eq_of_lt hi] at h3
   obtain rfl:=Option.some.inj (h2.symm.trans h3)
   exact h4
  obtain⟨ρ',σ',vs,x,k1,k2,k3,k4,k5⟩:=KTy_read hk hl hts hokc (show DataW.trod enc P w 0 _ true fuel t cs.toList=_ from hd) ρ σ h
  exact⟨ρ',σ',.agg vs.toArray,x,k1,k2,VRel.agg_of (ds:=cs.toList) k3,.inr ⟨hone,vs,rfl,k4⟩,k5⟩
 ·have hone:k.one=true:=by
   have:isAgg P t=false:=by simpa using hagg
   rw[this] at ha;simpa using ha.symm
  have hsize:=Kind.one_size hone
  have hcell:Cell.okWide P w r base t v∧v.cells.toList=[v]:=by
   have h1:isAgg P t=false:=by simpa using hagg
   unfold isAgg at h1
   have h2:Cell.okWide P w r base t v:=by
    unfold Value.okWide at hok
    split at hok
    ·rename_i hu;rw[hu] at h1;cases h1
    ·rename_i hu;rw[hu] at h1;cases h1
    ·exact hok
   refine⟨h2,?_⟩
   cases v<;>first|rfl|skip
   all_goals
    exfalso
    cases n with
    |zero=>cases hk
    |succ n =>
     unfold KTy at hk
     unfold Cell.okWide Cell.ok at h2
     cases hu:P.underlying t with
     |none=>rw[hu] at hk;cases hk
     |some u =>
      rw[hu] at hk h2 h1
      cases u<;>first|(cases hk;done)|(cases h1;done)|(cases h2;done)|(simp at h2;done)
  have hts:P.cellTypes 1 t=some [t]:=by
   have h1:isAgg P t=false:=by simpa using hagg
   unfold isAgg at h1
   unfold Program.cellTypes
   cases n with
   |zero=>cases hk
   |succ n =>
    unfold KTy at hk
    cases hu:P.underlying t with
    |none=>rw[hu] at hk;cases hk
    |some u =>
     rw[hu] at h1
     cases u<;>first|rfl|(cases h1;done)
  rw[hcell.2] at hd
  have hokc:okc P w r base [t] [v]:=fun i v' u h1 h2=>by
   cases i with
   |zero=>cases h1;cases h2;exact hcell.1
   |succ i=>simp at h1
  obtain⟨ρ',σ',vs,x,k1,k2,k3,k4,k5⟩:=KTy_read hk hl hts hokc hd ρ σ h
  have:vs.length=1:=by rw[KC.length k4];exact hsize
  obtain⟨vv,rfl⟩:=List.length_eq_one_iff.1 this
  exact⟨ρ',σ',vv,x,k1,k2,k3.2 0 _ _ rfl rfl,.inl ⟨hone,k4⟩,k5⟩
def AWf:(ks:List Kind)→AT ks→Prop
 |[],_=>True
 |[k],x=>KWf k x
 |k::k'::ks,x=>KWf k x.1∧AWf (k'::ks) x.2
def ktys (P:Program):List Kind→List TypeId→Bool
 |[],[]=>true
 |k::ks,t::ts=>(KTy P 8 k t&&(k.lev1&&(isAgg P t==!k.one)))&&ktys P ks ts
 |_,_=>false
theorem View.args:∀ {ks:List Kind} {ts:List TypeId} {vs:List Value} {ds:List (DataW H)} {ps:List MemPlace} {ρ:Plc} {σ:Heap},View w ρ σ→ktys P ks ts=true→(∀ (j:Nat) t v,ts[j]?=some t→vs[j]?=some v→Value.okWide P w r base t v)→DataW.TrodAll enc P w 0 (fun _=>true) true ts vs ds ps →
  ∃ ρ' σ' vvs x,View w ρ' σ'∧More ρ σ ρ' σ'∧LRel ρ' σ'.n vvs vs∧atVals σ' ks x vvs∧AWf ks x
 |[],[],vs,ds,ps,ρ,σ,h,_,_,hA=>by
  obtain⟨rfl,rfl,rfl⟩:=trodAll_nil hA
  exact⟨ρ,σ,[],(),h,More.refl _ _,.nil _ _,rfl,trivial⟩
 |[k],[t],vs,ds,ps,ρ,σ,h,hk,hv,hA=>by
  obtain⟨v,vs',d,ds',p,q,rfl,rfl,rfl,h1,h2⟩:=trodAll_cons hA
  obtain⟨rfl,rfl,rfl⟩:=trodAll_nil h2
  simp only[ktys,Bool.and_eq_true,beq_iff_eq] at hk
  obtain⟨ρ',σ',vv,x,k1,k2,k3,k4,k5⟩:=h.arg hk.1.1 hk.1.2.1 hk.1.2.2 (hv 0 t v rfl rfl) h1
  exact⟨ρ',σ',[vv],x,k1,k2,.one k3,⟨vv,rfl,k4⟩,k5⟩
 |k::k'::ks,t::ts,vs,ds,ps,ρ,σ,h,hk,hv,hA=>by
  obtain⟨v,vs',d,ds',p,q,rfl,rfl,rfl,h1,h2⟩:=trodAll_cons hA
  simp only[ktys,Bool.and_eq_true,beq_iff_eq] at hk
  obtain⟨ρ1,σ1,vv,x,k1,k2,k3,k4,k5⟩:=h.arg hk.1.1 hk.1.2.1 hk.1.2.2 (hv 0 t v rfl rfl) h1
  obtain⟨ρ2,σ2,vvs,y,m1,m2,m3,m4,m5⟩:=k1.args (ks:=k'::ks) hk.2 (fun j t v h1 h2=>hv (j+1) t v h1 h2) h2
  exact⟨ρ2,σ2,vv::vvs,(x,y),m1,k2.trans m2,.cons (k3.mono m2.n m2.pl) m3,⟨vv,vvs,rfl,k4.vcall m2.le,m4⟩,k5,m5⟩
 |[],_::_,_,_,_,_,_,_,hk,_,_|_::_,[],_,_,_,_,_,_,hk,_,_|[_],_::_::_,_,_,_,_,_,_,hk,_,_=>by simp[ktys] at hk
theorem law_calls (hT:Tabs w) {f:Nat} {sp:CSp} (hsp:OkC P f sp) (he:Enterable P f) {ks:List Kind} {ts:List TypeId} {args:Array Value} {ds:List (DataW H)} {ps:List MemPlace} (hk:ktys P ks ts=true)
  (hv:∀ (j:Nat) t v,ts[j]?=some t→args.toList[j]?=some v→Value.okWide P w r base t v) (hA:DataW.TrodAll enc P w 0 (fun _=>true) true ts args.toList ds ps)
  (hs:∀ x:AT ks,AWf ks x→∃ c,sp (fun _ _=>none) (atSVs ks x)=some (c,.val .bo true,[])∧c):Calls P f args w fun e w'=>e=.returned (.bool true)∧Below w.heap.size w w':=by
 obtain⟨ρ,σ,vvs,x,k1,k2,k3,k4,k5⟩:=(View.emptyT w hT).args hk hv hA
 obtain⟨c,h1,h2⟩:=hs x k5
 exact k1.calls k3 (hsp.true he (atSVs_sound k4) h1 h2)
end
end Go.V
namespace Go.V
open Go
theorem trodAll_len {H:Type} {enc:TypeId×Value→H} {P:Program} {w:World} {b:Nat} {sp:Nat→Bool} {hd:Bool}:∀ {ts:List TypeId} {vs:List Value} {ds:List (DataW H)} {ps:List MemPlace},DataW.TrodAll enc P w b sp hd ts vs ds ps→ds.length=ts.length
 |[],[],[],_,_=>rfl
 |t::ts,v::vs,d::ds,ps,h=>by
  obtain⟨p,q,_,h2,_⟩:=h
  simp[trodAll_len h2]
 |[],[],_::_,_,h|[],_::_,_,_,h|_::_,[],_,_,h|_::_,_::_,[],_,h=>h.elim
end Go.V
namespace Go.Proofs.Tryd
open Go Go.V
noncomputable def tabT:List (Option FEnt):=[
 none,
 none,
 some (.code c2 [] 1),
 some (.code c3 [.tmp 6] 346),
 some (.code c4 [.tmp 2,.tmp 3,.tmp 4,.tmp 5,.tmp 6] 105),
 some (.codeJ c5 [.cell 6 true 2,.tmp 7,.tmp 8] 37),
 some (.code c6 [.tmp 2] 6),
 some (.codeJ c7 [.tmp 4,.tmp 5] 23),
 some (.codeJ c8 [.cell 8 true 2,.tmp 9] 103),
 some (.code c9 [.cell 4 true 2] 8),
 some (.code c10 [.tmp 0] 193),
 some (.code c11 [.cell 6 true 3,.tmp 7] 33),
 some (.codeJ c12 [.tmp 2,.tmp 3] 41),
 some (.code c13 [.tmp 4] 26),
 some (.code c14 [.tmp 4] 17),
 some (.code c15 [.tmp 6] 11),
 some (.code c16 [.cell 0 true 2] 2),
 some (.code c17 [.tmp 2] 4),
 some (.code c18 [.cell 6 true 2] 44),
 some (.code c19 [.cell 4 true 2] 16),
 some (.code c20 [.cell 4 true 2] 17),
 some (.codeJ c21 [.cell 4 true 2,.tmp 5] 52),
 some (.code c22 [.tmp 0] 10),
 some (.codeJ c23 [.tmp 4,.tmp 5] 15),
 some (.codeJ c24 [.tmp 4,.tmp 5] 18),
 some (.codeJ c25 [.tmp 6,.tmp 7] 29),
 some (.codeJ c26 [.tmp 4,.tmp 5,.tmp 6] 73),
 some (.code c27 [.tmp 2] 9),
 some (.code c28 [.tmp 4] 26),
 some (.code c29 [.tmp 2] 15),
 some (.code c30 [.tmp 4] 9),
 some (.code c31 [.cell 6 true 2] 44),
 some (.code c32 [.tmp 4] 9),
 some (.code c33 [.tmp 4] 13),
 some (.code c34 [] 19),
 some (.code c35 [.tmp 2] 10),
 some (.code c36 [.cell 2 true 2] 61),
 some (.code c37 [.tmp 4,.tmp 5,.tmp 6] 29),
 some (.code c38 [.cell 4 true 2,.tmp 5] 21),
 some (.code c39 [.tmp 2] 13),
 some (.codeJ c40 [.tmp 4,.tmp 5] 62),
 some (.code c41 [.tmp 4] 63),
 some (.codeJ c42 [.tmp 2] 15),
 some (.codeJ c43 [.tmp 6] 21),
 some (.code c44 [.tmp 4] 19),
 some (.code c45 [.tmp 4] 19),
 some (.code c46 [.tmp 4] 9),
 some (.code c47 [.tmp 2] 6),
 some (.code c48 [.tmp 2] 32),
 some (.codeJ c49 [.tmp 2] 16),
 some (.code c50 [.tmp 2,.tmp 3] 64),
 some (.codeJ c51 [.tmp 4] 24),
 some (.codeJ c52 [.tmp 4] 38),
 some (.code c53 [.tmp 2] 18),
 some (.code c54 [.tmp 4] 20),
 some (.code c55 [.tmp 4] 36),
 some (.code c56 [.tmp 2] 8),
 some (.code c57 [.tmp 4] 19),
 some (.code c58 [] 9),
 some (.code c59 [.tmp 5] 36),
 some (.code c60 [] 11),
 some (.code c61 [] 14),
 some (.code c62 [.tmp 3] 11),
 some (.code c63 [.tmp 2] 6),
 some (.code c64 [.tmp 2] 14),
 some (.code c65 [.tmp 2] 14),
 some (.code c66 [] 63),
 some (.code c67 [] 134),
 some (.code c68 [.tmp 2] 8),
 some (.code c69 [] 148),
 some (.code c70 [] 53),
 some (.code c71 [] 220),
 some (.code c72 [] 49),
 some (.code c73 [] 56),
 some (.code c74 [] 65),
 some (.code c75 [.tmp 6,.tmp 7] 57),
 some (.code c76 [] 32),
 some (.code c77 [.tmp 6] 133),
 some (.code c78 [.tmp 4] 17),
 some (.code c79 [.tmp 8] 84),
 some (.code c80 [.tmp 8,.tmp 9] 168),
 some (.code c81 [.tmp 2] 19),
 some (.code c82 [.tmp 2] 25),
 some (.code c83 [] 53),
 some (.code c84 [] 60),
 some (.code c85 [] 67),
 some (.code c86 [.tmp 8,.tmp 9] 63),
 some (.code c87 [] 34),
 some (.code c88 [.tmp 8] 141),
 some (.code c89 [.tmp 10] 90),
 some (.code c90 [.tmp 10,.tmp 11] 178),
 some (.code c91 [] 58),
 some (.code c92 [] 76),
 some (.code c93 [.tmp 2] 7),
 some (.code c94 [.tmp 2] 33),
 some (.code c95 [.tmp 6] 15),
 some (.code c96 [.tmp 10] 36),
 some (.code c97 [] 82),
 some (.code c98 [.tmp 8] 18),
 some (.code c99 [.tmp 12] 41),
 some (.code c100 [] 38),
 some (.code c101 [.tmp 8,.tmp 9] 28),
 some (.code c102 [.tmp 10,.tmp 11] 32)]
noncomputable def tabt:Tab:=fun f=>(tabT[f]?).join
theorem tabT_ok:EntsOk Tryd.prog 0 tabT:=⟨trivial,trivial,fun2,fun3,fun4,fun5,fun6,fun7,fun8,fun9,fun10,fun11,fun12,fun13,fun14,fun15,fun16,fun17,fun18,fun19,fun20,fun21,fun22,fun23,fun24,fun25,fun26,fun27,fun28,fun29,fun30,fun31,fun32,fun33,fun34,fun35,fun36,fun37,fun38,fun39,fun40,fun41,fun42,fun43,fun44,fun45,fun46,fun47,fun48,fun49,fun50,fun51,fun52,fun53,fun54,fun55,fun56,fun57,fun58,fun59,fun60,fun61,fun62,fun63,fun64,fun65,fun66,fun67,fun68,fun69,fun70,fun71,fun72,fun73,fun74,fun75,fun76,fun77,fun78,fun79,fun80,fun81,fun82,fun83,fun84,fun85,fun86,fun87,fun88,fun89,fun90,fun91,fun92,fun93,fun94,fun95,fun96,fun97,fun98,fun99,fun100,fun101,fun102,trivial⟩
theorem tabt_ok:TabOk Tryd.prog tabt:=tabOk_of tabT_ok
end Go.Proofs.Tryd
namespace Go.Proofs.Tryd
open Go Go.V
def mA1:Memo:=⟨[.int .u64 1],[],.slice (some ⟨0,0,none⟩) 1 1,[⟨[.int .i64 0],⟨1,3⟩,false⟩]⟩
theorem mA1_ok:MemoOk Tryd.prog 42 mA1:=memo_run mixed tabt_ok 200 (by kernel_rfl) (by kernel_rfl)
def mA2:Memo:=⟨[.int .u64 2],[],.slice (some ⟨0,0,none⟩) 1 1,[⟨[.int .i64 1],⟨1,3⟩,false⟩]⟩
theorem mA2_ok:MemoOk Tryd.prog 42 mA2:=memo_run mixed tabt_ok 200 (by kernel_rfl) (by kernel_rfl)
def mA3:Memo:=⟨[.int .u64 3],[],.slice (some ⟨0,0,none⟩) 2 2,[⟨[.int .i64 0,.int .i64 1],⟨1,3⟩,false⟩]⟩
theorem mA3_ok:MemoOk Tryd.prog 42 mA3:=memo_run mixed tabt_ok 200 (by kernel_rfl) (by kernel_rfl)
def mA4:Memo:=⟨[.int .u64 4],[],.slice (some ⟨0,0,none⟩) 1 1,[⟨[.int .i64 2],⟨1,3⟩,false⟩]⟩
theorem mA4_ok:MemoOk Tryd.prog 42 mA4:=memo_run mixed tabt_ok 200 (by kernel_rfl) (by kernel_rfl)
def mA5:Memo:=⟨[.int .u64 5],[],.slice (some ⟨0,0,none⟩) 2 2,[⟨[.int .i64 0,.int .i64 2],⟨1,3⟩,false⟩]⟩
theorem mA5_ok:MemoOk Tryd.prog 42 mA5:=memo_run mixed tabt_ok 200 (by kernel_rfl) (by kernel_rfl)
def mA6:Memo:=⟨[.int .u64 6],[],.slice (some ⟨0,0,none⟩) 2 2,[⟨[.int .i64 1,.int .i64 2],⟨1,3⟩,false⟩]⟩
theorem mA6_ok:MemoOk Tryd.prog 42 mA6:=memo_run mixed tabt_ok 200 (by kernel_rfl) (by kernel_rfl)
def mA7:Memo:=⟨[.int .u64 7],[],.slice (some ⟨0,0,none⟩) 3 3,[⟨[.int .i64 0,.int .i64 1,.int .i64 2],⟨1,3⟩,false⟩]⟩
theorem mA7_ok:MemoOk Tryd.prog 42 mA7:=memo_run mixed tabt_ok 200 (by kernel_rfl) (by kernel_rfl)
def mA8:Memo:=⟨[.int .u64 8],[],.slice (some ⟨0,0,none⟩) 1 1,[⟨[.int .i64 3],⟨1,3⟩,false⟩]⟩
theorem mA8_ok:MemoOk Tryd.prog 42 mA8:=memo_run mixed tabt_ok 200 (by kernel_rfl) (by kernel_rfl)
def mA9:Memo:=⟨[.int .u64 9],[],.slice (some ⟨0,0,none⟩) 2 2,[⟨[.int .i64 0,.int .i64 3],⟨1,3⟩,false⟩]⟩
theorem mA9_ok:MemoOk Tryd.prog 42 mA9:=memo_run mixed tabt_ok 200 (by kernel_rfl) (by kernel_rfl)
def mA10:Memo:=⟨[.int .u64 10],[],.slice (some ⟨0,0,none⟩) 2 2,[⟨[.int .i64 1,.int .i64 3],⟨1,3⟩,false⟩]⟩
theorem mA10_ok:MemoOk Tryd.prog 42 mA10:=memo_run mixed tabt_ok 200 (by kernel_rfl) (by kernel_rfl)
def mA11:Memo:=⟨[.int .u64 11],[],.slice (some ⟨0,0,none⟩) 3 3,[⟨[.int .i64 0,.int .i64 1,.int .i64 3],⟨1,3⟩,false⟩]⟩
theorem mA11_ok:MemoOk Tryd.prog 42 mA11:=memo_run mixed tabt_ok 200 (by kernel_rfl) (by kernel_rfl)
def mA12:Memo:=⟨[.int .u64 12],[],.slice (some ⟨0,0,none⟩) 2 2,[⟨[.int .i64 2,.int .i64 3],⟨1,3⟩,false⟩]⟩
theorem mA12_ok:MemoOk Tryd.prog 42 mA12:=memo_run mixed tabt_ok 200 (by kernel_rfl) (by kernel_rfl)
def mA13:Memo:=⟨[.int .u64 13],[],.slice (some ⟨0,0,none⟩) 3 3,[⟨[.int .i64 0,.int .i64 2,.int .i64 3],⟨1,3⟩,false⟩]⟩
theorem mA13_ok:MemoOk Tryd.prog 42 mA13:=memo_run mixed tabt_ok 200 (by kernel_rfl) (by kernel_rfl)
def mA14:Memo:=⟨[.int .u64 14],[],.slice (some ⟨0,0,none⟩) 3 3,[⟨[.int .i64 1,.int .i64 2,.int .i64 3],⟨1,3⟩,false⟩]⟩
theorem mA14_ok:MemoOk Tryd.prog 42 mA14:=memo_run mixed tabt_ok 200 (by kernel_rfl) (by kernel_rfl)
def mA15:Memo:=⟨[.int .u64 15],[],.slice (some ⟨0,0,none⟩) 4 4,[⟨[.int .i64 0,.int .i64 1,.int .i64 2,.int .i64 3],⟨1,3⟩,false⟩]⟩
theorem mA15_ok:MemoOk Tryd.prog 42 mA15:=memo_run mixed tabt_ok 200 (by kernel_rfl) (by kernel_rfl)
end Go.Proofs.Tryd
namespace Go.Proofs.Tryd
open Go Go.V
def mL1_20:Memo:=⟨[.agg #[.slice (some ⟨0,0,none⟩) 4 4,.int .i64 20],.int .u64 1],[⟨[.int .i64 1,.int .i64 100,.int .i64 110,.int .i64 500,.int .i64 1,.int .i64 105,.int .i64 112,.int .i64 300,.int .i64 1,.int .i64 108,.int .i64 125,.int .i64 400,.int .i64 1,.int .i64 120,.int .i64 130,.int .i64 600],⟨4,88⟩,true⟩],.bool true,[]⟩
theorem mL1_20_ok:MemoOk Tryd.prog 52 mL1_20:=memo_run mixed tabt_ok 200 (by kernel_rfl) (by kernel_rfl)
def mL2_20:Memo:=⟨[.agg #[.slice (some ⟨0,0,none⟩) 4 4,.int .i64 20],.int .u64 2],[⟨[.int .i64 1,.int .i64 100,.int .i64 110,.int .i64 500,.int .i64 1,.int .i64 105,.int .i64 112,.int .i64 300,.int .i64 1,.int .i64 108,.int .i64 125,.int .i64 400,.int .i64 1,.int .i64 120,.int .i64 130,.int .i64 600],⟨4,88⟩,true⟩],.bool true,[]⟩
theorem mL2_20_ok:MemoOk Tryd.prog 52 mL2_20:=memo_run mixed tabt_ok 200 (by kernel_rfl) (by kernel_rfl)
def mL3_20:Memo:=⟨[.agg #[.slice (some ⟨0,0,none⟩) 4 4,.int .i64 20],.int .u64 3],[⟨[.int .i64 1,.int .i64 100,.int .i64 110,.int .i64 500,.int .i64 1,.int .i64 105,.int .i64 112,.int .i64 300,.int .i64 1,.int .i64 108,.int .i64 125,.int .i64 400,.int .i64 1,.int .i64 120,.int .i64 130,.int .i64 600],⟨4,88⟩,true⟩],.bool true,[]⟩
theorem mL3_20_ok:MemoOk Tryd.prog 52 mL3_20:=memo_run mixed tabt_ok 200 (by kernel_rfl) (by kernel_rfl)
def mL4_20:Memo:=⟨[.agg #[.slice (some ⟨0,0,none⟩) 4 4,.int .i64 20],.int .u64 4],[⟨[.int .i64 1,.int .i64 100,.int .i64 110,.int .i64 500,.int .i64 1,.int .i64 105,.int .i64 112,.int .i64 300,.int .i64 1,.int .i64 108,.int .i64 125,.int .i64 400,.int .i64 1,.int .i64 120,.int .i64 130,.int .i64 600],⟨4,88⟩,true⟩],.bool true,[]⟩
theorem mL4_20_ok:MemoOk Tryd.prog 52 mL4_20:=memo_run mixed tabt_ok 200 (by kernel_rfl) (by kernel_rfl)
def mL5_20:Memo:=⟨[.agg #[.slice (some ⟨0,0,none⟩) 4 4,.int .i64 20],.int .u64 5],[⟨[.int .i64 1,.int .i64 100,.int .i64 110,.int .i64 500,.int .i64 1,.int .i64 105,.int .i64 112,.int .i64 300,.int .i64 1,.int .i64 108,.int .i64 125,.int .i64 400,.int .i64 1,.int .i64 120,.int .i64 130,.int .i64 600],⟨4,88⟩,true⟩],.bool false,[]⟩
theorem mL5_20_ok:MemoOk Tryd.prog 52 mL5_20:=memo_run mixed tabt_ok 200 (by kernel_rfl) (by kernel_rfl)
def mL6_20:Memo:=⟨[.agg #[.slice (some ⟨0,0,none⟩) 4 4,.int .i64 20],.int .u64 6],[⟨[.int .i64 1,.int .i64 100,.int .i64 110,.int .i64 500,.int .i64 1,.int .i64 105,.int .i64 112,.int .i64 300,.int .i64 1,.int .i64 108,.int .i64 125,.int .i64 400,.int .i64 1,.int .i64 120,.int .i64 130,.int .i64 600],⟨4,88⟩,true⟩],.bool true,[]⟩
theorem mL6_20_ok:MemoOk Tryd.prog 52 mL6_20:=memo_run mixed tabt_ok 200 (by kernel_rfl) (by kernel_rfl)
def mL7_20:Memo:=⟨[.agg #[.slice (some ⟨0,0,none⟩) 4 4,.int .i64 20],.int .u64 7],[⟨[.int .i64 1,.int .i64 100,.int .i64 110,.int .i64 500,.int .i64 1,.int .i64 105,.int .i64 112,.int .i64 300,.int .i64 1,.int .i64 108,.int .i64 125,.int .i64 400,.int .i64 1,.int .i64 120,.int .i64 130,.int .i64 600],⟨4,88⟩,true⟩],.bool false,[]⟩
theorem mL7_20_ok:MemoOk Tryd.prog 52 mL7_20:=memo_run mixed tabt_ok 200 (by kernel_rfl) (by kernel_rfl)
def mL8_20:Memo:=⟨[.agg #[.slice (some ⟨0,0,none⟩) 4 4,.int .i64 20],.int .u64 8],[⟨[.int .i64 1,.int .i64 100,.int .i64 110,.int .i64 500,.int .i64 1,.int .i64 105,.int .i64 112,.int .i64 300,.int .i64 1,.int .i64 108,.int .i64 125,.int .i64 400,.int .i64 1,.int .i64 120,.int .i64 130,.int .i64 600],⟨4,88⟩,true⟩],.bool true,[]⟩
theorem mL8_20_ok:MemoOk Tryd.prog 52 mL8_20:=memo_run mixed tabt_ok 200 (by kernel_rfl) (by kernel_rfl)
def mL9_20:Memo:=⟨[.agg #[.slice (some ⟨0,0,none⟩) 4 4,.int .i64 20],.int .u64 9],[⟨[.int .i64 1,.int .i64 100,.int .i64 110,.int .i64 500,.int .i64 1,.int .i64 105,.int .i64 112,.int .i64 300,.int .i64 1,.int .i64 108,.int .i64 125,.int .i64 400,.int .i64 1,.int .i64 120,.int .i64 130,.int .i64 600],⟨4,88⟩,true⟩],.bool false,[]⟩
theorem mL9_20_ok:MemoOk Tryd.prog 52 mL9_20:=memo_run mixed tabt_ok 200 (by kernel_rfl) (by kernel_rfl)
def mL10_20:Memo:=⟨[.agg #[.slice (some ⟨0,0,none⟩) 4 4,.int .i64 20],.int .u64 10],[⟨[.int .i64 1,.int .i64 100,.int .i64 110,.int .i64 500,.int .i64 1,.int .i64 105,.int .i64 112,.int .i64 300,.int .i64 1,.int .i64 108,.int .i64 125,.int .i64 400,.int .i64 1,.int .i64 120,.int .i64 130,.int .i64 600],⟨4,88⟩,true⟩],.bool false,[]⟩
theorem mL10_20_ok:MemoOk Tryd.prog 52 mL10_20:=memo_run mixed tabt_ok 200 (by kernel_rfl) (by kernel_rfl)
def mL11_20:Memo:=⟨[.agg #[.slice (some ⟨0,0,none⟩) 4 4,.int .i64 20],.int .u64 11],[⟨[.int .i64 1,.int .i64 100,.int .i64 110,.int .i64 500,.int .i64 1,.int .i64 105,.int .i64 112,.int .i64 300,.int .i64 1,.int .i64 108,.int .i64 125,.int .i64 400,.int .i64 1,.int .i64 120,.int .i64 130,.int .i64 600],⟨4,88⟩,true⟩],.bool false,[]⟩
theorem mL11_20_ok:MemoOk Tryd.prog 52 mL11_20:=memo_run mixed tabt_ok 200 (by kernel_rfl) (by kernel_rfl)
def mL12_20:Memo:=⟨[.agg #[.slice (some ⟨0,0,none⟩) 4 4,.int .i64 20],.int .u64 12],[⟨[.int .i64 1,.int .i64 100,.int .i64 110,.int .i64 500,.int .i64 1,.int .i64 105,.int .i64 112,.int .i64 300,.int .i64 1,.int .i64 108,.int .i64 125,.int .i64 400,.int .i64 1,.int .i64 120,.int .i64 130,.int .i64 600],⟨4,88⟩,true⟩],.bool false,[]⟩
theorem mL12_20_ok:MemoOk Tryd.prog 52 mL12_20:=memo_run mixed tabt_ok 200 (by kernel_rfl) (by kernel_rfl)
def mL13_20:Memo:=⟨[.agg #[.slice (some ⟨0,0,none⟩) 4 4,.int .i64 20],.int .u64 13],[⟨[.int .i64 1,.int .i64 100,.int .i64 110,.int .i64 500,.int .i64 1,.int .i64 105,.int .i64 112,.int .i64 300,.int .i64 1,.int .i64 108,.int .i64 125,.int .i64 400,.int .i64 1,.int .i64 120,.int .i64 130,.int .i64 600],⟨4,88⟩,true⟩],.bool false,[]⟩
theorem mL13_20_ok:MemoOk Tryd.prog 52 mL13_20:=memo_run mixed tabt_ok 200 (by kernel_rfl) (by kernel_rfl)
def mL14_20:Memo:=⟨[.agg #[.slice (some ⟨0,0,none⟩) 4 4,.int .i64 20],.int .u64 14],[⟨[.int .i64 1,.int .i64 100,.int .i64 110,.int .i64 500,.int .i64 1,.int .i64 105,.int .i64 112,.int .i64 300,.int .i64 1,.int .i64 108,.int .i64 125,.int .i64 400,.int .i64 1,.int .i64 120,.int .i64 130,.int .i64 600],⟨4,88⟩,true⟩],.bool false,[]⟩
theorem mL14_20_ok:MemoOk Tryd.prog 52 mL14_20:=memo_run mixed tabt_ok 200 (by kernel_rfl) (by kernel_rfl)
def mL15_20:Memo:=⟨[.agg #[.slice (some ⟨0,0,none⟩) 4 4,.int .i64 20],.int .u64 15],[⟨[.int .i64 1,.int .i64 100,.int .i64 110,.int .i64 500,.int .i64 1,.int .i64 105,.int .i64 112,.int .i64 300,.int .i64 1,.int .i64 108,.int .i64 125,.int .i64 400,.int .i64 1,.int .i64 120,.int .i64 130,.int .i64 600],⟨4,88⟩,true⟩],.bool false,[]⟩
theorem mL15_20_ok:MemoOk Tryd.prog 52 mL15_20:=memo_run mixed tabt_ok 200 (by kernel_rfl) (by kernel_rfl)
def mL1_25:Memo:=⟨[.agg #[.slice (some ⟨0,0,none⟩) 4 4,.int .i64 25],.int .u64 1],[⟨[.int .i64 1,.int .i64 100,.int .i64 110,.int .i64 500,.int .i64 1,.int .i64 105,.int .i64 112,.int .i64 300,.int .i64 1,.int .i64 108,.int .i64 125,.int .i64 400,.int .i64 1,.int .i64 120,.int .i64 130,.int .i64 600],⟨4,88⟩,true⟩],.bool true,[]⟩
theorem mL1_25_ok:MemoOk Tryd.prog 52 mL1_25:=memo_run mixed tabt_ok 200 (by kernel_rfl) (by kernel_rfl)
def mL2_25:Memo:=⟨[.agg #[.slice (some ⟨0,0,none⟩) 4 4,.int .i64 25],.int .u64 2],[⟨[.int .i64 1,.int .i64 100,.int .i64 110,.int .i64 500,.int .i64 1,.int .i64 105,.int .i64 112,.int .i64 300,.int .i64 1,.int .i64 108,.int .i64 125,.int .i64 400,.int .i64 1,.int .i64 120,.int .i64 130,.int .i64 600],⟨4,88⟩,true⟩],.bool true,[]⟩
theorem mL2_25_ok:MemoOk Tryd.prog 52 mL2_25:=memo_run mixed tabt_ok 200 (by kernel_rfl) (by kernel_rfl)
def mL3_25:Memo:=⟨[.agg #[.slice (some ⟨0,0,none⟩) 4 4,.int .i64 25],.int .u64 3],[⟨[.int .i64 1,.int .i64 100,.int .i64 110,.int .i64 500,.int .i64 1,.int .i64 105,.int .i64 112,.int .i64 300,.int .i64 1,.int .i64 108,.int .i64 125,.int .i64 400,.int .i64 1,.int .i64 120,.int .i64 130,.int .i64 600],⟨4,88⟩,true⟩],.bool true,[]⟩
theorem mL3_25_ok:MemoOk Tryd.prog 52 mL3_25:=memo_run mixed tabt_ok 200 (by kernel_rfl) (by kernel_rfl)
def mL4_25:Memo:=⟨[.agg #[.slice (some ⟨0,0,none⟩) 4 4,.int .i64 25],.int .u64 4],[⟨[.int .i64 1,.int .i64 100,.int .i64 110,.int .i64 500,.int .i64 1,.int .i64 105,.int .i64 112,.int .i64 300,.int .i64 1,.int .i64 108,.int .i64 125,.int .i64 400,.int .i64 1,.int .i64 120,.int .i64 130,.int .i64 600],⟨4,88⟩,true⟩],.bool true,[]⟩
theorem mL4_25_ok:MemoOk Tryd.prog 52 mL4_25:=memo_run mixed tabt_ok 200 (by kernel_rfl) (by kernel_rfl)
def mL5_25:Memo:=⟨[.agg #[.slice (some ⟨0,0,none⟩) 4 4,.int .i64 25],.int .u64 5],[⟨[.int .i64 1,.int .i64 100,.int .i64 110,.int .i64 500,.int .i64 1,.int .i64 105,.int .i64 112,.int .i64 300,.int .i64 1,.int .i64 108,.int .i64 125,.int .i64 400,.int .i64 1,.int .i64 120,.int .i64 130,.int .i64 600],⟨4,88⟩,true⟩],.bool true,[]⟩
theorem mL5_25_ok:MemoOk Tryd.prog 52 mL5_25:=memo_run mixed tabt_ok 200 (by kernel_rfl) (by kernel_rfl)
def mL6_25:Memo:=⟨[.agg #[.slice (some ⟨0,0,none⟩) 4 4,.int .i64 25],.int .u64 6],[⟨[.int .i64 1,.int .i64 100,.int .i64 110,.int .i64 500,.int .i64 1,.int .i64 105,.int .i64 112,.int .i64 300,.int .i64 1,.int .i64 108,.int .i64 125,.int .i64 400,.int .i64 1,.int .i64 120,.int .i64 130,.int .i64 600],⟨4,88⟩,true⟩],.bool true,[]⟩
theorem mL6_25_ok:MemoOk Tryd.prog 52 mL6_25:=memo_run mixed tabt_ok 200 (by kernel_rfl) (by kernel_rfl)
def mL8_25:Memo:=⟨[.agg #[.slice (some ⟨0,0,none⟩) 4 4,.int .i64 25],.int .u64 8],[⟨[.int .i64 1,.int .i64 100,.int .i64 110,.int .i64 500,.int .i64 1,.int .i64 105,.int .i64 112,.int .i64 300,.int .i64 1,.int .i64 108,.int .i64 125,.int .i64 400,.int .i64 1,.int .i64 120,.int .i64 130,.int .i64 600],⟨4,88⟩,true⟩],.bool true,[]⟩
theorem mL8_25_ok:MemoOk Tryd.prog 52 mL8_25:=memo_run mixed tabt_ok 200 (by kernel_rfl) (by kernel_rfl)
def mL9_25:Memo:=⟨[.agg #[.slice (some ⟨0,0,none⟩) 4 4,.int .i64 25],.int .u64 9],[⟨[.int .i64 1,.int .i64 100,.int .i64 110,.int .i64 500,.int .i64 1,.int .i64 105,.int .i64 112,.int .i64 300,.int .i64 1,.int .i64 108,.int .i64 125,.int .i64 400,.int .i64 1,.int .i64 120,.int .i64 130,.int .i64 600],⟨4,88⟩,true⟩],.bool false,[]⟩
theorem mL9_25_ok:MemoOk Tryd.prog 52 mL9_25:=memo_run mixed tabt_ok 200 (by kernel_rfl) (by kernel_rfl)
def mL10_25:Memo:=⟨[.agg #[.slice (some ⟨0,0,none⟩) 4 4,.int .i64 25],.int .u64 10],[⟨[.int .i64 1,.int .i64 100,.int .i64 110,.int .i64 500,.int .i64 1,.int .i64 105,.int .i64 112,.int .i64 300,.int .i64 1,.int .i64 108,.int .i64 125,.int .i64 400,.int .i64 1,.int .i64 120,.int .i64 130,.int .i64 600],⟨4,88⟩,true⟩],.bool true,[]⟩
theorem mL10_25_ok:MemoOk Tryd.prog 52 mL10_25:=memo_run mixed tabt_ok 200 (by kernel_rfl) (by kernel_rfl)
def mL12_25:Memo:=⟨[.agg #[.slice (some ⟨0,0,none⟩) 4 4,.int .i64 25],.int .u64 12],[⟨[.int .i64 1,.int .i64 100,.int .i64 110,.int .i64 500,.int .i64 1,.int .i64 105,.int .i64 112,.int .i64 300,.int .i64 1,.int .i64 108,.int .i64 125,.int .i64 400,.int .i64 1,.int .i64 120,.int .i64 130,.int .i64 600],⟨4,88⟩,true⟩],.bool true,[]⟩
theorem mL12_25_ok:MemoOk Tryd.prog 52 mL12_25:=memo_run mixed tabt_ok 200 (by kernel_rfl) (by kernel_rfl)
def mL1_16:Memo:=⟨[.agg #[.slice (some ⟨0,0,none⟩) 4 4,.int .i64 16],.int .u64 1],[⟨[.int .i64 1,.int .i64 100,.int .i64 110,.int .i64 500,.int .i64 1,.int .i64 105,.int .i64 112,.int .i64 300,.int .i64 1,.int .i64 108,.int .i64 125,.int .i64 400,.int .i64 1,.int .i64 120,.int .i64 130,.int .i64 600],⟨4,88⟩,true⟩],.bool true,[]⟩
theorem mL1_16_ok:MemoOk Tryd.prog 52 mL1_16:=memo_run mixed tabt_ok 200 (by kernel_rfl) (by kernel_rfl)
def mL2_16:Memo:=⟨[.agg #[.slice (some ⟨0,0,none⟩) 4 4,.int .i64 16],.int .u64 2],[⟨[.int .i64 1,.int .i64 100,.int .i64 110,.int .i64 500,.int .i64 1,.int .i64 105,.int .i64 112,.int .i64 300,.int .i64 1,.int .i64 108,.int .i64 125,.int .i64 400,.int .i64 1,.int .i64 120,.int .i64 130,.int .i64 600],⟨4,88⟩,true⟩],.bool true,[]⟩
theorem mL2_16_ok:MemoOk Tryd.prog 52 mL2_16:=memo_run mixed tabt_ok 200 (by kernel_rfl) (by kernel_rfl)
def mL4_16:Memo:=⟨[.agg #[.slice (some ⟨0,0,none⟩) 4 4,.int .i64 16],.int .u64 4],[⟨[.int .i64 1,.int .i64 100,.int .i64 110,.int .i64 500,.int .i64 1,.int .i64 105,.int .i64 112,.int .i64 300,.int .i64 1,.int .i64 108,.int .i64 125,.int .i64 400,.int .i64 1,.int .i64 120,.int .i64 130,.int .i64 600],⟨4,88⟩,true⟩],.bool false,[]⟩
theorem mL4_16_ok:MemoOk Tryd.prog 52 mL4_16:=memo_run mixed tabt_ok 200 (by kernel_rfl) (by kernel_rfl)
def mL8_16:Memo:=⟨[.agg #[.slice (some ⟨0,0,none⟩) 4 4,.int .i64 16],.int .u64 8],[⟨[.int .i64 1,.int .i64 100,.int .i64 110,.int .i64 500,.int .i64 1,.int .i64 105,.int .i64 112,.int .i64 300,.int .i64 1,.int .i64 108,.int .i64 125,.int .i64 400,.int .i64 1,.int .i64 120,.int .i64 130,.int .i64 600],⟨4,88⟩,true⟩],.bool true,[]⟩
theorem mL8_16_ok:MemoOk Tryd.prog 52 mL8_16:=memo_run mixed tabt_ok 200 (by kernel_rfl) (by kernel_rfl)
end Go.Proofs.Tryd
namespace Go.Proofs.Tryd
open Go Go.V
def mG1:Memo:=⟨[.agg #[.slice (some ⟨0,0,none⟩) 4 4,.int .i64 20],.int .u64 1],[⟨[.int .i64 1,.int .i64 100,.int .i64 110,.int .i64 500,.int .i64 1,.int .i64 105,.int .i64 112,.int .i64 300,.int .i64 1,.int .i64 108,.int .i64 125,.int .i64 400,.int .i64 1,.int .i64 120,.int .i64 130,.int .i64 600],⟨4,88⟩,true⟩],.int .i64 500,[]⟩
theorem mG1_ok:MemoOk Tryd.prog 51 mG1:=memo_run mixed tabt_ok 200 (by kernel_rfl) (by kernel_rfl)
def mG2:Memo:=⟨[.agg #[.slice (some ⟨0,0,none⟩) 4 4,.int .i64 20],.int .u64 2],[⟨[.int .i64 1,.int .i64 100,.int .i64 110,.int .i64 500,.int .i64 1,.int .i64 105,.int .i64 112,.int .i64 300,.int .i64 1,.int .i64 108,.int .i64 125,.int .i64 400,.int .i64 1,.int .i64 120,.int .i64 130,.int .i64 600],⟨4,88⟩,true⟩],.int .i64 300,[]⟩
theorem mG2_ok:MemoOk Tryd.prog 51 mG2:=memo_run mixed tabt_ok 200 (by kernel_rfl) (by kernel_rfl)
def mG3:Memo:=⟨[.agg #[.slice (some ⟨0,0,none⟩) 4 4,.int .i64 20],.int .u64 3],[⟨[.int .i64 1,.int .i64 100,.int .i64 110,.int .i64 500,.int .i64 1,.int .i64 105,.int .i64 112,.int .i64 300,.int .i64 1,.int .i64 108,.int .i64 125,.int .i64 400,.int .i64 1,.int .i64 120,.int .i64 130,.int .i64 600],⟨4,88⟩,true⟩],.int .i64 800,[]⟩
theorem mG3_ok:MemoOk Tryd.prog 51 mG3:=memo_run mixed tabt_ok 200 (by kernel_rfl) (by kernel_rfl)
def mG4:Memo:=⟨[.agg #[.slice (some ⟨0,0,none⟩) 4 4,.int .i64 20],.int .u64 4],[⟨[.int .i64 1,.int .i64 100,.int .i64 110,.int .i64 500,.int .i64 1,.int .i64 105,.int .i64 112,.int .i64 300,.int .i64 1,.int .i64 108,.int .i64 125,.int .i64 400,.int .i64 1,.int .i64 120,.int .i64 130,.int .i64 600],⟨4,88⟩,true⟩],.int .i64 400,[]⟩
theorem mG4_ok:MemoOk Tryd.prog 51 mG4:=memo_run mixed tabt_ok 200 (by kernel_rfl) (by kernel_rfl)
def mG5:Memo:=⟨[.agg #[.slice (some ⟨0,0,none⟩) 4 4,.int .i64 20],.int .u64 5],[⟨[.int .i64 1,.int .i64 100,.int .i64 110,.int .i64 500,.int .i64 1,.int .i64 105,.int .i64 112,.int .i64 300,.int .i64 1,.int .i64 108,.int .i64 125,.int .i64 400,.int .i64 1,.int .i64 120,.int .i64 130,.int .i64 600],⟨4,88⟩,true⟩],.int .i64 900,[]⟩
theorem mG5_ok:MemoOk Tryd.prog 51 mG5:=memo_run mixed tabt_ok 200 (by kernel_rfl) (by kernel_rfl)
def mG6:Memo:=⟨[.agg #[.slice (some ⟨0,0,none⟩) 4 4,.int .i64 20],.int .u64 6],[⟨[.int .i64 1,.int .i64 100,.int .i64 110,.int .i64 500,.int .i64 1,.int .i64 105,.int .i64 112,.int .i64 300,.int .i64 1,.int .i64 108,.int .i64 125,.int .i64 400,.int .i64 1,.int .i64 120,.int .i64 130,.int .i64 600],⟨4,88⟩,true⟩],.int .i64 700,[]⟩
theorem mG6_ok:MemoOk Tryd.prog 51 mG6:=memo_run mixed tabt_ok 200 (by kernel_rfl) (by kernel_rfl)
def mG7:Memo:=⟨[.agg #[.slice (some ⟨0,0,none⟩) 4 4,.int .i64 20],.int .u64 7],[⟨[.int .i64 1,.int .i64 100,.int .i64 110,.int .i64 500,.int .i64 1,.int .i64 105,.int .i64 112,.int .i64 300,.int .i64 1,.int .i64 108,.int .i64 125,.int .i64 400,.int .i64 1,.int .i64 120,.int .i64 130,.int .i64 600],⟨4,88⟩,true⟩],.int .i64 1200,[]⟩
theorem mG7_ok:MemoOk Tryd.prog 51 mG7:=memo_run mixed tabt_ok 200 (by kernel_rfl) (by kernel_rfl)
def mG8:Memo:=⟨[.agg #[.slice (some ⟨0,0,none⟩) 4 4,.int .i64 20],.int .u64 8],[⟨[.int .i64 1,.int .i64 100,.int .i64 110,.int .i64 500,.int .i64 1,.int .i64 105,.int .i64 112,.int .i64 300,.int .i64 1,.int .i64 108,.int .i64 125,.int .i64 400,.int .i64 1,.int .i64 120,.int .i64 130,.int .i64 600],⟨4,88⟩,true⟩],.int .i64 600,[]⟩
theorem mG8_ok:MemoOk Tryd.prog 51 mG8:=memo_run mixed tabt_ok 200 (by kernel_rfl) (by kernel_rfl)
def mG9:Memo:=⟨[.agg #[.slice (some ⟨0,0,none⟩) 4 4,.int .i64 20],.int .u64 9],[⟨[.int .i64 1,.int .i64 100,.int .i64 110,.int .i64 500,.int .i64 1,.int .i64 105,.int .i64 112,.int .i64 300,.int .i64 1,.int .i64 108,.int .i64 125,.int .i64 400,.int .i64 1,.int .i64 120,.int .i64 130,.int .i64 600],⟨4,88⟩,true⟩],.int .i64 1100,[]⟩
theorem mG9_ok:MemoOk Tryd.prog 51 mG9:=memo_run mixed tabt_ok 200 (by kernel_rfl) (by kernel_rfl)
def mG10:Memo:=⟨[.agg #[.slice (some ⟨0,0,none⟩) 4 4,.int .i64 20],.int .u64 10],[⟨[.int .i64 1,.int .i64 100,.int .i64 110,.int .i64 500,.int .i64 1,.int .i64 105,.int .i64 112,.int .i64 300,.int .i64 1,.int .i64 108,.int .i64 125,.int .i64 400,.int .i64 1,.int .i64 120,.int .i64 130,.int .i64 600],⟨4,88⟩,true⟩],.int .i64 900,[]⟩
theorem mG10_ok:MemoOk Tryd.prog 51 mG10:=memo_run mixed tabt_ok 200 (by kernel_rfl) (by kernel_rfl)
def mG11:Memo:=⟨[.agg #[.slice (some ⟨0,0,none⟩) 4 4,.int .i64 20],.int .u64 11],[⟨[.int .i64 1,.int .i64 100,.int .i64 110,.int .i64 500,.int .i64 1,.int .i64 105,.int .i64 112,.int .i64 300,.int .i64 1,.int .i64 108,.int .i64 125,.int .i64 400,.int .i64 1,.int .i64 120,.int .i64 130,.int .i64 600],⟨4,88⟩,true⟩],.int .i64 1400,[]⟩
theorem mG11_ok:MemoOk Tryd.prog 51 mG11:=memo_run mixed tabt_ok 200 (by kernel_rfl) (by kernel_rfl)
def mG12:Memo:=⟨[.agg #[.slice (some ⟨0,0,none⟩) 4 4,.int .i64 20],.int .u64 12],[⟨[.int .i64 1,.int .i64 100,.int .i64 110,.int .i64 500,.int .i64 1,.int .i64 105,.int .i64 112,.int .i64 300,.int .i64 1,.int .i64 108,.int .i64 125,.int .i64 400,.int .i64 1,.int .i64 120,.int .i64 130,.int .i64 600],⟨4,88⟩,true⟩],.int .i64 1000,[]⟩
theorem mG12_ok:MemoOk Tryd.prog 51 mG12:=memo_run mixed tabt_ok 200 (by kernel_rfl) (by kernel_rfl)
def mG13:Memo:=⟨[.agg #[.slice (some ⟨0,0,none⟩) 4 4,.int .i64 20],.int .u64 13],[⟨[.int .i64 1,.int .i64 100,.int .i64 110,.int .i64 500,.int .i64 1,.int .i64 105,.int .i64 112,.int .i64 300,.int .i64 1,.int .i64 108,.int .i64 125,.int .i64 400,.int .i64 1,.int .i64 120,.int .i64 130,.int .i64 600],⟨4,88⟩,true⟩],.int .i64 1500,[]⟩
theorem mG13_ok:MemoOk Tryd.prog 51 mG13:=memo_run mixed tabt_ok 200 (by kernel_rfl) (by kernel_rfl)
def mG14:Memo:=⟨[.agg #[.slice (some ⟨0,0,none⟩) 4 4,.int .i64 20],.int .u64 14],[⟨[.int .i64 1,.int .i64 100,.int .i64 110,.int .i64 500,.int .i64 1,.int .i64 105,.int .i64 112,.int .i64 300,.int .i64 1,.int .i64 108,.int .i64 125,.int .i64 400,.int .i64 1,.int .i64 120,.int .i64 130,.int .i64 600],⟨4,88⟩,true⟩],.int .i64 1300,[]⟩
theorem mG14_ok:MemoOk Tryd.prog 51 mG14:=memo_run mixed tabt_ok 200 (by kernel_rfl) (by kernel_rfl)
def mG15:Memo:=⟨[.agg #[.slice (some ⟨0,0,none⟩) 4 4,.int .i64 20],.int .u64 15],[⟨[.int .i64 1,.int .i64 100,.int .i64 110,.int .i64 500,.int .i64 1,.int .i64 105,.int .i64 112,.int .i64 300,.int .i64 1,.int .i64 108,.int .i64 125,.int .i64 400,.int .i64 1,.int .i64 120,.int .i64 130,.int .i64 600],⟨4,88⟩,true⟩],.int .i64 1800,[]⟩
theorem mG15_ok:MemoOk Tryd.prog 51 mG15:=memo_run mixed tabt_ok 200 (by kernel_rfl) (by kernel_rfl)
end Go.Proofs.Tryd
namespace Go.Proofs.Tryd
open Go Go.V
def memos1:List Memo:=[mA1,mA2,mA3,mA4,mA5,mA6,mA7,mA8,mA9,mA10,mA11,mA12,mA13,mA14,mA15]
theorem memos1_ok:∀ m∈memos1,MemoOk Tryd.prog 42 m:=by
 intro m hm
 simp only[memos1,List.mem_cons,List.not_mem_nil,or_false] at hm
 rcases hm with rfl|rfl|rfl|rfl|rfl|rfl|rfl|rfl|rfl|rfl|rfl|rfl|rfl|rfl|rfl
 ·exact mA1_ok
 ·exact mA2_ok
 ·exact mA3_ok
 ·exact mA4_ok
 ·exact mA5_ok
 ·exact mA6_ok
 ·exact mA7_ok
 ·exact mA8_ok
 ·exact mA9_ok
 ·exact mA10_ok
 ·exact mA11_ok
 ·exact mA12_ok
 ·exact mA13_ok
 ·exact mA14_ok
 ·exact mA15_ok
def memos2:List Memo:=[mL1_20,mL2_20,mL3_20,mL4_20,mL5_20,mL6_20,mL7_20,mL8_20,mL9_20,mL10_20,mL11_20,mL12_20,mL13_20,mL14_20,mL15_20,mL1_25,mL2_25,mL3_25,mL4_25,mL5_25,mL6_25,mL8_25,mL9_25,mL10_25,mL12_25,mL1_16,mL2_16,mL4_16,mL8_16]
theorem memos2_ok:∀ m∈memos2,MemoOk Tryd.prog 52 m:=by
 intro m hm
 simp only[memos2,List.mem_cons,List.not_mem_nil,or_false] at hm
 rcases hm with rfl|rfl|rfl|rfl|rfl|rfl|rfl|rfl|rfl|rfl|rfl|rfl|rfl|rfl|rfl|rfl|rfl|rfl|rfl|rfl|rfl|rfl|rfl|rfl|rfl|rfl|rfl|rfl|rfl
 ·exact mL1_20_ok
 ·exact mL2_20_ok
 ·exact mL3_20_ok
 ·exact mL4_20_ok
 ·exact mL5_20_ok
 ·exact mL6_20_ok
 ·exact mL7_20_ok
 ·exact mL8_20_ok
 ·exact mL9_20_ok
 ·exact mL10_20_ok
 ·exact mL11_20_ok
 ·exact mL12_20_ok
 ·exact mL13_20_ok
 ·exact mL14_20_ok
 ·exact mL15_20_ok
 ·exact mL1_25_ok
 ·exact mL2_25_ok
 ·exact mL3_25_ok
 ·exact mL4_25_ok
 ·exact mL5_25_ok
 ·exact mL6_25_ok
 ·exact mL8_25_ok
 ·exact mL9_25_ok
 ·exact mL10_25_ok
 ·exact mL12_25_ok
 ·exact mL1_16_ok
 ·exact mL2_16_ok
 ·exact mL4_16_ok
 ·exact mL8_16_ok
def memos3:List Memo:=[mG1,mG2,mG3,mG4,mG5,mG6,mG7,mG8,mG9,mG10,mG11,mG12,mG13,mG14,mG15]
theorem memos3_ok:∀ m∈memos3,MemoOk Tryd.prog 51 m:=by
 intro m hm
 simp only[memos3,List.mem_cons,List.not_mem_nil,or_false] at hm
 rcases hm with rfl|rfl|rfl|rfl|rfl|rfl|rfl|rfl|rfl|rfl|rfl|rfl|rfl|rfl|rfl
 ·exact mG1_ok
 ·exact mG2_ok
 ·exact mG3_ok
 ·exact mG4_ok
 ·exact mG5_ok
 ·exact mG6_ok
 ·exact mG7_ok
 ·exact mG8_ok
 ·exact mG9_ok
 ·exact mG10_ok
 ·exact mG11_ok
 ·exact mG12_ok
 ·exact mG13_ok
 ·exact mG14_ok
 ·exact mG15_ok
noncomputable def tabL:List (Option FEnt):=[
 none,
 none,
 some (.code c2 [] 1),
 some (.code c3 [.tmp 6] 346),
 some (.code c4 [.tmp 2,.tmp 3,.tmp 4,.tmp 5,.tmp 6] 105),
 some (.codeJ c5 [.cell 6 true 2,.tmp 7,.tmp 8] 37),
 some (.code c6 [.tmp 2] 6),
 some (.codeJ c7 [.tmp 4,.tmp 5] 23),
 some (.codeJ c8 [.cell 8 true 2,.tmp 9] 103),
 some (.code c9 [.cell 4 true 2] 8),
 some (.code c10 [.tmp 0] 193),
 some (.code c11 [.cell 6 true 3,.tmp 7] 33),
 some (.codeJ c12 [.tmp 2,.tmp 3] 41),
 some (.code c13 [.tmp 4] 26),
 some (.code c14 [.tmp 4] 17),
 some (.code c15 [.tmp 6] 11),
 some (.code c16 [.cell 0 true 2] 2),
 some (.code c17 [.tmp 2] 4),
 some (.code c18 [.cell 6 true 2] 44),
 some (.code c19 [.cell 4 true 2] 16),
 some (.code c20 [.cell 4 true 2] 17),
 some (.codeJ c21 [.cell 4 true 2,.tmp 5] 52),
 some (.code c22 [.tmp 0] 10),
 some (.codeJ c23 [.tmp 4,.tmp 5] 15),
 some (.codeJ c24 [.tmp 4,.tmp 5] 18),
 some (.codeJ c25 [.tmp 6,.tmp 7] 29),
 some (.codeJ c26 [.tmp 4,.tmp 5,.tmp 6] 73),
 some (.code c27 [.tmp 2] 9),
 some (.code c28 [.tmp 4] 26),
 some (.code c29 [.tmp 2] 15),
 some (.code c30 [.tmp 4] 9),
 some (.code c31 [.cell 6 true 2] 44),
 some (.code c32 [.tmp 4] 9),
 some (.code c33 [.tmp 4] 13),
 some (.code c34 [] 19),
 some (.code c35 [.tmp 2] 10),
 some (.code c36 [.cell 2 true 2] 61),
 some (.code c37 [.tmp 4,.tmp 5,.tmp 6] 29),
 some (.code c38 [.cell 4 true 2,.tmp 5] 21),
 some (.code c39 [.tmp 2] 13),
 some (.codeJ c40 [.tmp 4,.tmp 5] 62),
 some (.code c41 [.tmp 4] 63),
 some (.codeM c42 [.tmp 2] 15 memos1),
 some (.codeJ c43 [.tmp 6] 21),
 some (.code c44 [.tmp 4] 19),
 some (.code c45 [.tmp 4] 19),
 some (.code c46 [.tmp 4] 9),
 some (.code c47 [.tmp 2] 6),
 some (.code c48 [.tmp 2] 32),
 some (.codeJ c49 [.tmp 2] 16),
 some (.code c50 [.tmp 2,.tmp 3] 64),
 some (.codeM c51 [.tmp 4] 24 memos3),
 some (.codeM c52 [.tmp 4] 38 memos2),
 some (.code c53 [.tmp 2] 18),
 some (.code c54 [.tmp 4] 20),
 some (.code c55 [.tmp 4] 36),
 some (.code c56 [.tmp 2] 8),
 some (.code c57 [.tmp 4] 19),
 some (.code c58 [] 9),
 some (.code c59 [.tmp 5] 36),
 some (.code c60 [] 11),
 some (.code c61 [] 14),
 some (.code c62 [.tmp 3] 11),
 some (.code c63 [.tmp 2] 6),
 some (.code c64 [.tmp 2] 14),
 some (.code c65 [.tmp 2] 14),
 some (.code c66 [] 63),
 some (.code c67 [] 134),
 some (.code c68 [.tmp 2] 8),
 some (.code c69 [] 148),
 some (.code c70 [] 53),
 some (.code c71 [] 220),
 some (.code c72 [] 49),
 some (.code c73 [] 56),
 some (.code c74 [] 65),
 some (.code c75 [.tmp 6,.tmp 7] 57),
 some (.code c76 [] 32),
 some (.code c77 [.tmp 6] 133),
 some (.code c78 [.tmp 4] 17),
 some (.code c79 [.tmp 8] 84),
 some (.code c80 [.tmp 8,.tmp 9] 168),
 some (.code c81 [.tmp 2] 19),
 some (.code c82 [.tmp 2] 25),
 some (.code c83 [] 53),
 some (.code c84 [] 60),
 some (.code c85 [] 67),
 some (.code c86 [.tmp 8,.tmp 9] 63),
 some (.code c87 [] 34),
 some (.code c88 [.tmp 8] 141),
 some (.code c89 [.tmp 10] 90),
 some (.code c90 [.tmp 10,.tmp 11] 178),
 some (.code c91 [] 58),
 some (.code c92 [] 76),
 some (.code c93 [.tmp 2] 7),
 some (.code c94 [.tmp 2] 33),
 some (.code c95 [.tmp 6] 15),
 some (.code c96 [.tmp 10] 36),
 some (.code c97 [] 82),
 some (.code c98 [.tmp 8] 18),
 some (.code c99 [.tmp 12] 41),
 some (.code c100 [] 38),
 some (.code c101 [.tmp 8,.tmp 9] 28),
 some (.code c102 [.tmp 10,.tmp 11] 32)]
noncomputable def tab:Tab:=fun f=>(tabL[f]?).join
theorem tabL_ok:EntsOk Tryd.prog 0 tabL:=⟨trivial,trivial,fun2,fun3,fun4,fun5,fun6,fun7,fun8,fun9,fun10,fun11,fun12,fun13,fun14,fun15,fun16,fun17,fun18,fun19,fun20,fun21,fun22,fun23,fun24,fun25,fun26,fun27,fun28,fun29,fun30,fun31,fun32,fun33,fun34,fun35,fun36,fun37,fun38,fun39,fun40,fun41,⟨fun42,memos1_ok⟩,fun43,fun44,fun45,fun46,fun47,fun48,fun49,fun50,⟨fun51,memos3_ok⟩,⟨fun52,memos2_ok⟩,fun53,fun54,fun55,fun56,fun57,fun58,fun59,fun60,fun61,fun62,fun63,fun64,fun65,fun66,fun67,fun68,fun69,fun70,fun71,fun72,fun73,fun74,fun75,fun76,fun77,fun78,fun79,fun80,fun81,fun82,fun83,fun84,fun85,fun86,fun87,fun88,fun89,fun90,fun91,fun92,fun93,fun94,fun95,fun96,fun97,fun98,fun99,fun100,fun101,fun102,trivial⟩
theorem tab_ok:TabOk Tryd.prog tab:=tabOk_of tabL_ok
theorem known_run:veval tab 300 boolOps [] c10 none (ET.of [] 193) CH.empty (eend false [.tmp 0] fun v _=>isTrue v)=true:=by kernel_rfl
theorem known_ok {σ:Heap} {K:Value→Heap→Prop} (hK:K (.bool true) σ):VCalled Tryd.prog 10 [] σ K:=run_true mixed tab_ok 300 fun10 (by decide) known_run hK
end Go.Proofs.Tryd
set_option linter.unusedVariables false
namespace Go.Proofs.Tryd
open Go Go.V Go.Proofs
def al_law09_known:AL (Unit):=.nil
def pre_law09_known (d:Unit):Prop:=True
def res_law09_known (d:Unit):SV:=.val .bo true
def obs_law09_known (d:Unit):List OB:=[]
def s_law09_known:CSp:=mkSp al_law09_known pre_law09_known res_law09_known obs_law09_known
abbrev Ok_law09_known:Prop:=OkC Tryd.prog 10 s_law09_known
theorem ok_law09_known:Ok_law09_known:=okC_true fun _ _ h=>known_ok h
end Go.Proofs.Tryd
set_option linter.unusedVariables false
namespace Go.Proofs.Tryd
open Go Go.V Go.Proofs
theorem right_truth {g s s':Int} {L Rt:List En} {W:List Int} (h:Truth g s L W) (hs:0≤s') (hW:∀ j,j<L.length→0≤W.getD j 0) (hR:Rt.length=L.length) (hRj:∀ j,j<L.length→Rt.getD j (0,0)=((L.getD j (0,0)).1,W.getD j 0)) :
  Truth g s' Rt W∧∀ k,k≤L.length→vT g Rt W k=vT g L W k:=by
 have hst:∀ k,k<Rt.length→vT g L W (k+1)=stepT (vT g L W k) (Rt.getD k (0,0)) (W.getD k 0):=fun k hk=>by
  rw[hRj k (by omega)];exact stepT_fst rfl
 refine⟨truth_of (vT g L W) rfl (by rw[hR];exact h.wl) hst (fun k hk=>h.v0 k (by omega)) fun k hk=>?_,fun k hk=>vT_of (vT g L W) rfl hst k (by omega)⟩
 rw[hR] at hk
 rw[hRj k hk]
 obtain⟨o1,o2,o3⟩:=h.ok k hk
 have:=hW k hk
 refine⟨?_,o2,o3⟩
 unfold InB realB
 rw[gmax_eq];dsimp only;omega
theorem right_ok {g s s':Int} {L Rt:List En} {W:List Int} (h:bookOk g s L) (hs:0≤s'∧s'≤1000) (hW:∀ j,j<L.length→0≤W.getD j 0∧W.getD j 0≤5000) (hR:Rt.length=L.length) (hRj:∀ j,j<L.length→Rt.getD j (0,0)=((L.getD j (0,0)).1,W.getD j 0)):bookOk g s' Rt:=by
 obtain⟨h1,h2,h3,h4,h5,h6⟩:=h
 refine⟨h1,h2,hs.1,hs.2,by omega,fun x hx=>?_⟩
 obtain⟨j,hj,rfl⟩:=List.getElem_of_mem hx
 have e:=hRj j (by omega)
 rw[getD_nat hj] at e
 have:=hW j (by omega)
 have hL:=h6 _ (List.getElem_mem (show j<L.length by omega))
 rw[getD_nat (show j<L.length by omega)] at e
 unfold enOk at hL ⊢
 rw[e]
 dsimp only
 omega
theorem getD_snoc {α:Type} {l:List α} {x d:α} {j:Nat} (h:j<l.length):(l++[x]).getD j d=l.getD j d:=by
 rw[getD_nat (by simp;omega),getD_nat h,List.getElem_append_left h]
theorem getD_last {α:Type} {l:List α} {x d:α}:(l++[x]).getD l.length d=x:=by
 rw[getD_nat (by simp)];simp
theorem vT_snoc {g y v:Int} {L:List En} {W:List Int} (hl:W.length=L.length):∀ k,k≤L.length→vT g (L++[(3,y)]) (W++[v]) k=vT g L W k
 |0,_=>rfl
 |k+1,hk=>by
  have ih:=vT_snoc (g:=g) (y:=y) (v:=v) hl k (by omega)
  unfold vT
  rw[ih,getD_snoc (by omega),getD_snoc (by omega)]
theorem more_truth {g s y v:Int} {L:List En} {W:List Int} (h:Truth g s L W) (hv:vT g L W L.length=v) (hy:gmax 0 (y-s)≤v∧v≤y+s):Truth g s (L++[(3,y)]) (W++[v]) where
 wl:=by simp[h.wl]
 v0:=fun k hk=>by
  by_cases h1:k≤L.length
  ·rw[vT_snoc h.wl k h1];exact h.v0 k h1
  ·have:k=L.length+1:=by simp at hk;omega
   subst this
   have e:vT g (L++[(3,y)]) (W++[v]) (L.length+1)=stepT (vT g (L++[(3,y)]) (W++[v]) L.length) ((L++[(3,y)]).getD L.length (0,0)) ((W++[v]).getD L.length 0):=rfl
   rw[e,vT_snoc h.wl _ (Nat.le_refl _),getD_last]
   unfold stepT
   dsimp only
   rw[if_neg (show ¬ ((3:Int)=1) by decide),if_neg (show ¬ ((3:Int)=2) by decide)]
   exact h.v0 _ (Nat.le_refl _)
 ok:=fun k hk=>by
  by_cases h1:k<L.length
  ·rw[vT_snoc h.wl k (by omega),getD_snoc h1,getD_snoc (by rw[h.wl];exact h1)];exact h.ok k h1
  ·have:k=L.length:=by simp at hk;omega
   subst this
   have e2:(W++[v]).getD L.length 0=v:=by rw[←h.wl];exact getD_last
   rw[vT_snoc h.wl _ (Nat.le_refl _),getD_last,e2,hv]
   refine⟨?_,fun h=>?_,fun _ _=>rfl⟩
   ·unfold InB realB;exact hy
   ·dsimp only at h;omega
theorem more_ok {g s y:Int} {L:List En} (h:bookOk g s L) (hl:L.length≤12) (hy:0≤y∧y≤12000000):bookOk g s (L++[(3,y)]):=by
 obtain⟨h1,h2,h3,h4,h5,h6⟩:=h
 refine⟨h1,h2,h3,h4,by simp;omega,fun x hx=>?_⟩
 rcases List.mem_append.1 hx with hx|hx
 ·exact h6 x hx
 ·rw[List.mem_singleton.1 hx];unfold enOk;dsimp only;omega
theorem more_sub {g s y:Int} {L:List En}:Sub (stB g s (L++[(3,y)]) (L++[(3,y)]).length) (stB g s L L.length):=by
 have hl:(L++[((3:Int),y)]).length=L.length+1:=by simp
 rw[hl,stB_succ (by simp)]
 have e1:stB g s (L++[(3,y)]) L.length=stB g s L L.length:=by unfold stB;rw[List.take_append_of_le_length (Nat.le_refl _)]
 have e2:(L++[((3:Int),y)])[L.length]'(by simp)=(3,y):=by simp
 rw[e1,e2]
 unfold Sub afterB bothB
 rw[if_neg (show ¬ ((3:Int)=1) by decide),if_neg (show ¬ ((3:Int)=2) by decide)]
 simp only[gmax_eq,gmin_eq];omega
end Go.Proofs.Tryd
set_option linter.unusedVariables false
namespace Go.Proofs.Tryd
open Go Go.V Go.Proofs
def al_law09_Scales_told:AL (Int×Int×(List (Int×Int))×List Int):=(.one (.agg (.cons (.k (.i .u8)) (.cons (.k (.i .u8)) (.cons (.k (.list (.pair (.i .u8) (.i .u8)))) (.one (.k (.list (.i .i8)))))))))
def pre_law09_Scales_told (d:Int×Int×(List (Int×Int))×List Int):Prop:=0≤d.1∧d.1≤255∧0≤d.2.1∧d.2.1≤255∧esOk d.2.2.1∧wrOk d.2.2.2
def res_law09_Scales_told (d:Int×Int×(List (Int×Int))×List Int):SV:=.tup [.val (.i .i64) (1+4*d.1),.val (.i .i64) (Int.tmod d.2.1 30),.lst 0,.lst 1,.val (.i .i64) (toldV (1+4*d.1) d.2.2.1)]
def obs_law09_Scales_told (d:Int×Int×(List (Int×Int))×List Int):List OB:=[.lst 42 (.pair (.i .i64) (.i .i64)) (toldL (1+4*d.1) (Int.tmod d.2.1 30) d.2.2.1 d.2.2.2) false,.lst 3 (.i .i64) (toldW (1+4*d.1) d.2.2.1) false]
def s_law09_Scales_told:CSp:=mkSp al_law09_Scales_told pre_law09_Scales_told res_law09_Scales_told obs_law09_Scales_told
def vc_law09_Scales_told (bg:Int) (bs:Int) (es:List (Int×Int)) (wr:List Int):Prop :=
 (I64 bg)∧(I64 ((4:Int)*bg))∧(I64 ((1:Int)+((4:Int)*bg)))∧(I64 bs)∧((30:Int)≠0)∧((True∧((1:Int)+((4:Int)*bg))=((1:Int)+((4:Int)*bg))∧(Int.tmod bs (30:Int))=(Int.tmod bs (30:Int))∧True∧True∧True)∧((bg=bg∧bs=bs∧es=es∧wr=wr∧(([]:List SV)=[]))∧(([]:List (Int×Int))=([]:List (Int×Int))∧false=false)∧(([]:List Int)=([]:List Int)∧false=false)∧True))∧((I64 bg)∧(I64 ((4:Int)*bg))∧(I64 ((1:Int)+((4:Int)*bg)))∧(I64 bs)∧((30:Int)≠0)∧((True∧((1:Int)+((4:Int)*bg))=((1:Int)+((4:Int)*bg))∧(Int.tmod bs (30:Int))=(Int.tmod bs (30:Int))∧True∧True∧True)∧((bg=bg∧bs=bs∧es=es∧wr=wr∧(([]:List SV)=[]))∧(([]:List (Int×Int))=([]:List (Int×Int))∧false=false)∧(([]:List Int)=([]:List Int)∧false=false)∧True)))∧∃ (e3:Unit) (d30:(List (Int×Int))×(List Int)×Int×Int),((True∧((1:Int)+((4:Int)*bg))=((1:Int)+((4:Int)*bg))∧(Int.tmod bs (30:Int))=(Int.tmod bs (30:Int))∧True∧True∧((1:Int)+((4:Int)*bg))=d30.2.2.1∧(0:Int)=d30.2.2.2∧True)∧((bg=bg∧bs=bs∧es=es∧wr=wr∧(([]:List SV)=[]))∧(([]:List (Int×Int))=d30.1∧false=false)∧(([]:List Int)=d30.2.1∧false=false)∧True)) ∧
 LoopP (fun (d3:(List (Int×Int))×(List Int)×Int×Int) (q3:((List (Int×Int))×(List Int)×Int×Int)→Prop) =>
  (((decide (d3.2.2.2<(lI es)))&&(decide (d3.2.2.2<(12:Int))))=true →
   (0≤d3.2.2.2)∧(d3.2.2.2<(List.length es))∧((3:Int)≠0)∧(InK .u8 ((1:Int)+(Int.tmod (gD es d3.2.2.2 (0,0)).1 (3:Int))))∧(I64 ((1:Int)+(Int.tmod (gD es d3.2.2.2 (0,0)).1 (3:Int))))∧(I64 (gD es d3.2.2.2 (0,0)).2)∧((((1:Int)+(Int.tmod (gD es d3.2.2.2 (0,0)).1 (3:Int)))==(1:Int))=true →
    (I64 (d3.2.2.1-(gmin (gD es d3.2.2.2 (0,0)).2 d3.2.2.1)))∧((decide ((lI wr) > (0:Int)))=true →
     ((lI wr)≠0)∧(0≤(Int.tmod d3.2.2.2 (lI wr)))∧((Int.tmod d3.2.2.2 (lI wr))<(List.length wr))∧(I64 (gD wr (Int.tmod d3.2.2.2 (lI wr)) 0))∧(I64 ((Int.tmod bs (30:Int))+(1:Int)))∧(((Int.tmod bs (30:Int))+(1:Int))≠0)∧(I64 ((gmin (gD es d3.2.2.2 (0,0)).2 d3.2.2.1)+(Int.tmod (gD wr (Int.tmod d3.2.2.2 (lI wr)) 0) ((Int.tmod bs (30:Int))+(1:Int)))))∧(((List.length d3.1)+(List.length [(((1:Int)+(Int.tmod (gD es d3.2.2.2 (0,0)).1 (3:Int))),(gmax (0:Int) ((gmin (gD es d3.2.2.2 (0,0)).2 d3.2.2.1)+(Int.tmod (gD wr (Int.tmod d3.2.2.2 (lI wr)) 0) ((Int.tmod bs (30:Int))+(1:Int))))))]))*16≤70368744177664)∧(((List.length d3.2.1)+(List.length [(gmin (gD es d3.2.2.2 (0,0)).2 d3.2.2.1)]))*8≤70368744177664)∧(I64 (d3.2.2.2+(1:Int)))∧(∃ d4:(List (Int×Int))×(List Int)×Int×Int,((True∧((1:Int)+((4:Int)*bg))=((1:Int)+((4:Int)*bg))∧(Int.tmod bs (30:Int))=(Int.tmod bs (30:Int))∧True∧True∧(d3.2.2.1-(gmin (gD es d3.2.2.2 (0,0)).2 d3.2.2.1))=d4.2.2.1∧(d3.2.2.2+(1:Int))=d4.2.2.2∧True)∧((bg=bg∧bs=bs∧es=es∧wr=wr∧(([]:List SV)=[]))∧((d3.1++[(((1:Int)+(Int.tmod (gD es d3.2.2.2 (0,0)).1 (3:Int))),(gmax (0:Int) ((gmin (gD es d3.2.2.2 (0,0)).2 d3.2.2.1)+(Int.tmod (gD wr (Int.tmod d3.2.2.2 (lI wr)) 0) ((Int.tmod bs (30:Int))+(1:Int))))))])=d4.1∧false=false)∧((d3.2.1++[(gmin (gD es d3.2.2.2 (0,0)).2 d3.2.2.1)])=d4.2.1∧false=false)∧True))∧q3 d4)) ∧
    ((decide ((lI wr) > (0:Int)))=false →
     (I64 ((gmin (gD es d3.2.2.2 (0,0)).2 d3.2.2.1)+(0:Int)))∧(((List.length d3.1)+(List.length [(((1:Int)+(Int.tmod (gD es d3.2.2.2 (0,0)).1 (3:Int))),(gmax (0:Int) ((gmin (gD es d3.2.2.2 (0,0)).2 d3.2.2.1)+(0:Int))))]))*16≤70368744177664)∧(((List.length d3.2.1)+(List.length [(gmin (gD es d3.2.2.2 (0,0)).2 d3.2.2.1)]))*8≤70368744177664)∧(I64 (d3.2.2.2+(1:Int)))∧(∃ d5:(List (Int×Int))×(List Int)×Int×Int,((True∧((1:Int)+((4:Int)*bg))=((1:Int)+((4:Int)*bg))∧(Int.tmod bs (30:Int))=(Int.tmod bs (30:Int))∧True∧True∧(d3.2.2.1-(gmin (gD es d3.2.2.2 (0,0)).2 d3.2.2.1))=d5.2.2.1∧(d3.2.2.2+(1:Int))=d5.2.2.2∧True)∧((bg=bg∧bs=bs∧es=es∧wr=wr∧(([]:List SV)=[]))∧((d3.1++[(((1:Int)+(Int.tmod (gD es d3.2.2.2 (0,0)).1 (3:Int))),(gmax (0:Int) ((gmin (gD es d3.2.2.2 (0,0)).2 d3.2.2.1)+(0:Int))))])=d5.1∧false=false)∧((d3.2.1++[(gmin (gD es d3.2.2.2 (0,0)).2 d3.2.2.1)])=d5.2.1∧false=false)∧True))∧q3 d5))) ∧
   ((((1:Int)+(Int.tmod (gD es d3.2.2.2 (0,0)).1 (3:Int)))==(1:Int))=false →
    ((((1:Int)+(Int.tmod (gD es d3.2.2.2 (0,0)).1 (3:Int)))==(2:Int))=true →
     (I64 (d3.2.2.1+(gD es d3.2.2.2 (0,0)).2))∧((decide ((lI wr) > (0:Int)))=true →
      ((lI wr)≠0)∧(0≤(Int.tmod d3.2.2.2 (lI wr)))∧((Int.tmod d3.2.2.2 (lI wr))<(List.length wr))∧(I64 (gD wr (Int.tmod d3.2.2.2 (lI wr)) 0))∧(I64 ((Int.tmod bs (30:Int))+(1:Int)))∧(((Int.tmod bs (30:Int))+(1:Int))≠0)∧(I64 ((gD es d3.2.2.2 (0,0)).2+(Int.tmod (gD wr (Int.tmod d3.2.2.2 (lI wr)) 0) ((Int.tmod bs (30:Int))+(1:Int)))))∧(((List.length d3.1)+(List.length [(((1:Int)+(Int.tmod (gD es d3.2.2.2 (0,0)).1 (3:Int))),(gmax (0:Int) ((gD es d3.2.2.2 (0,0)).2+(Int.tmod (gD wr (Int.tmod d3.2.2.2 (lI wr)) 0) ((Int.tmod bs (30:Int))+(1:Int))))))]))*16≤70368744177664)∧(((List.length d3.2.1)+(List.length [(gD es d3.2.2.2 (0,0)).2]))*8≤70368744177664)∧(I64 (d3.2.2.2+(1:Int)))∧(∃ d6:(List (Int×Int))×(List Int)×Int×Int,((True∧((1:Int)+((4:Int)*bg))=((1:Int)+((4:Int)*bg))∧(Int.tmod bs (30:Int))=(Int.tmod bs (30:Int))∧True∧True∧(d3.2.2.1+(gD es d3.2.2.2 (0,0)).2)=d6.2.2.1∧(d3.2.2.2+(1:Int))=d6.2.2.2∧True)∧((bg=bg∧bs=bs∧es=es∧wr=wr∧(([]:List SV)=[]))∧((d3.1++[(((1:Int)+(Int.tmod (gD es d3.2.2.2 (0,0)).1 (3:Int))),(gmax (0:Int) ((gD es d3.2.2.2 (0,0)).2+(Int.tmod (gD wr (Int.tmod d3.2.2.2 (lI wr)) 0) ((Int.tmod bs (30:Int))+(1:Int))))))])=d6.1∧false=false)∧((d3.2.1++[(gD es d3.2.2.2 (0,0)).2])=d6.2.1∧false=false)∧True))∧q3 d6)) ∧
     ((decide ((lI wr) > (0:Int)))=false →
      (I64 ((gD es d3.2.2.2 (0,0)).2+(0:Int)))∧(((List.length d3.1)+(List.length [(((1:Int)+(Int.tmod (gD es d3.2.2.2 (0,0)).1 (3:Int))),(gmax (0:Int) ((gD es d3.2.2.2 (0,0)).2+(0:Int))))]))*16≤70368744177664)∧(((List.length d3.2.1)+(List.length [(gD es d3.2.2.2 (0,0)).2]))*8≤70368744177664)∧(I64 (d3.2.2.2+(1:Int)))∧(∃ d7:(List (Int×Int))×(List Int)×Int×Int,((True∧((1:Int)+((4:Int)*bg))=((1:Int)+((4:Int)*bg))∧(Int.tmod bs (30:Int))=(Int.tmod bs (30:Int))∧True∧True∧(d3.2.2.1+(gD es d3.2.2.2 (0,0)).2)=d7.2.2.1∧(d3.2.2.2+(1:Int))=d7.2.2.2∧True)∧((bg=bg∧bs=bs∧es=es∧wr=wr∧(([]:List SV)=[]))∧((d3.1++[(((1:Int)+(Int.tmod (gD es d3.2.2.2 (0,0)).1 (3:Int))),(gmax (0:Int) ((gD es d3.2.2.2 (0,0)).2+(0:Int))))])=d7.1∧false=false)∧((d3.2.1++[(gD es d3.2.2.2 (0,0)).2])=d7.2.1∧false=false)∧True))∧q3 d7))) ∧
    ((((1:Int)+(Int.tmod (gD es d3.2.2.2 (0,0)).1 (3:Int)))==(2:Int))=false →
     ((decide ((lI wr) > (0:Int)))=true →
      ((lI wr)≠0)∧(0≤(Int.tmod d3.2.2.2 (lI wr)))∧((Int.tmod d3.2.2.2 (lI wr))<(List.length wr))∧(I64 (gD wr (Int.tmod d3.2.2.2 (lI wr)) 0))∧(I64 ((Int.tmod bs (30:Int))+(1:Int)))∧(((Int.tmod bs (30:Int))+(1:Int))≠0)∧(I64 (d3.2.2.1+(Int.tmod (gD wr (Int.tmod d3.2.2.2 (lI wr)) 0) ((Int.tmod bs (30:Int))+(1:Int)))))∧(((List.length d3.1)+(List.length [(((1:Int)+(Int.tmod (gD es d3.2.2.2 (0,0)).1 (3:Int))),(gmax (0:Int) (d3.2.2.1+(Int.tmod (gD wr (Int.tmod d3.2.2.2 (lI wr)) 0) ((Int.tmod bs (30:Int))+(1:Int))))))]))*16≤70368744177664)∧(((List.length d3.2.1)+(List.length [d3.2.2.1]))*8≤70368744177664)∧(I64 (d3.2.2.2+(1:Int)))∧(∃ d8:(List (Int×Int))×(List Int)×Int×Int,((True∧((1:Int)+((4:Int)*bg))=((1:Int)+((4:Int)*bg))∧(Int.tmod bs (30:Int))=(Int.tmod bs (30:Int))∧True∧True∧d3.2.2.1=d8.2.2.1∧(d3.2.2.2+(1:Int))=d8.2.2.2∧True)∧((bg=bg∧bs=bs∧es=es∧wr=wr∧(([]:List SV)=[]))∧((d3.1++[(((1:Int)+(Int.tmod (gD es d3.2.2.2 (0,0)).1 (3:Int))),(gmax (0:Int) (d3.2.2.1+(Int.tmod (gD wr (Int.tmod d3.2.2.2 (lI wr)) 0) ((Int.tmod bs (30:Int))+(1:Int))))))])=d8.1∧false=false)∧((d3.2.1++[d3.2.2.1])=d8.2.1∧false=false)∧True))∧q3 d8)) ∧
     ((decide ((lI wr) > (0:Int)))=false →
      (I64 (d3.2.2.1+(0:Int)))∧(((List.length d3.1)+(List.length [(((1:Int)+(Int.tmod (gD es d3.2.2.2 (0,0)).1 (3:Int))),(gmax (0:Int) (d3.2.2.1+(0:Int))))]))*16≤70368744177664)∧(((List.length d3.2.1)+(List.length [d3.2.2.1]))*8≤70368744177664)∧(I64 (d3.2.2.2+(1:Int)))∧(∃ d9:(List (Int×Int))×(List Int)×Int×Int,((True∧((1:Int)+((4:Int)*bg))=((1:Int)+((4:Int)*bg))∧(Int.tmod bs (30:Int))=(Int.tmod bs (30:Int))∧True∧True∧d3.2.2.1=d9.2.2.1∧(d3.2.2.2+(1:Int))=d9.2.2.2∧True)∧((bg=bg∧bs=bs∧es=es∧wr=wr∧(([]:List SV)=[]))∧((d3.1++[(((1:Int)+(Int.tmod (gD es d3.2.2.2 (0,0)).1 (3:Int))),(gmax (0:Int) (d3.2.2.1+(0:Int))))])=d9.1∧false=false)∧((d3.2.1++[d3.2.2.1])=d9.2.1∧false=false)∧True))∧q3 d9))))) ∧
  (((decide (d3.2.2.2<(lI es)))&&(decide (d3.2.2.2<(12:Int))))=false →
   ((((1:Int)+((4:Int)*bg))=(1+4*bg)∧(Int.tmod bs (30:Int))=(Int.tmod bs 30)∧True∧True∧d3.2.2.1=(toldV (1+4*bg) es)∧(([]:List SV)=[]))∧((d3.1=(toldL (1+4*bg) (Int.tmod bs 30) es wr)∧false=false)∧(d3.2.1=(toldW (1+4*bg) es)∧false=false)∧True)))) d30
def cx_law09_Scales_told:Cx:=⟨[(3,(.i .i64)),(42,(.pair (.i .i64) (.i .i64)))],[],105,[],0,[],[],[],[1,7,8,9,27],false,[],[],[]⟩
def lp_law09_Scales_told (bg:Int) (bs:Int) (es:List (Int×Int)) (wr:List Int):List (Nat×LoopAnn):=[(0,⟨Unit,(List (Int×Int))×(List Int)×Int×Int,[1,7,8,9,10,11,12],fun e x=>[.box 1 0,.val (.i .i64) ((1:Int)+((4:Int)*bg)),.val (.i .i64) (Int.tmod bs (30:Int)),.lst 26,.lst 27,.val (.i .i64) x.2.2.1,.val (.i .i64) x.2.2.2],fun e x=>[(1,.slot 1,.cells [.val (.i .u8) bg,.val (.i .u8) bs,.val (.list (.pair (.i .u8) (.i .u8))) es,.val (.list (.i .i8)) wr] (some 25)),(26,.slot 9,.lst 42 (.pair (.i .i64) (.i .i64)) x.1 false),(27,.slot 10,.lst 3 (.i .i64) x.2.1 false)]⟩)]
set_option maxRecDepth 100000 in
theorem vq_law09_Scales_told (d:Int×Int×(List (Int×Int))×List Int):gwp (cx_law09_Scales_told) (lp_law09_Scales_told d.1 d.2.1 d.2.2.1 d.2.2.2) c4 0 (gend [.tmp 2,.tmp 3,.tmp 4,.tmp 5,.tmp 6] (res_law09_Scales_told d) (obs_law09_Scales_told d)) (gstart 105 (AL.can al_law09_Scales_told d))=vc_law09_Scales_told d.1 d.2.1 d.2.2.1 d.2.2.2:=by kernel_rfl
abbrev Ok_law09_Scales_told:Prop:=OkC Tryd.prog 4 s_law09_Scales_told
theorem mk_law09_Scales_told (h:∀ (bg:Int) (bs:Int) (es:List (Int×Int)) (wr:List Int),(0≤bg∧bg≤255∧0≤bs∧bs≤255∧esOk es∧wrOk wr)→vc_law09_Scales_told bg bs es wr):OkC Tryd.prog 4 s_law09_Scales_told :=
 okC_vc fun4 mixed (C:=cx_law09_Scales_told) (V:=fun (d:Int×Int×(List (Int×Int))×List Int)=>vc_law09_Scales_told d.1 d.2.1 d.2.2.1 d.2.2.2) ⟨.nil,XsOk.nil,ItsOk.nil,YlOk.nil,IysOk.nil⟩ (vq_law09_Scales_told) fun d hp=>h d.1 d.2.1 d.2.2.1 d.2.2.2 hp
end Go.Proofs.Tryd
set_option linter.unusedVariables false
namespace Go.Proofs.Tryd
open Go Go.V Go.Proofs
theorem ok_law09_Scales_told:Ok_law09_Scales_told:=mk_law09_Scales_told fun bg bs es wr h=>by
 obtain⟨p1,p2,p3,p4,he,hw⟩:=h
 unfold vc_law09_Scales_told;(try delta lI gD sT I64)
 have s1:=Int.tmod_nonneg 30 p3
 have s2:=Int.tmod_lt_of_pos bs (show (0:Int)<30 by omega)
 simp only[Bool.and_eq_true,Bool.and_eq_false_iff,decide_eq_true_eq,decide_eq_false_iff_not,beq_iff_eq,beq_eq_false_iff_ne,ne_eq]
 generalize Int.tmod bs 30=s at s1 s2 ⊢
 have g1:1≤1+4*bg∧1+4*bg≤1021:=by omega
 have k4:InK .i64 (4*bg):=by rw[InK_i64];omega
 generalize 1+4*bg=g at g1 ⊢
 refine⟨by rw[InK_i64];omega,k4,by rw[InK_i64];omega,by rw[InK_i64];omega,by decide,(by and_intros<;>first|rfl|trivial|simp),⟨by rw[InK_i64];omega,k4,by rw[InK_i64];omega,by rw[InK_i64];omega,by decide,(by and_intros<;>first|rfl|trivial|simp)⟩,(),([],[],g,0),(by and_intros<;>first|rfl|trivial|simp),?_⟩
 refine LoopP.count4 (toldN es) (fun k L W v=>L=tLk g s es wr k∧W=tWk g es k∧v=tG g es k) ⟨rfl,rfl,rfl⟩ fun k L W v hk hJ q hq=>?_
 obtain⟨rfl,rfl,rfl⟩:=hJ
 dsimp only
 have hN:toldN es=min 12 es.length:=rfl
 have hb:=tG_bd (g:=g) (by omega) he k
 have hv:=es_at he k
 have h3:=Int.tmod_nonneg 3 hv.1
 have h4:=Int.tmod_lt_of_pos (es.getD k (0,0)).1 (show (0:Int)<3 by omega)
 have hLl:=tLk_len g s es wr k
 have hWl:=tWk_len g es k
 have htm:Int.tmod (k:Int) (wr.length:Int)=((k % wr.length:Nat):Int):=rfl
 simp only[Int.toNat_natCast,InK_i64,InK_u8,hLl,hWl,List.length_cons,List.length_nil]
 refine⟨fun hlt=>?_,fun hge=>?_⟩
 ·have fin:∀ t w left:Int,t=tW g es k→w=wrT s wr k→left=tG g es (k+1)→q (tLk g s es wr k++[(1+Int.tmod (es.getD k (0,0)).1 3,gmax 0 (t+w))],tWk g es k++[t],left,(k:Int)+1):=by
   rintro _ _ _ rfl rfl rfl
   exact hq _ _ _ (by omega) ⟨(tLk_succ g s es wr k).symm,(tWk_succ g es k).symm,rfl⟩
  have hwn:0<(wr.length:Int)→-128≤wr.getD (k % wr.length) 0∧wr.getD (k % wr.length) 0≤127:=fun h0=>by
   have hm:=Nat.mod_lt k (show 0<wr.length by omega)
   rw[getD_nat hm];exact hw _ (List.getElem_mem hm)
  have hw1:0<(wr.length:Int)→Int.tmod (wr.getD (k % wr.length) 0) (s+1)=wrT s wr k:=fun h0=>by unfold wrT;rw[if_neg (by omega)]
  have hw2:¬ 0<(wr.length:Int)→0=wrT s wr k:=fun h0=>by unfold wrT;rw[if_pos (by omega)]
  have hwd:=wrT_bd (wr:=wr) s1 k
  rw[htm,Int.toNat_natCast]
  have hgm:gmin (es.getD k (0,0)).2 (tG g es k)=min (es.getD k (0,0)).2 (tG g es k):=gmin_eq _ _
  have hk1:1+Int.tmod (es.getD k (0,0)).1 3=kT (es.getD k (0,0)):=rfl
  have hW:tW g es k=gT (es.getD k (0,0)) (tG g es k):=rfl
  have hG:tG g es (k+1)=stepT (tG g es k) (kT (es.getD k (0,0)),0) (gT (es.getD k (0,0)) (tG g es k)):=rfl
  refine⟨by omega,by omega,by decide,by omega,by omega,by omega,fun e1=>⟨by omega,?_⟩,fun e1=>⟨fun e2=>⟨by omega,?_⟩,fun e2=>?_⟩⟩
  ·have ht:gmin (es.getD k (0,0)).2 (tG g es k)=tW g es k:=by rw[hW];unfold gT;rw[if_pos (hk1▸e1)]
   have hl:tG g es k-gmin (es.getD k (0,0)).2 (tG g es k)=tG g es (k+1):=by rw[hG,←hW,←ht];unfold stepT;dsimp only;rw[if_pos (hk1▸e1)]
   exact⟨fun h0=>⟨by omega,by omega,by have:=Nat.mod_lt k (show 0<wr.length by omega);omega,by have:=hwn h0;omega,by omega,by omega,by have:=hw1 h0;omega,by omega,by omega,by omega,(tLk g s es wr k++[(1+Int.tmod (es.getD k (0,0)).1 3,gmax 0 (gmin (es.getD k (0,0)).2 (tG g es k)+Int.tmod (wr.getD (k % wr.length) 0) (s+1)))],tWk g es k++[gmin (es.getD k (0,0)).2 (tG g es k)],tG g es k-gmin (es.getD k (0,0)).2 (tG g es k),(k:Int)+1),(by and_intros<;>first|rfl|trivial|simp),fin _ _ _ ht (hw1 h0) hl⟩,fun h0=>⟨by omega,by omega,by omega,by omega,(tLk g s es wr k++[(1+Int.tmod (es.getD k (0,0)).1 3,gmax 0 (gmin (es.getD k (0,0)).2 (tG g es k)+0))],tWk g es k++[gmin (es.getD k (0,0)).2 (tG g es k)],tG g es k-gmin (es.getD k (0,0)).2 (tG g es k),(k:Int)+1),(by and_intros<;>first|rfl|trivial|simp),fin _ _ _ ht (hw2 h0) hl⟩⟩
  ·have ht:(es.getD k (0,0)).2=tW g es k:=by rw[hW];unfold gT;rw[if_neg (hk1▸e1),if_pos (hk1▸e2)]
   have hl:tG g es k+(es.getD k (0,0)).2=tG g es (k+1):=by rw[hG,←hW,←ht];unfold stepT;dsimp only;rw[if_neg (hk1▸e1),if_pos (hk1▸e2)]
   exact⟨fun h0=>⟨by omega,by omega,by have:=Nat.mod_lt k (show 0<wr.length by omega);omega,by have:=hwn h0;omega,by omega,by omega,by have:=hw1 h0;omega,by omega,by omega,by omega,(tLk g s es wr k++[(1+Int.tmod (es.getD k (0,0)).1 3,gmax 0 ((es.getD k (0,0)).2+Int.tmod (wr.getD (k % wr.length) 0) (s+1)))],tWk g es k++[(es.getD k (0,0)).2],tG g es k+(es.getD k (0,0)).2,(k:Int)+1),(by and_intros<;>first|rfl|trivial|simp),fin _ _ _ ht (hw1 h0) hl⟩,fun h0=>⟨by omega,by omega,by omega,by omega,(tLk g s es wr k++[(1+Int.tmod (es.getD k (0,0)).1 3,gmax 0 ((es.getD k (0,0)).2+0))],tWk g es k++[(es.getD k (0,0)).2],tG g es k+(es.getD k (0,0)).2,(k:Int)+1),(by and_intros<;>first|rfl|trivial|simp),fin _ _ _ ht (hw2 h0) hl⟩⟩
  ·have ht:tG g es k=tW g es k:=by rw[hW];unfold gT;rw[if_neg (hk1▸e1),if_neg (hk1▸e2)]
   have hl:tG g es k=tG g es (k+1):=by rw[hG];unfold stepT;dsimp only;rw[if_neg (hk1▸e1),if_neg (hk1▸e2)]
   exact⟨fun h0=>⟨by omega,by omega,by have:=Nat.mod_lt k (show 0<wr.length by omega);omega,by have:=hwn h0;omega,by omega,by omega,by have:=hw1 h0;omega,by omega,by omega,by omega,(tLk g s es wr k++[(1+Int.tmod (es.getD k (0,0)).1 3,gmax 0 (tG g es k+Int.tmod (wr.getD (k % wr.length) 0) (s+1)))],tWk g es k++[tG g es k],tG g es k,(k:Int)+1),(by and_intros<;>first|rfl|trivial|simp),fin _ _ _ ht (hw1 h0) hl⟩,fun h0=>⟨by omega,by omega,by omega,by omega,(tLk g s es wr k++[(1+Int.tmod (es.getD k (0,0)).1 3,gmax 0 (tG g es k+0))],tWk g es k++[tG g es k],tG g es k,(k:Int)+1),(by and_intros<;>first|rfl|trivial|simp),fin _ _ _ ht (hw2 h0) hl⟩⟩
 ·have:k=toldN es:=by omega
  subst this
  exact(by and_intros<;>first|rfl|trivial|simp)
end Go.Proofs.Tryd
set_option linter.unusedVariables false
namespace Go.Proofs.Tryd
open Go Go.V Go.Proofs
def al_law09_ShadeGram:AL ((Int×Int×(List (Int×Int))×List Int)×Int×Int):=(.cons (.agg (.cons (.k (.i .u8)) (.cons (.k (.i .u8)) (.cons (.k (.list (.pair (.i .u8) (.i .u8)))) (.one (.k (.list (.i .i8)))))))) (.cons (.k (.i .u8)) (.one (.k (.i .u8)))))
def pre_law09_ShadeGram (d:(Int×Int×(List (Int×Int))×List Int)×Int×Int):Prop:=0≤d.1.1∧d.1.1≤255∧0≤d.1.2.1∧d.1.2.1≤255∧esOk d.1.2.2.1∧wrOk d.1.2.2.2∧0≤d.2.1∧d.2.1≤255∧0≤d.2.2∧d.2.2≤255
def res_law09_ShadeGram (d:(Int×Int×(List (Int×Int))×List Int)×Int×Int):SV:=.val .bo true
def obs_law09_ShadeGram (d:(Int×Int×(List (Int×Int))×List Int)×Int×Int):List OB:=[]
def s_law09_ShadeGram:CSp:=mkSp al_law09_ShadeGram pre_law09_ShadeGram res_law09_ShadeGram obs_law09_ShadeGram
def vc_law09_ShadeGram (bg:Int) (bs:Int) (es:List (Int×Int)) (wr:List Int) (wh:Int) (mo:Int):Prop :=
 (0≤bg∧bg≤255∧0≤bs∧bs≤255∧esOk es∧wrOk wr)∧((toldL (1+4*bg) (Int.tmod bs 30) es wr).length≤1000)∧((toldL (1+4*bg) (Int.tmod bs 30) es wr).length≤1000)∧((toldL (1+4*bg) (Int.tmod bs 30) es wr).length≤1000)∧((toldL (1+4*bg) (Int.tmod bs 30) es wr).length≤1000)∧∀ (y1:Bool),y1=((bookErr (1+4*bg) (Int.tmod bs 30) (toldL (1+4*bg) (Int.tmod bs 30) es wr)) != (0:Int))→∀ (y2:Bool),y2=((scaleErr (1+4*bg) (toldL (1+4*bg) (Int.tmod bs 30) es wr)) != (0:Int))→∀ (y3:Bool),y3=(y1||y2)→∀ (y4:Bool),y4=(decide ((toldV (1+4*bg) es)<((bookSp (1+4*bg) (Int.tmod bs 30) (toldL (1+4*bg) (Int.tmod bs 30) es wr)).1)))→∀ (y5:Bool),y5=(y3||y4)→∀ (y6:Bool),y6=(decide ((toldV (1+4*bg) es) > ((bookSp (1+4*bg) (Int.tmod bs 30) (toldL (1+4*bg) (Int.tmod bs 30) es wr)).2)))→∀ (y7:Bool),y7=(y5||y6)→∀ (y8:Bool),y8=(decide (((bookSp (1+4*bg) (Int.tmod bs 30) (toldL (1+4*bg) (Int.tmod bs 30) es wr)).1)<(0:Int)))→∀ (y9:Bool),y9=(y7||y8)→∀ (y10:Bool),y10=(decide ((scaleV (1+4*bg) (toldL (1+4*bg) (Int.tmod bs 30) es wr))<(0:Int)))→∀ (y11:Bool),y11=(y9||y10)→∀ (y12:Bool),y12=(decide ((scaleV (1+4*bg) (toldL (1+4*bg) (Int.tmod bs 30) es wr)) > (Int.tmod bs 30)))→∀ (y13:Bool),y13=(y11||y12)→(y13=true →
  (false=true∧(True))) ∧
 (y13=false →
  ((toldL (1+4*bg) (Int.tmod bs 30) es wr).length≤1000)∧∃ (e3:Unit) (d30:(List (Int×Int))×Int×Int×Int),((wh=wh∧mo=mo∧(1+4*bg)=(1+4*bg)∧(Int.tmod bs 30)=(Int.tmod bs 30)∧True∧True∧(toldV (1+4*bg) es)=(toldV (1+4*bg) es)∧True∧True∧(0:Int)=d30.2.1∧(0:Int)=d30.2.2.1∧(0:Int)=d30.2.2.2∧True)∧(((toldL (1+4*bg) (Int.tmod bs 30) es wr)=(toldL (1+4*bg) (Int.tmod bs 30) es wr)∧false=false)∧((toldW (1+4*bg) es)=(toldW (1+4*bg) es)∧false=false)∧(((bookSp (1+4*bg) (Int.tmod bs 30) (toldL (1+4*bg) (Int.tmod bs 30) es wr)).1)=((bookSp (1+4*bg) (Int.tmod bs 30) (toldL (1+4*bg) (Int.tmod bs 30) es wr)).1)∧((bookSp (1+4*bg) (Int.tmod bs 30) (toldL (1+4*bg) (Int.tmod bs 30) es wr)).2)=((bookSp (1+4*bg) (Int.tmod bs 30) (toldL (1+4*bg) (Int.tmod bs 30) es wr)).2)∧(([]:List SV)=[]))∧((toldL (1+4*bg) (Int.tmod bs 30) es wr)=d30.1∧false=false)∧True)) ∧
  LoopP (fun (d3:(List (Int×Int))×Int×Int×Int) (q3:((List (Int×Int))×Int×Int×Int)→Prop) =>
   ∀ (y50:Bool),y50=(decide (d3.2.2.2<(lI (toldL (1+4*bg) (Int.tmod bs 30) es wr))))→(y50=true →
    ((toldL (1+4*bg) (Int.tmod bs 30) es wr).length≤1000)∧((toldL (1+4*bg) (Int.tmod bs 30) es wr).length≤1000)∧∀ (y51:Bool),y51=((wasErr (1+4*bg) (Int.tmod bs 30) (toldL (1+4*bg) (Int.tmod bs 30) es wr) d3.2.2.2) != (0:Int))→(y51=false→0≤d3.2.2.2)∧(y51=false→d3.2.2.2<(List.length (toldW (1+4*bg) es)))∧∀ (y52:Int),y52=(gD (toldW (1+4*bg) es) d3.2.2.2 0)→∀ (y53:Bool),y53=(decide (y52<((wasSp (1+4*bg) (Int.tmod bs 30) (toldL (1+4*bg) (Int.tmod bs 30) es wr) d3.2.2.2).1)))→∀ (y54:Bool),y54=(y51||y53)→(y54=false→0≤d3.2.2.2)∧(y54=false→d3.2.2.2<(List.length (toldW (1+4*bg) es)))∧∀ (y55:Int),y55=(gD (toldW (1+4*bg) es) d3.2.2.2 0)→∀ (y56:Bool),y56=(decide (y55 > ((wasSp (1+4*bg) (Int.tmod bs 30) (toldL (1+4*bg) (Int.tmod bs 30) es wr) d3.2.2.2).2)))→∀ (y57:Bool),y57=(y54||y56)→(y57=true →
     (false=true∧(True))) ∧
    (y57=false →
     (0≤d3.2.2.2)∧(d3.2.2.2<(List.length (toldW (1+4*bg) es)))∧∀ (y58:Int),y58=(gD (toldW (1+4*bg) es) d3.2.2.2 0)→(0≤d3.2.2.2)∧(d3.2.2.2<(List.length d3.1))∧(0≤d3.2.2.2)∧(d3.2.2.2<(List.length (toldL (1+4*bg) (Int.tmod bs 30) es wr)))∧∀ (y59:Int),y59=(gD (toldL (1+4*bg) (Int.tmod bs 30) es wr) d3.2.2.2 (0,0)).1→∀ (y60:Bool),y60=(y59==(1:Int))→(y60=true →
      (0≤d3.2.2.2)∧(d3.2.2.2<(List.length (toldW (1+4*bg) es)))∧∀ (y61:Int),y61=(gD (toldW (1+4*bg) es) d3.2.2.2 0)→(I64 (d3.2.1+y61))∧(0≤d3.2.2.2)∧(d3.2.2.2<(List.length (toldL (1+4*bg) (Int.tmod bs 30) es wr)))∧∀ (y62:Int),y62=(gD (toldL (1+4*bg) (Int.tmod bs 30) es wr) d3.2.2.2 (0,0)).1→∀ (y63:Bool),y63=(y62==(2:Int))→(y63=true →
       (0≤d3.2.2.2)∧(d3.2.2.2<(List.length (toldW (1+4*bg) es)))∧∀ (y64:Int),y64=(gD (toldW (1+4*bg) es) d3.2.2.2 0)→(I64 (d3.2.2.1+y64))∧(I64 (d3.2.2.2+(1:Int)))∧(∃ d4:(List (Int×Int))×Int×Int×Int,((wh=wh∧mo=mo∧(1+4*bg)=(1+4*bg)∧(Int.tmod bs 30)=(Int.tmod bs 30)∧True∧True∧(toldV (1+4*bg) es)=(toldV (1+4*bg) es)∧True∧True∧(d3.2.1+y61)=d4.2.1∧(d3.2.2.1+y64)=d4.2.2.1∧(d3.2.2.2+(1:Int))=d4.2.2.2∧True)∧(((toldL (1+4*bg) (Int.tmod bs 30) es wr)=(toldL (1+4*bg) (Int.tmod bs 30) es wr)∧false=false)∧((toldW (1+4*bg) es)=(toldW (1+4*bg) es)∧false=false)∧(((bookSp (1+4*bg) (Int.tmod bs 30) (toldL (1+4*bg) (Int.tmod bs 30) es wr)).1)=((bookSp (1+4*bg) (Int.tmod bs 30) (toldL (1+4*bg) (Int.tmod bs 30) es wr)).1)∧((bookSp (1+4*bg) (Int.tmod bs 30) (toldL (1+4*bg) (Int.tmod bs 30) es wr)).2)=((bookSp (1+4*bg) (Int.tmod bs 30) (toldL (1+4*bg) (Int.tmod bs 30) es wr)).2)∧(([]:List SV)=[]))∧((sT d3.1 d3.2.2.2 ((gD d3.1 d3.2.2.2 (0,0)).1,y58))=d4.1∧false=false)∧True))∧q3 d4)) ∧
      (y63=false →
       (I64 (d3.2.2.2+(1:Int)))∧(∃ d5:(List (Int×Int))×Int×Int×Int,((wh=wh∧mo=mo∧(1+4*bg)=(1+4*bg)∧(Int.tmod bs 30)=(Int.tmod bs 30)∧True∧True∧(toldV (1+4*bg) es)=(toldV (1+4*bg) es)∧True∧True∧(d3.2.1+y61)=d5.2.1∧d3.2.2.1=d5.2.2.1∧(d3.2.2.2+(1:Int))=d5.2.2.2∧True)∧(((toldL (1+4*bg) (Int.tmod bs 30) es wr)=(toldL (1+4*bg) (Int.tmod bs 30) es wr)∧false=false)∧((toldW (1+4*bg) es)=(toldW (1+4*bg) es)∧false=false)∧(((bookSp (1+4*bg) (Int.tmod bs 30) (toldL (1+4*bg) (Int.tmod bs 30) es wr)).1)=((bookSp (1+4*bg) (Int.tmod bs 30) (toldL (1+4*bg) (Int.tmod bs 30) es wr)).1)∧((bookSp (1+4*bg) (Int.tmod bs 30) (toldL (1+4*bg) (Int.tmod bs 30) es wr)).2)=((bookSp (1+4*bg) (Int.tmod bs 30) (toldL (1+4*bg) (Int.tmod bs 30) es wr)).2)∧(([]:List SV)=[]))∧((sT d3.1 d3.2.2.2 ((gD d3.1 d3.2.2.2 (0,0)).1,y58))=d5.1∧false=false)∧True))∧q3 d5))) ∧
     (y60=false →
      (0≤d3.2.2.2)∧(d3.2.2.2<(List.length (toldL (1+4*bg) (Int.tmod bs 30) es wr)))∧∀ (y65:Int),y65=(gD (toldL (1+4*bg) (Int.tmod bs 30) es wr) d3.2.2.2 (0,0)).1→∀ (y66:Bool),y66=(y65==(2:Int))→(y66=true →
       (0≤d3.2.2.2)∧(d3.2.2.2<(List.length (toldW (1+4*bg) es)))∧∀ (y67:Int),y67=(gD (toldW (1+4*bg) es) d3.2.2.2 0)→(I64 (d3.2.2.1+y67))∧(I64 (d3.2.2.2+(1:Int)))∧(∃ d6:(List (Int×Int))×Int×Int×Int,((wh=wh∧mo=mo∧(1+4*bg)=(1+4*bg)∧(Int.tmod bs 30)=(Int.tmod bs 30)∧True∧True∧(toldV (1+4*bg) es)=(toldV (1+4*bg) es)∧True∧True∧d3.2.1=d6.2.1∧(d3.2.2.1+y67)=d6.2.2.1∧(d3.2.2.2+(1:Int))=d6.2.2.2∧True)∧(((toldL (1+4*bg) (Int.tmod bs 30) es wr)=(toldL (1+4*bg) (Int.tmod bs 30) es wr)∧false=false)∧((toldW (1+4*bg) es)=(toldW (1+4*bg) es)∧false=false)∧(((bookSp (1+4*bg) (Int.tmod bs 30) (toldL (1+4*bg) (Int.tmod bs 30) es wr)).1)=((bookSp (1+4*bg) (Int.tmod bs 30) (toldL (1+4*bg) (Int.tmod bs 30) es wr)).1)∧((bookSp (1+4*bg) (Int.tmod bs 30) (toldL (1+4*bg) (Int.tmod bs 30) es wr)).2)=((bookSp (1+4*bg) (Int.tmod bs 30) (toldL (1+4*bg) (Int.tmod bs 30) es wr)).2)∧(([]:List SV)=[]))∧((sT d3.1 d3.2.2.2 ((gD d3.1 d3.2.2.2 (0,0)).1,y58))=d6.1∧false=false)∧True))∧q3 d6)) ∧
      (y66=false →
       (I64 (d3.2.2.2+(1:Int)))∧(∃ d7:(List (Int×Int))×Int×Int×Int,((wh=wh∧mo=mo∧(1+4*bg)=(1+4*bg)∧(Int.tmod bs 30)=(Int.tmod bs 30)∧True∧True∧(toldV (1+4*bg) es)=(toldV (1+4*bg) es)∧True∧True∧d3.2.1=d7.2.1∧d3.2.2.1=d7.2.2.1∧(d3.2.2.2+(1:Int))=d7.2.2.2∧True)∧(((toldL (1+4*bg) (Int.tmod bs 30) es wr)=(toldL (1+4*bg) (Int.tmod bs 30) es wr)∧false=false)∧((toldW (1+4*bg) es)=(toldW (1+4*bg) es)∧false=false)∧(((bookSp (1+4*bg) (Int.tmod bs 30) (toldL (1+4*bg) (Int.tmod bs 30) es wr)).1)=((bookSp (1+4*bg) (Int.tmod bs 30) (toldL (1+4*bg) (Int.tmod bs 30) es wr)).1)∧((bookSp (1+4*bg) (Int.tmod bs 30) (toldL (1+4*bg) (Int.tmod bs 30) es wr)).2)=((bookSp (1+4*bg) (Int.tmod bs 30) (toldL (1+4*bg) (Int.tmod bs 30) es wr)).2)∧(([]:List SV)=[]))∧((sT d3.1 d3.2.2.2 ((gD d3.1 d3.2.2.2 (0,0)).1,y58))=d7.1∧false=false)∧True))∧q3 d7))))) ∧
   (y50=false →
    (d3.1.length≤1000)∧(d3.1.length≤1000)∧∀ (y68:Bool),y68=((bookErr (1+4*bg) (0:Int) d3.1) != (0:Int))→(y68=false→True)∧∀ (y69:Bool),y69=(!((((bookSp (1+4*bg) (0:Int) d3.1).1)==(toldV (1+4*bg) es))&&(((bookSp (1+4*bg) (0:Int) d3.1).2)==(toldV (1+4*bg) es))))→∀ (y70:Bool),y70=(y68||y69)→(y70=false→InK .i64 ((1+4*bg)-d3.2.1))∧(y70=false→InK .i64 (((1+4*bg)-d3.2.1)+d3.2.2.1))∧∀ (y71:Bool),y71=((((1+4*bg)-d3.2.1)+d3.2.2.1) != (toldV (1+4*bg) es))→∀ (y72:Bool),y72=(y70||y71)→(y72=true →
     (false=true∧(True))) ∧
    (y72=false →
     ((2:Int)≠0)∧(I64 (Int.tdiv (Int.tmod bs 30) (2:Int)))∧∀ (y73:Int),y73=(Int.tdiv (Int.tmod bs 30) (2:Int))→(d3.1.length≤1000)∧(d3.1.length≤1000)∧(d3.1.length≤1000)∧(d3.1.length≤1000)∧((toldL (1+4*bg) (Int.tmod bs 30) es wr).length≤1000)∧(false=true→(toldL (1+4*bg) (Int.tmod bs 30) es wr)=[])∧(I64 mo)∧(I64 ((Int.tmod bs 30)+(1:Int)))∧(((Int.tmod bs 30)+(1:Int))≠0)∧∀ (y74:Int),y74=(Int.tmod mo ((Int.tmod bs 30)+(1:Int)))→(I64 ((toldV (1+4*bg) es)-y74))∧∀ (y75:Int),y75=(gmax (0:Int) ((toldV (1+4*bg) es)-y74))→(((List.length (toldL (1+4*bg) (Int.tmod bs 30) es wr))+(List.length [((3:Int),y75)]))*16≤70368744177664)∧(((toldL (1+4*bg) (Int.tmod bs 30) es wr)++[((3:Int),y75)]).length≤1000)∧((wh=wh∧(1+4*bg)=(1+4*bg)∧(Int.tmod bs 30)=(Int.tmod bs 30)∧True∧True∧(toldV (1+4*bg) es)=(toldV (1+4*bg) es)∧True∧True∧(bookErr (1+4*bg) y73 d3.1)=(bookErr (1+4*bg) y73 d3.1)∧True∧(bookErr (1+4*bg) (Int.tmod bs 30) d3.1)=(bookErr (1+4*bg) (Int.tmod bs 30) d3.1)∧True∧(bookErr (1+4*bg) (Int.tmod bs 30) ((toldL (1+4*bg) (Int.tmod bs 30) es wr)++[((3:Int),y75)]))=(bookErr (1+4*bg) (Int.tmod bs 30) ((toldL (1+4*bg) (Int.tmod bs 30) es wr)++[((3:Int),y75)]))∧True)∧((((bookSp (1+4*bg) (Int.tmod bs 30) (toldL (1+4*bg) (Int.tmod bs 30) es wr)).1)=((bookSp (1+4*bg) (Int.tmod bs 30) (toldL (1+4*bg) (Int.tmod bs 30) es wr)).1)∧((bookSp (1+4*bg) (Int.tmod bs 30) (toldL (1+4*bg) (Int.tmod bs 30) es wr)).2)=((bookSp (1+4*bg) (Int.tmod bs 30) (toldL (1+4*bg) (Int.tmod bs 30) es wr)).2)∧(([]:List SV)=[]))∧(((bookSp (1+4*bg) (0:Int) d3.1).1)=((bookSp (1+4*bg) (0:Int) d3.1).1)∧((bookSp (1+4*bg) (0:Int) d3.1).2)=((bookSp (1+4*bg) (0:Int) d3.1).2)∧(([]:List SV)=[]))∧(((bookSp (1+4*bg) y73 d3.1).1)=((bookSp (1+4*bg) y73 d3.1).1)∧((bookSp (1+4*bg) y73 d3.1).2)=((bookSp (1+4*bg) y73 d3.1).2)∧(([]:List SV)=[]))∧(((bookSp (1+4*bg) (Int.tmod bs 30) d3.1).1)=((bookSp (1+4*bg) (Int.tmod bs 30) d3.1).1)∧((bookSp (1+4*bg) (Int.tmod bs 30) d3.1).2)=((bookSp (1+4*bg) (Int.tmod bs 30) d3.1).2)∧(([]:List SV)=[]))∧(((bookSp (1+4*bg) (Int.tmod bs 30) ((toldL (1+4*bg) (Int.tmod bs 30) es wr)++[((3:Int),y75)])).1)=((bookSp (1+4*bg) (Int.tmod bs 30) ((toldL (1+4*bg) (Int.tmod bs 30) es wr)++[((3:Int),y75)])).1)∧((bookSp (1+4*bg) (Int.tmod bs 30) ((toldL (1+4*bg) (Int.tmod bs 30) es wr)++[((3:Int),y75)])).2)=((bookSp (1+4*bg) (Int.tmod bs 30) ((toldL (1+4*bg) (Int.tmod bs 30) es wr)++[((3:Int),y75)])).2)∧(([]:List SV)=[]))∧((toldL (1+4*bg) (Int.tmod bs 30) es wr)=(toldL (1+4*bg) (Int.tmod bs 30) es wr)∧false=false)∧(d3.1=d3.1∧false=false)∧(d3.1=d3.1∧false=false)∧(d3.1=d3.1∧false=false)∧(d3.1=d3.1∧false=false)∧(((toldL (1+4*bg) (Int.tmod bs 30) es wr)++[((3:Int),y75)])=((toldL (1+4*bg) (Int.tmod bs 30) es wr)++[((3:Int),y75)])∧false=false)∧([((3:Int),y75)]=[((3:Int),y75)]∧false=false)∧((toldW (1+4*bg) es)=(toldW (1+4*bg) es)∧false=false)∧True))∧(((toldL (1+4*bg) (Int.tmod bs 30) es wr).length≤1000)∧(false=true→(toldL (1+4*bg) (Int.tmod bs 30) es wr)=[])∧(I64 mo)∧(I64 ((Int.tmod bs 30)+(1:Int)))∧(((Int.tmod bs 30)+(1:Int))≠0)∧∀ (y76:Int),y76=(Int.tmod mo ((Int.tmod bs 30)+(1:Int)))→(I64 ((toldV (1+4*bg) es)-y76))∧∀ (y77:Int),y77=(gmax (0:Int) ((toldV (1+4*bg) es)-y76))→(((List.length (toldL (1+4*bg) (Int.tmod bs 30) es wr))+(List.length [((3:Int),y77)]))*16≤70368744177664)∧(((toldL (1+4*bg) (Int.tmod bs 30) es wr)++[((3:Int),y77)]).length≤1000)∧((wh=wh∧(1+4*bg)=(1+4*bg)∧(Int.tmod bs 30)=(Int.tmod bs 30)∧True∧True∧(toldV (1+4*bg) es)=(toldV (1+4*bg) es)∧True∧True∧(bookErr (1+4*bg) y73 d3.1)=(bookErr (1+4*bg) y73 d3.1)∧True∧(bookErr (1+4*bg) (Int.tmod bs 30) d3.1)=(bookErr (1+4*bg) (Int.tmod bs 30) d3.1)∧True∧(bookErr (1+4*bg) (Int.tmod bs 30) ((toldL (1+4*bg) (Int.tmod bs 30) es wr)++[((3:Int),y77)]))=(bookErr (1+4*bg) (Int.tmod bs 30) ((toldL (1+4*bg) (Int.tmod bs 30) es wr)++[((3:Int),y75)]))∧True)∧((((bookSp (1+4*bg) (Int.tmod bs 30) (toldL (1+4*bg) (Int.tmod bs 30) es wr)).1)=((bookSp (1+4*bg) (Int.tmod bs 30) (toldL (1+4*bg) (Int.tmod bs 30) es wr)).1)∧((bookSp (1+4*bg) (Int.tmod bs 30) (toldL (1+4*bg) (Int.tmod bs 30) es wr)).2)=((bookSp (1+4*bg) (Int.tmod bs 30) (toldL (1+4*bg) (Int.tmod bs 30) es wr)).2)∧(([]:List SV)=[]))∧(((bookSp (1+4*bg) (0:Int) d3.1).1)=((bookSp (1+4*bg) (0:Int) d3.1).1)∧((bookSp (1+4*bg) (0:Int) d3.1).2)=((bookSp (1+4*bg) (0:Int) d3.1).2)∧(([]:List SV)=[]))∧(((bookSp (1+4*bg) y73 d3.1).1)=((bookSp (1+4*bg) y73 d3.1).1)∧((bookSp (1+4*bg) y73 d3.1).2)=((bookSp (1+4*bg) y73 d3.1).2)∧(([]:List SV)=[]))∧(((bookSp (1+4*bg) (Int.tmod bs 30) d3.1).1)=((bookSp (1+4*bg) (Int.tmod bs 30) d3.1).1)∧((bookSp (1+4*bg) (Int.tmod bs 30) d3.1).2)=((bookSp (1+4*bg) (Int.tmod bs 30) d3.1).2)∧(([]:List SV)=[]))∧(((bookSp (1+4*bg) (Int.tmod bs 30) ((toldL (1+4*bg) (Int.tmod bs 30) es wr)++[((3:Int),y77)])).1)=((bookSp (1+4*bg) (Int.tmod bs 30) ((toldL (1+4*bg) (Int.tmod bs 30) es wr)++[((3:Int),y75)])).1)∧((bookSp (1+4*bg) (Int.tmod bs 30) ((toldL (1+4*bg) (Int.tmod bs 30) es wr)++[((3:Int),y77)])).2)=((bookSp (1+4*bg) (Int.tmod bs 30) ((toldL (1+4*bg) (Int.tmod bs 30) es wr)++[((3:Int),y75)])).2)∧(([]:List SV)=[]))∧((toldL (1+4*bg) (Int.tmod bs 30) es wr)=(toldL (1+4*bg) (Int.tmod bs 30) es wr)∧false=false)∧(d3.1=d3.1∧false=false)∧(d3.1=d3.1∧false=false)∧(d3.1=d3.1∧false=false)∧(d3.1=d3.1∧false=false)∧(((toldL (1+4*bg) (Int.tmod bs 30) es wr)++[((3:Int),y77)])=((toldL (1+4*bg) (Int.tmod bs 30) es wr)++[((3:Int),y75)])∧false=false)∧([((3:Int),y77)]=[((3:Int),y75)]∧false=false)∧((toldW (1+4*bg) es)=(toldW (1+4*bg) es)∧false=false)∧True)))∧(((toldL (1+4*bg) (Int.tmod bs 30) es wr).length≤1000)∧(false=true→(toldL (1+4*bg) (Int.tmod bs 30) es wr)=[])∧(I64 mo)∧(I64 ((Int.tmod bs 30)+(1:Int)))∧(((Int.tmod bs 30)+(1:Int))≠0)∧∀ (y78:Int),y78=(Int.tmod mo ((Int.tmod bs 30)+(1:Int)))→(I64 ((toldV (1+4*bg) es)-y78))∧∀ (y79:Int),y79=(gmax (0:Int) ((toldV (1+4*bg) es)-y78))→(((List.length (toldL (1+4*bg) (Int.tmod bs 30) es wr))+(List.length [((3:Int),y79)]))*16≤70368744177664)∧(((toldL (1+4*bg) (Int.tmod bs 30) es wr)++[((3:Int),y79)]).length≤1000)∧((wh=wh∧(1+4*bg)=(1+4*bg)∧(Int.tmod bs 30)=(Int.tmod bs 30)∧True∧True∧(toldV (1+4*bg) es)=(toldV (1+4*bg) es)∧True∧True∧(bookErr (1+4*bg) y73 d3.1)=(bookErr (1+4*bg) y73 d3.1)∧True∧(bookErr (1+4*bg) (Int.tmod bs 30) d3.1)=(bookErr (1+4*bg) (Int.tmod bs 30) d3.1)∧True∧(bookErr (1+4*bg) (Int.tmod bs 30) ((toldL (1+4*bg) (Int.tmod bs 30) es wr)++[((3:Int),y79)]))=(bookErr (1+4*bg) (Int.tmod bs 30) ((toldL (1+4*bg) (Int.tmod bs 30) es wr)++[((3:Int),y75)]))∧True)∧((((bookSp (1+4*bg) (Int.tmod bs 30) (toldL (1+4*bg) (Int.tmod bs 30) es wr)).1)=((bookSp (1+4*bg) (Int.tmod bs 30) (toldL (1+4*bg) (Int.tmod bs 30) es wr)).1)∧((bookSp (1+4*bg) (Int.tmod bs 30) (toldL (1+4*bg) (Int.tmod bs 30) es wr)).2)=((bookSp (1+4*bg) (Int.tmod bs 30) (toldL (1+4*bg) (Int.tmod bs 30) es wr)).2)∧(([]:List SV)=[]))∧(((bookSp (1+4*bg) (0:Int) d3.1).1)=((bookSp (1+4*bg) (0:Int) d3.1).1)∧((bookSp (1+4*bg) (0:Int) d3.1).2)=((bookSp (1+4*bg) (0:Int) d3.1).2)∧(([]:List SV)=[]))∧(((bookSp (1+4*bg) y73 d3.1).1)=((bookSp (1+4*bg) y73 d3.1).1)∧((bookSp (1+4*bg) y73 d3.1).2)=((bookSp (1+4*bg) y73 d3.1).2)∧(([]:List SV)=[]))∧(((bookSp (1+4*bg) (Int.tmod bs 30) d3.1).1)=((bookSp (1+4*bg) (Int.tmod bs 30) d3.1).1)∧((bookSp (1+4*bg) (Int.tmod bs 30) d3.1).2)=((bookSp (1+4*bg) (Int.tmod bs 30) d3.1).2)∧(([]:List SV)=[]))∧(((bookSp (1+4*bg) (Int.tmod bs 30) ((toldL (1+4*bg) (Int.tmod bs 30) es wr)++[((3:Int),y79)])).1)=((bookSp (1+4*bg) (Int.tmod bs 30) ((toldL (1+4*bg) (Int.tmod bs 30) es wr)++[((3:Int),y75)])).1)∧((bookSp (1+4*bg) (Int.tmod bs 30) ((toldL (1+4*bg) (Int.tmod bs 30) es wr)++[((3:Int),y79)])).2)=((bookSp (1+4*bg) (Int.tmod bs 30) ((toldL (1+4*bg) (Int.tmod bs 30) es wr)++[((3:Int),y75)])).2)∧(([]:List SV)=[]))∧((toldL (1+4*bg) (Int.tmod bs 30) es wr)=(toldL (1+4*bg) (Int.tmod bs 30) es wr)∧false=false)∧(d3.1=d3.1∧false=false)∧(d3.1=d3.1∧false=false)∧(d3.1=d3.1∧false=false)∧(d3.1=d3.1∧false=false)∧(((toldL (1+4*bg) (Int.tmod bs 30) es wr)++[((3:Int),y79)])=((toldL (1+4*bg) (Int.tmod bs 30) es wr)++[((3:Int),y75)])∧false=false)∧([((3:Int),y79)]=[((3:Int),y75)]∧false=false)∧((toldW (1+4*bg) es)=(toldW (1+4*bg) es)∧false=false)∧True)))∧(((toldL (1+4*bg) (Int.tmod bs 30) es wr).length≤1000)∧(false=true→(toldL (1+4*bg) (Int.tmod bs 30) es wr)=[])∧(I64 mo)∧(I64 ((Int.tmod bs 30)+(1:Int)))∧(((Int.tmod bs 30)+(1:Int))≠0)∧∀ (y80:Int),y80=(Int.tmod mo ((Int.tmod bs 30)+(1:Int)))→(I64 ((toldV (1+4*bg) es)-y80))∧∀ (y81:Int),y81=(gmax (0:Int) ((toldV (1+4*bg) es)-y80))→(((List.length (toldL (1+4*bg) (Int.tmod bs 30) es wr))+(List.length [((3:Int),y81)]))*16≤70368744177664)∧(((toldL (1+4*bg) (Int.tmod bs 30) es wr)++[((3:Int),y81)]).length≤1000)∧((wh=wh∧(1+4*bg)=(1+4*bg)∧(Int.tmod bs 30)=(Int.tmod bs 30)∧True∧True∧(toldV (1+4*bg) es)=(toldV (1+4*bg) es)∧True∧True∧(bookErr (1+4*bg) y73 d3.1)=(bookErr (1+4*bg) y73 d3.1)∧True∧(bookErr (1+4*bg) (Int.tmod bs 30) d3.1)=(bookErr (1+4*bg) (Int.tmod bs 30) d3.1)∧True∧(bookErr (1+4*bg) (Int.tmod bs 30) ((toldL (1+4*bg) (Int.tmod bs 30) es wr)++[((3:Int),y81)]))=(bookErr (1+4*bg) (Int.tmod bs 30) ((toldL (1+4*bg) (Int.tmod bs 30) es wr)++[((3:Int),y75)]))∧True)∧((((bookSp (1+4*bg) (Int.tmod bs 30) (toldL (1+4*bg) (Int.tmod bs 30) es wr)).1)=((bookSp (1+4*bg) (Int.tmod bs 30) (toldL (1+4*bg) (Int.tmod bs 30) es wr)).1)∧((bookSp (1+4*bg) (Int.tmod bs 30) (toldL (1+4*bg) (Int.tmod bs 30) es wr)).2)=((bookSp (1+4*bg) (Int.tmod bs 30) (toldL (1+4*bg) (Int.tmod bs 30) es wr)).2)∧(([]:List SV)=[]))∧(((bookSp (1+4*bg) (0:Int) d3.1).1)=((bookSp (1+4*bg) (0:Int) d3.1).1)∧((bookSp (1+4*bg) (0:Int) d3.1).2)=((bookSp (1+4*bg) (0:Int) d3.1).2)∧(([]:List SV)=[]))∧(((bookSp (1+4*bg) y73 d3.1).1)=((bookSp (1+4*bg) y73 d3.1).1)∧((bookSp (1+4*bg) y73 d3.1).2)=((bookSp (1+4*bg) y73 d3.1).2)∧(([]:List SV)=[]))∧(((bookSp (1+4*bg) (Int.tmod bs 30) d3.1).1)=((bookSp (1+4*bg) (Int.tmod bs 30) d3.1).1)∧((bookSp (1+4*bg) (Int.tmod bs 30) d3.1).2)=((bookSp (1+4*bg) (Int.tmod bs 30) d3.1).2)∧(([]:List SV)=[]))∧(((bookSp (1+4*bg) (Int.tmod bs 30) ((toldL (1+4*bg) (Int.tmod bs 30) es wr)++[((3:Int),y81)])).1)=((bookSp (1+4*bg) (Int.tmod bs 30) ((toldL (1+4*bg) (Int.tmod bs 30) es wr)++[((3:Int),y75)])).1)∧((bookSp (1+4*bg) (Int.tmod bs 30) ((toldL (1+4*bg) (Int.tmod bs 30) es wr)++[((3:Int),y81)])).2)=((bookSp (1+4*bg) (Int.tmod bs 30) ((toldL (1+4*bg) (Int.tmod bs 30) es wr)++[((3:Int),y75)])).2)∧(([]:List SV)=[]))∧((toldL (1+4*bg) (Int.tmod bs 30) es wr)=(toldL (1+4*bg) (Int.tmod bs 30) es wr)∧false=false)∧(d3.1=d3.1∧false=false)∧(d3.1=d3.1∧false=false)∧(d3.1=d3.1∧false=false)∧(d3.1=d3.1∧false=false)∧(((toldL (1+4*bg) (Int.tmod bs 30) es wr)++[((3:Int),y81)])=((toldL (1+4*bg) (Int.tmod bs 30) es wr)++[((3:Int),y75)])∧false=false)∧([((3:Int),y81)]=[((3:Int),y75)]∧false=false)∧((toldW (1+4*bg) es)=(toldW (1+4*bg) es)∧false=false)∧True)))∧((I64 mo)∧(I64 ((Int.tmod bs 30)+(1:Int)))∧(((Int.tmod bs 30)+(1:Int))≠0)∧∀ (y82:Int),y82=(Int.tmod mo ((Int.tmod bs 30)+(1:Int)))→(I64 ((toldV (1+4*bg) es)-y82))∧∀ (y83:Int),y83=(gmax (0:Int) ((toldV (1+4*bg) es)-y82))→((toldL (1+4*bg) (Int.tmod bs 30) es wr).length≤1000)∧(false=true→(toldL (1+4*bg) (Int.tmod bs 30) es wr)=[])∧(((List.length (toldL (1+4*bg) (Int.tmod bs 30) es wr))+(List.length [((3:Int),y83)]))*16≤70368744177664)∧(((toldL (1+4*bg) (Int.tmod bs 30) es wr)++[((3:Int),y83)]).length≤1000)∧((wh=wh∧(1+4*bg)=(1+4*bg)∧(Int.tmod bs 30)=(Int.tmod bs 30)∧True∧True∧(toldV (1+4*bg) es)=(toldV (1+4*bg) es)∧True∧True∧(bookErr (1+4*bg) y73 d3.1)=(bookErr (1+4*bg) y73 d3.1)∧True∧(bookErr (1+4*bg) (Int.tmod bs 30) d3.1)=(bookErr (1+4*bg) (Int.tmod bs 30) d3.1)∧True∧(bookErr (1+4*bg) (Int.tmod bs 30) ((toldL (1+4*bg) (Int.tmod bs 30) es wr)++[((3:Int),y83)]))=(bookErr (1+4*bg) (Int.tmod bs 30) ((toldL (1+4*bg) (Int.tmod bs 30) es wr)++[((3:Int),y75)]))∧True)∧((((bookSp (1+4*bg) (Int.tmod bs 30) (toldL (1+4*bg) (Int.tmod bs 30) es wr)).1)=((bookSp (1+4*bg) (Int.tmod bs 30) (toldL (1+4*bg) (Int.tmod bs 30) es wr)).1)∧((bookSp (1+4*bg) (Int.tmod bs 30) (toldL (1+4*bg) (Int.tmod bs 30) es wr)).2)=((bookSp (1+4*bg) (Int.tmod bs 30) (toldL (1+4*bg) (Int.tmod bs 30) es wr)).2)∧(([]:List SV)=[]))∧(((bookSp (1+4*bg) (0:Int) d3.1).1)=((bookSp (1+4*bg) (0:Int) d3.1).1)∧((bookSp (1+4*bg) (0:Int) d3.1).2)=((bookSp (1+4*bg) (0:Int) d3.1).2)∧(([]:List SV)=[]))∧(((bookSp (1+4*bg) y73 d3.1).1)=((bookSp (1+4*bg) y73 d3.1).1)∧((bookSp (1+4*bg) y73 d3.1).2)=((bookSp (1+4*bg) y73 d3.1).2)∧(([]:List SV)=[]))∧(((bookSp (1+4*bg) (Int.tmod bs 30) d3.1).1)=((bookSp (1+4*bg) (Int.tmod bs 30) d3.1).1)∧((bookSp (1+4*bg) (Int.tmod bs 30) d3.1).2)=((bookSp (1+4*bg) (Int.tmod bs 30) d3.1).2)∧(([]:List SV)=[]))∧(((bookSp (1+4*bg) (Int.tmod bs 30) ((toldL (1+4*bg) (Int.tmod bs 30) es wr)++[((3:Int),y83)])).1)=((bookSp (1+4*bg) (Int.tmod bs 30) ((toldL (1+4*bg) (Int.tmod bs 30) es wr)++[((3:Int),y75)])).1)∧((bookSp (1+4*bg) (Int.tmod bs 30) ((toldL (1+4*bg) (Int.tmod bs 30) es wr)++[((3:Int),y83)])).2)=((bookSp (1+4*bg) (Int.tmod bs 30) ((toldL (1+4*bg) (Int.tmod bs 30) es wr)++[((3:Int),y75)])).2)∧(([]:List SV)=[]))∧((toldL (1+4*bg) (Int.tmod bs 30) es wr)=(toldL (1+4*bg) (Int.tmod bs 30) es wr)∧false=false)∧(d3.1=d3.1∧false=false)∧(d3.1=d3.1∧false=false)∧(d3.1=d3.1∧false=false)∧(d3.1=d3.1∧false=false)∧(((toldL (1+4*bg) (Int.tmod bs 30) es wr)++[((3:Int),y83)])=((toldL (1+4*bg) (Int.tmod bs 30) es wr)++[((3:Int),y75)])∧false=false)∧([((3:Int),y83)]=[((3:Int),y75)]∧false=false)∧((toldW (1+4*bg) es)=(toldW (1+4*bg) es)∧false=false)∧True)))∧((I64 mo)∧(I64 ((Int.tmod bs 30)+(1:Int)))∧(((Int.tmod bs 30)+(1:Int))≠0)∧∀ (y84:Int),y84=(Int.tmod mo ((Int.tmod bs 30)+(1:Int)))→(I64 ((toldV (1+4*bg) es)-y84))∧∀ (y85:Int),y85=(gmax (0:Int) ((toldV (1+4*bg) es)-y84))→((toldL (1+4*bg) (Int.tmod bs 30) es wr).length≤1000)∧(false=true→(toldL (1+4*bg) (Int.tmod bs 30) es wr)=[])∧(((List.length (toldL (1+4*bg) (Int.tmod bs 30) es wr))+(List.length [((3:Int),y85)]))*16≤70368744177664)∧(((toldL (1+4*bg) (Int.tmod bs 30) es wr)++[((3:Int),y85)]).length≤1000)∧((wh=wh∧(1+4*bg)=(1+4*bg)∧(Int.tmod bs 30)=(Int.tmod bs 30)∧True∧True∧(toldV (1+4*bg) es)=(toldV (1+4*bg) es)∧True∧True∧(bookErr (1+4*bg) y73 d3.1)=(bookErr (1+4*bg) y73 d3.1)∧True∧(bookErr (1+4*bg) (Int.tmod bs 30) d3.1)=(bookErr (1+4*bg) (Int.tmod bs 30) d3.1)∧True∧(bookErr (1+4*bg) (Int.tmod bs 30) ((toldL (1+4*bg) (Int.tmod bs 30) es wr)++[((3:Int),y85)]))=(bookErr (1+4*bg) (Int.tmod bs 30) ((toldL (1+4*bg) (Int.tmod bs 30) es wr)++[((3:Int),y75)]))∧True)∧((((bookSp (1+4*bg) (Int.tmod bs 30) (toldL (1+4*bg) (Int.tmod bs 30) es wr)).1)=((bookSp (1+4*bg) (Int.tmod bs 30) (toldL (1+4*bg) (Int.tmod bs 30) es wr)).1)∧((bookSp (1+4*bg) (Int.tmod bs 30) (toldL (1+4*bg) (Int.tmod bs 30) es wr)).2)=((bookSp (1+4*bg) (Int.tmod bs 30) (toldL (1+4*bg) (Int.tmod bs 30) es wr)).2)∧(([]:List SV)=[]))∧(((bookSp (1+4*bg) (0:Int) d3.1).1)=((bookSp (1+4*bg) (0:Int) d3.1).1)∧((bookSp (1+4*bg) (0:Int) d3.1).2)=((bookSp (1+4*bg) (0:Int) d3.1).2)∧(([]:List SV)=[]))∧(((bookSp (1+4*bg) y73 d3.1).1)=((bookSp (1+4*bg) y73 d3.1).1)∧((bookSp (1+4*bg) y73 d3.1).2)=((bookSp (1+4*bg) y73 d3.1).2)∧(([]:List SV)=[]))∧(((bookSp (1+4*bg) (Int.tmod bs 30) d3.1).1)=((bookSp (1+4*bg) (Int.tmod bs 30) d3.1).1)∧((bookSp (1+4*bg) (Int.tmod bs 30) d3.1).2)=((bookSp (1+4*bg) (Int.tmod bs 30) d3.1).2)∧(([]:List SV)=[]))∧(((bookSp (1+4*bg) (Int.tmod bs 30) ((toldL (1+4*bg) (Int.tmod bs 30) es wr)++[((3:Int),y85)])).1)=((bookSp (1+4*bg) (Int.tmod bs 30) ((toldL (1+4*bg) (Int.tmod bs 30) es wr)++[((3:Int),y75)])).1)∧((bookSp (1+4*bg) (Int.tmod bs 30) ((toldL (1+4*bg) (Int.tmod bs 30) es wr)++[((3:Int),y85)])).2)=((bookSp (1+4*bg) (Int.tmod bs 30) ((toldL (1+4*bg) (Int.tmod bs 30) es wr)++[((3:Int),y75)])).2)∧(([]:List SV)=[]))∧((toldL (1+4*bg) (Int.tmod bs 30) es wr)=(toldL (1+4*bg) (Int.tmod bs 30) es wr)∧false=false)∧(d3.1=d3.1∧false=false)∧(d3.1=d3.1∧false=false)∧(d3.1=d3.1∧false=false)∧(d3.1=d3.1∧false=false)∧(((toldL (1+4*bg) (Int.tmod bs 30) es wr)++[((3:Int),y85)])=((toldL (1+4*bg) (Int.tmod bs 30) es wr)++[((3:Int),y75)])∧false=false)∧([((3:Int),y85)]=[((3:Int),y75)]∧false=false)∧((toldW (1+4*bg) es)=(toldW (1+4*bg) es)∧false=false)∧True)))∧((I64 mo)∧(I64 ((Int.tmod bs 30)+(1:Int)))∧(((Int.tmod bs 30)+(1:Int))≠0)∧∀ (y86:Int),y86=(Int.tmod mo ((Int.tmod bs 30)+(1:Int)))→(I64 ((toldV (1+4*bg) es)-y86))∧∀ (y87:Int),y87=(gmax (0:Int) ((toldV (1+4*bg) es)-y86))→((toldL (1+4*bg) (Int.tmod bs 30) es wr).length≤1000)∧(false=true→(toldL (1+4*bg) (Int.tmod bs 30) es wr)=[])∧(((List.length (toldL (1+4*bg) (Int.tmod bs 30) es wr))+(List.length [((3:Int),y87)]))*16≤70368744177664)∧(((toldL (1+4*bg) (Int.tmod bs 30) es wr)++[((3:Int),y87)]).length≤1000)∧((wh=wh∧(1+4*bg)=(1+4*bg)∧(Int.tmod bs 30)=(Int.tmod bs 30)∧True∧True∧(toldV (1+4*bg) es)=(toldV (1+4*bg) es)∧True∧True∧(bookErr (1+4*bg) y73 d3.1)=(bookErr (1+4*bg) y73 d3.1)∧True∧(bookErr (1+4*bg) (Int.tmod bs 30) d3.1)=(bookErr (1+4*bg) (Int.tmod bs 30) d3.1)∧True∧(bookErr (1+4*bg) (Int.tmod bs 30) ((toldL (1+4*bg) (Int.tmod bs 30) es wr)++[((3:Int),y87)]))=(bookErr (1+4*bg) (Int.tmod bs 30) ((toldL (1+4*bg) (Int.tmod bs 30) es wr)++[((3:Int),y75)]))∧True)∧((((bookSp (1+4*bg) (Int.tmod bs 30) (toldL (1+4*bg) (Int.tmod bs 30) es wr)).1)=((bookSp (1+4*bg) (Int.tmod bs 30) (toldL (1+4*bg) (Int.tmod bs 30) es wr)).1)∧((bookSp (1+4*bg) (Int.tmod bs 30) (toldL (1+4*bg) (Int.tmod bs 30) es wr)).2)=((bookSp (1+4*bg) (Int.tmod bs 30) (toldL (1+4*bg) (Int.tmod bs 30) es wr)).2)∧(([]:List SV)=[]))∧(((bookSp (1+4*bg) (0:Int) d3.1).1)=((bookSp (1+4*bg) (0:Int) d3.1).1)∧((bookSp (1+4*bg) (0:Int) d3.1).2)=((bookSp (1+4*bg) (0:Int) d3.1).2)∧(([]:List SV)=[]))∧(((bookSp (1+4*bg) y73 d3.1).1)=((bookSp (1+4*bg) y73 d3.1).1)∧((bookSp (1+4*bg) y73 d3.1).2)=((bookSp (1+4*bg) y73 d3.1).2)∧(([]:List SV)=[]))∧(((bookSp (1+4*bg) (Int.tmod bs 30) d3.1).1)=((bookSp (1+4*bg) (Int.tmod bs 30) d3.1).1)∧((bookSp (1+4*bg) (Int.tmod bs 30) d3.1).2)=((bookSp (1+4*bg) (Int.tmod bs 30) d3.1).2)∧(([]:List SV)=[]))∧(((bookSp (1+4*bg) (Int.tmod bs 30) ((toldL (1+4*bg) (Int.tmod bs 30) es wr)++[((3:Int),y87)])).1)=((bookSp (1+4*bg) (Int.tmod bs 30) ((toldL (1+4*bg) (Int.tmod bs 30) es wr)++[((3:Int),y75)])).1)∧((bookSp (1+4*bg) (Int.tmod bs 30) ((toldL (1+4*bg) (Int.tmod bs 30) es wr)++[((3:Int),y87)])).2)=((bookSp (1+4*bg) (Int.tmod bs 30) ((toldL (1+4*bg) (Int.tmod bs 30) es wr)++[((3:Int),y75)])).2)∧(([]:List SV)=[]))∧((toldL (1+4*bg) (Int.tmod bs 30) es wr)=(toldL (1+4*bg) (Int.tmod bs 30) es wr)∧false=false)∧(d3.1=d3.1∧false=false)∧(d3.1=d3.1∧false=false)∧(d3.1=d3.1∧false=false)∧(d3.1=d3.1∧false=false)∧(((toldL (1+4*bg) (Int.tmod bs 30) es wr)++[((3:Int),y87)])=((toldL (1+4*bg) (Int.tmod bs 30) es wr)++[((3:Int),y75)])∧false=false)∧([((3:Int),y87)]=[((3:Int),y75)]∧false=false)∧((toldW (1+4*bg) es)=(toldW (1+4*bg) es)∧false=false)∧True)))∧((I64 mo)∧(I64 ((Int.tmod bs 30)+(1:Int)))∧(((Int.tmod bs 30)+(1:Int))≠0)∧∀ (y88:Int),y88=(Int.tmod mo ((Int.tmod bs 30)+(1:Int)))→(I64 ((toldV (1+4*bg) es)-y88))∧∀ (y89:Int),y89=(gmax (0:Int) ((toldV (1+4*bg) es)-y88))→((toldL (1+4*bg) (Int.tmod bs 30) es wr).length≤1000)∧(false=true→(toldL (1+4*bg) (Int.tmod bs 30) es wr)=[])∧(((List.length (toldL (1+4*bg) (Int.tmod bs 30) es wr))+(List.length [((3:Int),y89)]))*16≤70368744177664)∧(((toldL (1+4*bg) (Int.tmod bs 30) es wr)++[((3:Int),y89)]).length≤1000)∧((wh=wh∧(1+4*bg)=(1+4*bg)∧(Int.tmod bs 30)=(Int.tmod bs 30)∧True∧True∧(toldV (1+4*bg) es)=(toldV (1+4*bg) es)∧True∧True∧(bookErr (1+4*bg) y73 d3.1)=(bookErr (1+4*bg) y73 d3.1)∧True∧(bookErr (1+4*bg) (Int.tmod bs 30) d3.1)=(bookErr (1+4*bg) (Int.tmod bs 30) d3.1)∧True∧(bookErr (1+4*bg) (Int.tmod bs 30) ((toldL (1+4*bg) (Int.tmod bs 30) es wr)++[((3:Int),y89)]))=(bookErr (1+4*bg) (Int.tmod bs 30) ((toldL (1+4*bg) (Int.tmod bs 30) es wr)++[((3:Int),y75)]))∧True)∧((((bookSp (1+4*bg) (Int.tmod bs 30) (toldL (1+4*bg) (Int.tmod bs 30) es wr)).1)=((bookSp (1+4*bg) (Int.tmod bs 30) (toldL (1+4*bg) (Int.tmod bs 30) es wr)).1)∧((bookSp (1+4*bg) (Int.tmod bs 30) (toldL (1+4*bg) (Int.tmod bs 30) es wr)).2)=((bookSp (1+4*bg) (Int.tmod bs 30) (toldL (1+4*bg) (Int.tmod bs 30) es wr)).2)∧(([]:List SV)=[]))∧(((bookSp (1+4*bg) (0:Int) d3.1).1)=((bookSp (1+4*bg) (0:Int) d3.1).1)∧((bookSp (1+4*bg) (0:Int) d3.1).2)=((bookSp (1+4*bg) (0:Int) d3.1).2)∧(([]:List SV)=[]))∧(((bookSp (1+4*bg) y73 d3.1).1)=((bookSp (1+4*bg) y73 d3.1).1)∧((bookSp (1+4*bg) y73 d3.1).2)=((bookSp (1+4*bg) y73 d3.1).2)∧(([]:List SV)=[]))∧(((bookSp (1+4*bg) (Int.tmod bs 30) d3.1).1)=((bookSp (1+4*bg) (Int.tmod bs 30) d3.1).1)∧((bookSp (1+4*bg) (Int.tmod bs 30) d3.1).2)=((bookSp (1+4*bg) (Int.tmod bs 30) d3.1).2)∧(([]:List SV)=[]))∧(((bookSp (1+4*bg) (Int.tmod bs 30) ((toldL (1+4*bg) (Int.tmod bs 30) es wr)++[((3:Int),y89)])).1)=((bookSp (1+4*bg) (Int.tmod bs 30) ((toldL (1+4*bg) (Int.tmod bs 30) es wr)++[((3:Int),y75)])).1)∧((bookSp (1+4*bg) (Int.tmod bs 30) ((toldL (1+4*bg) (Int.tmod bs 30) es wr)++[((3:Int),y89)])).2)=((bookSp (1+4*bg) (Int.tmod bs 30) ((toldL (1+4*bg) (Int.tmod bs 30) es wr)++[((3:Int),y75)])).2)∧(([]:List SV)=[]))∧((toldL (1+4*bg) (Int.tmod bs 30) es wr)=(toldL (1+4*bg) (Int.tmod bs 30) es wr)∧false=false)∧(d3.1=d3.1∧false=false)∧(d3.1=d3.1∧false=false)∧(d3.1=d3.1∧false=false)∧(d3.1=d3.1∧false=false)∧(((toldL (1+4*bg) (Int.tmod bs 30) es wr)++[((3:Int),y89)])=((toldL (1+4*bg) (Int.tmod bs 30) es wr)++[((3:Int),y75)])∧false=false)∧([((3:Int),y89)]=[((3:Int),y75)]∧false=false)∧((toldW (1+4*bg) es)=(toldW (1+4*bg) es)∧false=false)∧True)))∧((I64 mo)∧(I64 ((Int.tmod bs 30)+(1:Int)))∧(((Int.tmod bs 30)+(1:Int))≠0)∧∀ (y90:Int),y90=(Int.tmod mo ((Int.tmod bs 30)+(1:Int)))→(I64 ((toldV (1+4*bg) es)-y90))∧∀ (y91:Int),y91=(gmax (0:Int) ((toldV (1+4*bg) es)-y90))→((toldL (1+4*bg) (Int.tmod bs 30) es wr).length≤1000)∧(false=true→(toldL (1+4*bg) (Int.tmod bs 30) es wr)=[])∧(((List.length (toldL (1+4*bg) (Int.tmod bs 30) es wr))+(List.length [((3:Int),y91)]))*16≤70368744177664)∧(((toldL (1+4*bg) (Int.tmod bs 30) es wr)++[((3:Int),y91)]).length≤1000)∧((wh=wh∧(1+4*bg)=(1+4*bg)∧(Int.tmod bs 30)=(Int.tmod bs 30)∧True∧True∧(toldV (1+4*bg) es)=(toldV (1+4*bg) es)∧True∧True∧(bookErr (1+4*bg) y73 d3.1)=(bookErr (1+4*bg) y73 d3.1)∧True∧(bookErr (1+4*bg) (Int.tmod bs 30) d3.1)=(bookErr (1+4*bg) (Int.tmod bs 30) d3.1)∧True∧(bookErr (1+4*bg) (Int.tmod bs 30) ((toldL (1+4*bg) (Int.tmod bs 30) es wr)++[((3:Int),y91)]))=(bookErr (1+4*bg) (Int.tmod bs 30) ((toldL (1+4*bg) (Int.tmod bs 30) es wr)++[((3:Int),y75)]))∧True)∧((((bookSp (1+4*bg) (Int.tmod bs 30) (toldL (1+4*bg) (Int.tmod bs 30) es wr)).1)=((bookSp (1+4*bg) (Int.tmod bs 30) (toldL (1+4*bg) (Int.tmod bs 30) es wr)).1)∧((bookSp (1+4*bg) (Int.tmod bs 30) (toldL (1+4*bg) (Int.tmod bs 30) es wr)).2)=((bookSp (1+4*bg) (Int.tmod bs 30) (toldL (1+4*bg) (Int.tmod bs 30) es wr)).2)∧(([]:List SV)=[]))∧(((bookSp (1+4*bg) (0:Int) d3.1).1)=((bookSp (1+4*bg) (0:Int) d3.1).1)∧((bookSp (1+4*bg) (0:Int) d3.1).2)=((bookSp (1+4*bg) (0:Int) d3.1).2)∧(([]:List SV)=[]))∧(((bookSp (1+4*bg) y73 d3.1).1)=((bookSp (1+4*bg) y73 d3.1).1)∧((bookSp (1+4*bg) y73 d3.1).2)=((bookSp (1+4*bg) y73 d3.1).2)∧(([]:List SV)=[]))∧(((bookSp (1+4*bg) (Int.tmod bs 30) d3.1).1)=((bookSp (1+4*bg) (Int.tmod bs 30) d3.1).1)∧((bookSp (1+4*bg) (Int.tmod bs 30) d3.1).2)=((bookSp (1+4*bg) (Int.tmod bs 30) d3.1).2)∧(([]:List SV)=[]))∧(((bookSp (1+4*bg) (Int.tmod bs 30) ((toldL (1+4*bg) (Int.tmod bs 30) es wr)++[((3:Int),y91)])).1)=((bookSp (1+4*bg) (Int.tmod bs 30) ((toldL (1+4*bg) (Int.tmod bs 30) es wr)++[((3:Int),y75)])).1)∧((bookSp (1+4*bg) (Int.tmod bs 30) ((toldL (1+4*bg) (Int.tmod bs 30) es wr)++[((3:Int),y91)])).2)=((bookSp (1+4*bg) (Int.tmod bs 30) ((toldL (1+4*bg) (Int.tmod bs 30) es wr)++[((3:Int),y75)])).2)∧(([]:List SV)=[]))∧((toldL (1+4*bg) (Int.tmod bs 30) es wr)=(toldL (1+4*bg) (Int.tmod bs 30) es wr)∧false=false)∧(d3.1=d3.1∧false=false)∧(d3.1=d3.1∧false=false)∧(d3.1=d3.1∧false=false)∧(d3.1=d3.1∧false=false)∧(((toldL (1+4*bg) (Int.tmod bs 30) es wr)++[((3:Int),y91)])=((toldL (1+4*bg) (Int.tmod bs 30) es wr)++[((3:Int),y75)])∧false=false)∧([((3:Int),y91)]=[((3:Int),y75)]∧false=false)∧((toldW (1+4*bg) es)=(toldW (1+4*bg) es)∧false=false)∧True)))∧((I64 mo)∧(I64 ((Int.tmod bs 30)+(1:Int)))∧(((Int.tmod bs 30)+(1:Int))≠0)∧∀ (y92:Int),y92=(Int.tmod mo ((Int.tmod bs 30)+(1:Int)))→(I64 ((toldV (1+4*bg) es)-y92))∧∀ (y93:Int),y93=(gmax (0:Int) ((toldV (1+4*bg) es)-y92))→((toldL (1+4*bg) (Int.tmod bs 30) es wr).length≤1000)∧(false=true→(toldL (1+4*bg) (Int.tmod bs 30) es wr)=[])∧(((List.length (toldL (1+4*bg) (Int.tmod bs 30) es wr))+(List.length [((3:Int),y93)]))*16≤70368744177664)∧(((toldL (1+4*bg) (Int.tmod bs 30) es wr)++[((3:Int),y93)]).length≤1000)∧((wh=wh∧(1+4*bg)=(1+4*bg)∧(Int.tmod bs 30)=(Int.tmod bs 30)∧True∧True∧(toldV (1+4*bg) es)=(toldV (1+4*bg) es)∧True∧True∧(bookErr (1+4*bg) y73 d3.1)=(bookErr (1+4*bg) y73 d3.1)∧True∧(bookErr (1+4*bg) (Int.tmod bs 30) d3.1)=(bookErr (1+4*bg) (Int.tmod bs 30) d3.1)∧True∧(bookErr (1+4*bg) (Int.tmod bs 30) ((toldL (1+4*bg) (Int.tmod bs 30) es wr)++[((3:Int),y93)]))=(bookErr (1+4*bg) (Int.tmod bs 30) ((toldL (1+4*bg) (Int.tmod bs 30) es wr)++[((3:Int),y75)]))∧True)∧((((bookSp (1+4*bg) (Int.tmod bs 30) (toldL (1+4*bg) (Int.tmod bs 30) es wr)).1)=((bookSp (1+4*bg) (Int.tmod bs 30) (toldL (1+4*bg) (Int.tmod bs 30) es wr)).1)∧((bookSp (1+4*bg) (Int.tmod bs 30) (toldL (1+4*bg) (Int.tmod bs 30) es wr)).2)=((bookSp (1+4*bg) (Int.tmod bs 30) (toldL (1+4*bg) (Int.tmod bs 30) es wr)).2)∧(([]:List SV)=[]))∧(((bookSp (1+4*bg) (0:Int) d3.1).1)=((bookSp (1+4*bg) (0:Int) d3.1).1)∧((bookSp (1+4*bg) (0:Int) d3.1).2)=((bookSp (1+4*bg) (0:Int) d3.1).2)∧(([]:List SV)=[]))∧(((bookSp (1+4*bg) y73 d3.1).1)=((bookSp (1+4*bg) y73 d3.1).1)∧((bookSp (1+4*bg) y73 d3.1).2)=((bookSp (1+4*bg) y73 d3.1).2)∧(([]:List SV)=[]))∧(((bookSp (1+4*bg) (Int.tmod bs 30) d3.1).1)=((bookSp (1+4*bg) (Int.tmod bs 30) d3.1).1)∧((bookSp (1+4*bg) (Int.tmod bs 30) d3.1).2)=((bookSp (1+4*bg) (Int.tmod bs 30) d3.1).2)∧(([]:List SV)=[]))∧(((bookSp (1+4*bg) (Int.tmod bs 30) ((toldL (1+4*bg) (Int.tmod bs 30) es wr)++[((3:Int),y93)])).1)=((bookSp (1+4*bg) (Int.tmod bs 30) ((toldL (1+4*bg) (Int.tmod bs 30) es wr)++[((3:Int),y75)])).1)∧((bookSp (1+4*bg) (Int.tmod bs 30) ((toldL (1+4*bg) (Int.tmod bs 30) es wr)++[((3:Int),y93)])).2)=((bookSp (1+4*bg) (Int.tmod bs 30) ((toldL (1+4*bg) (Int.tmod bs 30) es wr)++[((3:Int),y75)])).2)∧(([]:List SV)=[]))∧((toldL (1+4*bg) (Int.tmod bs 30) es wr)=(toldL (1+4*bg) (Int.tmod bs 30) es wr)∧false=false)∧(d3.1=d3.1∧false=false)∧(d3.1=d3.1∧false=false)∧(d3.1=d3.1∧false=false)∧(d3.1=d3.1∧false=false)∧(((toldL (1+4*bg) (Int.tmod bs 30) es wr)++[((3:Int),y93)])=((toldL (1+4*bg) (Int.tmod bs 30) es wr)++[((3:Int),y75)])∧false=false)∧([((3:Int),y93)]=[((3:Int),y75)]∧false=false)∧((toldW (1+4*bg) es)=(toldW (1+4*bg) es)∧false=false)∧True)))∧∀ (y94:Bool),y94=((bookErr (1+4*bg) y73 d3.1) != (0:Int))→∀ (y95:Bool),y95=((bookErr (1+4*bg) (Int.tmod bs 30) d3.1) != (0:Int))→∀ (y96:Bool),y96=(y94||y95)→∀ (y97:Bool),y97=((bookErr (1+4*bg) (Int.tmod bs 30) ((toldL (1+4*bg) (Int.tmod bs 30) es wr)++[((3:Int),y75)])) != (0:Int))→∀ (y98:Bool),y98=(y96||y97)→∀ (y99:Bool),y99=(decide (((bookSp (1+4*bg) y73 d3.1).1)<((bookSp (1+4*bg) (Int.tmod bs 30) d3.1).1)))→∀ (y100:Bool),y100=(y98||y99)→∀ (y101:Bool),y101=(decide (((bookSp (1+4*bg) y73 d3.1).2) > ((bookSp (1+4*bg) (Int.tmod bs 30) d3.1).2)))→∀ (y102:Bool),y102=(y100||y101)→∀ (y103:Bool),y103=(decide (((bookSp (1+4*bg) (Int.tmod bs 30) ((toldL (1+4*bg) (Int.tmod bs 30) es wr)++[((3:Int),y75)])).1)<((bookSp (1+4*bg) (Int.tmod bs 30) (toldL (1+4*bg) (Int.tmod bs 30) es wr)).1)))→∀ (y104:Bool),y104=(y102||y103)→∀ (y105:Bool),y105=(decide (((bookSp (1+4*bg) (Int.tmod bs 30) ((toldL (1+4*bg) (Int.tmod bs 30) es wr)++[((3:Int),y75)])).2) > ((bookSp (1+4*bg) (Int.tmod bs 30) (toldL (1+4*bg) (Int.tmod bs 30) es wr)).2)))→∀ (y106:Bool),y106=(y104||y105)→(y106=true →
      (false=true∧(True))) ∧
     (y106=false →
      ∀ (y107:Bool),y107=((lI (toldL (1+4*bg) (Int.tmod bs 30) es wr))==(0:Int))→(y107=true →
       (True)∧∀ (y108:Bool),y108=((((bookSp (1+4*bg) (Int.tmod bs 30) (toldL (1+4*bg) (Int.tmod bs 30) es wr)).1)==(1+4*bg))&&(((bookSp (1+4*bg) (Int.tmod bs 30) (toldL (1+4*bg) (Int.tmod bs 30) es wr)).2)==(1+4*bg)))→(y108=true→True)∧∀ (y109:Bool),y109=(y108&&true)→(y109=true∧(True))) ∧
      (y107=false →
       (I64 wh)∧((lI (toldL (1+4*bg) (Int.tmod bs 30) es wr))≠0)∧∀ (y110:Int),y110=(Int.tmod wh (lI (toldL (1+4*bg) (Int.tmod bs 30) es wr)))→((toldL (1+4*bg) (Int.tmod bs 30) es wr).length≤1000)∧(((List.length (toldL (1+4*bg) (Int.tmod bs 30) es wr))+(List.length [((3:Int),(toldV (1+4*bg) es))]))*16≤70368744177664)∧(((toldL (1+4*bg) (Int.tmod bs 30) es wr)++[((3:Int),(toldV (1+4*bg) es))]).length≤1000)∧((toldL (1+4*bg) (Int.tmod bs 30) es wr).length≤1000)∧∀ (y111:Bool),y111=((wasErr (1+4*bg) (Int.tmod bs 30) ((toldL (1+4*bg) (Int.tmod bs 30) es wr)++[((3:Int),(toldV (1+4*bg) es))]) y110)==(0:Int))→∀ (y112:Bool),y112=((wasErr (1+4*bg) (Int.tmod bs 30) (toldL (1+4*bg) (Int.tmod bs 30) es wr) y110)==(0:Int))→∀ (y113:Bool),y113=(y111&&y112)→∀ (y114:Bool),y114=(decide (((wasSp (1+4*bg) (Int.tmod bs 30) ((toldL (1+4*bg) (Int.tmod bs 30) es wr)++[((3:Int),(toldV (1+4*bg) es))]) y110).1)≥((wasSp (1+4*bg) (Int.tmod bs 30) (toldL (1+4*bg) (Int.tmod bs 30) es wr) y110).1)))→∀ (y115:Bool),y115=(y113&&y114)→∀ (y116:Bool),y116=(decide (((wasSp (1+4*bg) (Int.tmod bs 30) ((toldL (1+4*bg) (Int.tmod bs 30) es wr)++[((3:Int),(toldV (1+4*bg) es))]) y110).2)≤((wasSp (1+4*bg) (Int.tmod bs 30) (toldL (1+4*bg) (Int.tmod bs 30) es wr) y110).2)))→∀ (y117:Bool),y117=(y115&&y116)→(y117=true→0≤y110)∧(y117=true→y110<(List.length (toldW (1+4*bg) es)))∧∀ (y118:Int),y118=(gD (toldW (1+4*bg) es) y110 0)→∀ (y119:Bool),y119=(decide (y118≥((wasSp (1+4*bg) (Int.tmod bs 30) ((toldL (1+4*bg) (Int.tmod bs 30) es wr)++[((3:Int),(toldV (1+4*bg) es))]) y110).1)))→∀ (y120:Bool),y120=(y117&&y119)→(y120=true→0≤y110)∧(y120=true→y110<(List.length (toldW (1+4*bg) es)))∧∀ (y121:Int),y121=(gD (toldW (1+4*bg) es) y110 0)→∀ (y122:Bool),y122=(decide (y121≤((wasSp (1+4*bg) (Int.tmod bs 30) ((toldL (1+4*bg) (Int.tmod bs 30) es wr)++[((3:Int),(toldV (1+4*bg) es))]) y110).2)))→∀ (y123:Bool),y123=(y120&&y122)→(y123=true→True)∧∀ (y124:Bool),y124=(y123&&true)→(y124=true∧(True))))))) d30)
def cx_law09_ShadeGram:Cx:=⟨[(42,(.pair (.i .i64) (.i .i64)))],[(4,s_law09_Scales_told),(6,s_law09_entries),(5,s_shade_Book),(7,s_shade_Scale),(8,s_shade_Was),(9,s_law09_span),(10,s_law09_known)],346,[],0,[],[],[],[1,7,8,9,10,11,12,26,28,29,31,32,229],true,[],[],[]⟩
def lp_law09_ShadeGram (bg:Int) (bs:Int) (es:List (Int×Int)) (wr:List Int) (wh:Int) (mo:Int):List (Nat×LoopAnn):=[(0,⟨Unit,(List (Int×Int))×Int×Int×Int,[1,2,7,8,9,10,11,12,17,18,19,20],fun e x=>[.val (.i .u8) wh,.val (.i .u8) mo,.val (.i .i64) (1+4*bg),.val (.i .i64) (Int.tmod bs 30),.lst 42,.lst 388,.val (.i .i64) (toldV (1+4*bg) es),.box 12 0,.lst 97,.val (.i .i64) x.2.1,.val (.i .i64) x.2.2.1,.val (.i .i64) x.2.2.2],fun e x=>[(42,.slot 9,.lst 42 (.pair (.i .i64) (.i .i64)) (toldL (1+4*bg) (Int.tmod bs 30) es wr) false),(388,.slot 10,.lst 3 (.i .i64) (toldW (1+4*bg) es) false),(12,.slot 12,.cells [.val (.i .i64) ((bookSp (1+4*bg) (Int.tmod bs 30) (toldL (1+4*bg) (Int.tmod bs 30) es wr)).1),.val (.i .i64) ((bookSp (1+4*bg) (Int.tmod bs 30) (toldL (1+4*bg) (Int.tmod bs 30) es wr)).2)] (some 31)),(97,.slot 17,.lst 42 (.pair (.i .i64) (.i .i64)) x.1 false)]⟩)]
set_option maxRecDepth 100000 in
theorem vq_law09_ShadeGram (d:(Int×Int×(List (Int×Int))×List Int)×Int×Int):gwp (cx_law09_ShadeGram) (lp_law09_ShadeGram d.1.1 d.1.2.1 d.1.2.2.1 d.1.2.2.2 d.2.1 d.2.2) c3 0 (gend [.tmp 6] (res_law09_ShadeGram d) (obs_law09_ShadeGram d)) (gstart 346 (AL.can al_law09_ShadeGram d))=vc_law09_ShadeGram d.1.1 d.1.2.1 d.1.2.2.1 d.1.2.2.2 d.2.1 d.2.2:=by kernel_rfl
abbrev Ok_law09_ShadeGram:Prop:=OkC Tryd.prog 3 s_law09_ShadeGram
theorem mk_law09_ShadeGram (h:∀ (bg:Int) (bs:Int) (es:List (Int×Int)) (wr:List Int) (wh:Int) (mo:Int),(0≤bg∧bg≤255∧0≤bs∧bs≤255∧esOk es∧wrOk wr∧0≤wh∧wh≤255∧0≤mo∧mo≤255)→vc_law09_ShadeGram bg bs es wr wh mo):OkC Tryd.prog 3 s_law09_ShadeGram :=
 okC_vc fun3 mixed (C:=cx_law09_ShadeGram) (V:=fun (d:(Int×Int×(List (Int×Int))×List Int)×Int×Int)=>vc_law09_ShadeGram d.1.1 d.1.2.1 d.1.2.2.1 d.1.2.2.2 d.2.1 d.2.2) ⟨(.cons ok_law09_Scales_told (.cons ok_law09_entries (.cons ok_shade_Book (.cons ok_shade_Scale (.cons ok_shade_Was (.cons ok_law09_span (.cons ok_law09_known .nil))))))),XsOk.nil,ItsOk.nil,YlOk.nil,IysOk.nil⟩ (vq_law09_ShadeGram) fun d hp=>h d.1.1 d.1.2.1 d.1.2.2.1 d.1.2.2.2 d.2.1 d.2.2 hp
end Go.Proofs.Tryd
set_option linter.unusedVariables false
namespace Go.Proofs.Tryd
open Go Go.V Go.Proofs
theorem ok_law09_ShadeGram:Ok_law09_ShadeGram:=mk_law09_ShadeGram fun bg bs es wr wh mo h=>by
 obtain⟨p1,p2,p3,p4,he,hw,w1,w2,m1,m2⟩:=h
 unfold vc_law09_ShadeGram;(try delta lI gD sT I64)
 have s1:=Int.tmod_nonneg 30 p3
 have s2:=Int.tmod_lt_of_pos bs (show (0:Int)<30 by omega)
 refine⟨⟨p1,p2,p3,p4,he,hw⟩,?_⟩
 generalize Int.tmod bs 30=s at s1 s2 ⊢
 have g1:1≤1+4*bg∧1+4*bg≤1021:=by omega
 generalize 1+4*bg=g at g1 ⊢
 have hN:toldN es≤12:=by unfold toldN;omega
 have hBk:bookOk g s (toldL g s es wr):=book_told g1 ⟨s1,by omega⟩ he hN
 have hTr:Truth g s (toldL g s es wr) (toldW g es):=told_truth g1 ⟨s1,by omega⟩ he hN
 have hL12:(toldL g s es wr).length≤12:=by unfold toldL;rw[tLk_len];exact hN
 have hW:∀ j,j<(toldL g s es wr).length→0≤(toldW g es).getD j 0∧(toldW g es).getD j 0≤5000:=fun j hj=>by
  unfold toldL at hj
  rw[tLk_len] at hj
  unfold toldW
  rw[tWk_at hj]
  have:=tW_bd (g:=g) (by omega) he j
  omega
 have hV:vT g (toldL g s es wr) (toldW g es) (toldL g s es wr).length=toldV g es:=by
  unfold toldL toldW toldV
  rw[tLk_len]
  exact told_vT (Nat.le_refl _)
 have hV2:0≤toldV g es∧toldV g es≤5000:=by
  have:=tG_bd (g:=g) (by omega) he (toldN es)
  unfold toldV;omega
 generalize toldL g s es wr=L at *
 generalize toldW g es=W at *
 generalize toldV g es=V at *
 obtain⟨b1,b2,b3,b4⟩:=truth_book hBk hTr
 obtain⟨c1,c2,c3⟩:=truth_scale hBk hTr
 have hWl:=hTr.wl
 rw[hV] at b3
 unfold InB at b3
 simp only[b1,c1,true_and,and_true,eq_self_iff_true,exists_eq_left',exists_const,decide_eq_true_eq,decide_eq_false_iff_not,beq_iff_eq,bne_iff_ne,ne_eq,beq_eq_false_iff_ne,bne_eq_false_iff_eq,Bool.not_eq_true',Bool.not_eq_false',Bool.not_eq_true,Bool.not_eq_false,Int.toNat_natCast,Int.ofNat_lt,gt_iff_lt,ge_iff_le,forall_eq,true_implies,false_implies,Bool.false_eq_true,Bool.or_self,Bool.and_self,Bool.or_false,Bool.false_or,Bool.or_true,Bool.true_or,Bool.and_false,Bool.false_and,Bool.and_true,Bool.true_and,Bool.not_true,Bool.not_false,implies_true,forall_const,decide_false,decide_true,not_false_eq_true,not_true_eq_false]
 refine⟨by omega,by omega,by omega,by omega,fun h=>?_,fun _=>⟨by omega,(L,0,0,0),⟨⟨rfl,rfl,rfl⟩,rfl⟩,?_⟩⟩
 ·simp at h;omega
 refine LoopP.count4 L.length (fun k Rt out back=>Rt.length=L.length∧(∀ j,j<L.length→Rt.getD j (0,0)=if j<k then ((L.getD j (0,0)).1,W.getD j 0) else L.getD j (0,0))∧0≤out∧out≤5000*(k:Int)∧0≤back∧back≤5000*(k:Int)∧g-out+back=vT g L W k) ⟨rfl,fun j _=>by rw[if_neg (by omega)],by omega,by omega,by omega,by omega,by unfold vT;omega⟩ fun k Rt out back hk hJ q hq=>?_
 obtain⟨j1,j2,j3,j4,j5,j6,j7⟩:=hJ
 dsimp only
 simp only[Int.toNat_natCast]
 refine⟨fun hlt=>?_,fun hge=>?_⟩
 ·have hkl:k<L.length:=by omega
  obtain⟨d1,d2,d3⟩:=truth_wasOf hBk hTr hkl
  unfold InB at d3
  have hWk:=hW k hkl
  have hRk:Rt.getD k (0,0)=L.getD k (0,0):=by rw[j2 k hkl,if_neg (by omega)]
  have hset:∀ j,j<L.length→(Rt.set k ((L.getD k (0,0)).1,W.getD k 0)).getD j (0,0)=if j<k+1 then ((L.getD j (0,0)).1,W.getD j 0) else L.getD j (0,0):=fun j hj=>by
   rw[List.getD_eq_getElem?_getD,List.getElem?_set]
   by_cases h:k=j
   ·subst h
    rw[if_pos rfl,if_pos (by omega),if_pos (by omega)];rfl
   ·rw[if_neg h,←List.getD_eq_getElem?_getD,j2 j hj]
    by_cases h6:j<k
    ·rw[if_pos h6,if_pos (by omega)]
    ·rw[if_neg h6,if_neg (by omega)]
  have hvT:vT g L W (k+1)=stepT (vT g L W k) (L.getD k (0,0)) (W.getD k 0):=rfl
  have fin:∀ o b:Int,0≤o→o≤5000*(k:Int)+5000→0≤b→b≤5000*(k:Int)+5000→g-o+b=vT g L W (k+1)→q (Rt.set k ((L.getD k (0,0)).1,W.getD k 0),o,b,(k:Int)+1):=fun o b a1 a2 a3 a4 a5 =>
   hq _ _ _ hkl ⟨by rw[List.length_set];exact j1,hset,a1,by omega,a3,by omega,a5⟩
  simp only[d1,hRk]
  refine⟨by omega,by omega,fun _=>by omega,fun _=>by omega,fun _=>by omega,fun _=>by omega,fun h=>?_,fun _=>⟨by omega,by omega,by omega,by omega,by omega,hlt,fun e1=>⟨by omega,by omega,by rw[InK_i64];omega,by omega,hlt,fun e2=>(show False by omega).elim,fun e2=>⟨by rw[InK_i64];omega,(_,_,_,_),⟨⟨rfl,rfl,rfl⟩,rfl⟩,fin _ _ (by omega) (by omega) (by omega) (by omega) ?_⟩⟩,fun e1=>⟨by omega,hlt,fun e2=>⟨by omega,by omega,by rw[InK_i64];omega,by rw[InK_i64];omega,(_,_,_,_),⟨⟨rfl,rfl,rfl⟩,rfl⟩,fin _ _ (by omega) (by omega) (by omega) (by omega) ?_⟩,fun e2=>⟨by rw[InK_i64];omega,(_,_,_,_),⟨⟨rfl,rfl,rfl⟩,rfl⟩,fin _ _ (by omega) (by omega) (by omega) (by omega) ?_⟩⟩⟩⟩
  ·simp only[bne_self_eq_false,Bool.false_or,Bool.or_eq_true,decide_eq_true_eq] at h;omega
  ·rw[hvT];unfold stepT;rw[if_pos e1];omega
  ·rw[hvT];unfold stepT;rw[if_neg e1,if_pos e2];omega
  ·rw[hvT];unfold stepT;rw[if_neg e1,if_neg e2];omega
 have hke:k=L.length:=by omega
 subst hke
 rw[hV] at j7
 have hRj:∀ j,j<L.length→Rt.getD j (0,0)=((L.getD j (0,0)).1,W.getD j 0):=fun j hj=>by rw[j2 j hj,if_pos hj]
 have hW0:∀ j,j<L.length→0≤W.getD j 0:=fun j hj=>(hW j hj).1
 have hd:0≤Int.tdiv s 2∧Int.tdiv s 2≤s:=by rw[Int.tdiv_eq_ediv_of_nonneg s1];omega
 obtain⟨t0,v0⟩:=right_truth (s':=0) hTr (by omega) hW0 j1 hRj
 obtain⟨t2,_⟩:=right_truth (s':=Int.tdiv s 2) hTr hd.1 hW0 j1 hRj
 obtain⟨t1,_⟩:=right_truth (s':=s) hTr s1 hW0 j1 hRj
 have k0:=right_ok (s':=0) hBk (by omega) hW j1 hRj
 have k2:=right_ok (s':=Int.tdiv s 2) hBk (by omega) hW j1 hRj
 have k1:=right_ok (s':=s) hBk (by omega) hW j1 hRj
 obtain⟨x0,y0,_⟩:=truth_book k0 t0
 obtain⟨x1,y1,_⟩:=truth_book k1 t1
 obtain⟨x2,y2,_⟩:=truth_book k2 t2
 have hex:=exact_st t0 L.length (by omega) (fun j hj=>by rw[hRj j (by omega)]) (fun j hj=>hW0 j (by omega))
 rw[v0 _ (Nat.le_refl _),hV] at hex
 have y0':bookSp g 0 Rt=(V,V):=by rw[y0,j1,hex]
 have hsub:=stB_mono (g:=g) (l:=Rt) (s:=Int.tdiv s 2) (s':=s) hd Rt.length (Nat.le_refl _)
 rw[←y1,←y2] at hsub
 unfold Sub at hsub
 have n1:=Int.tmod_nonneg (s+1) m1
 have n2:=Int.tmod_lt_of_pos mo (show (0:Int)<s+1 by omega)
 generalize Int.tmod mo (s+1)=m at n1 n2 ⊢
 have hy:gmax 0 (V-m)=max 0 (V-m):=gmax_eq _ _
 generalize gmax 0 (V-m)=y at hy ⊢
 have tm:=more_truth (y:=y) hTr hV (by rw[gmax_eq];omega)
 have km:=more_ok (y:=y) hBk hL12 (by omega)
 obtain⟨xm,ym,_⟩:=truth_book km tm
 have hms:=more_sub (g:=g) (s:=s) (y:=y) (L:=L)
 rw[←ym,←b2] at hms
 unfold Sub at hms
 generalize hsd:Int.tdiv s 2=sd at *
 simp only[x0,x1,x2,xm,y0',j7,List.length_append,List.length_cons,List.length_nil,j1]
 have im:InK .i64 mo:=by rw[InK_i64];omega
 have is:InK .i64 (s+1):=by rw[InK_i64];omega
 have iv:InK .i64 (V-m):=by rw[InK_i64];omega
 have i0:¬ s+1=0:=by omega
 have il:L.length≤1000:=by omega
 have il2:(L.length+(0+1))*16≤70368744177664:=by omega
 have il3:L.length+(0+1)≤1000:=by omega
 refine⟨il,il,fun _=>by rw[InK_i64];omega,fun _=>by rw[InK_i64];omega,(fun h=>by simp at h),fun _=>⟨by decide,by rw[InK_i64];omega,il,il,il,il,il,im,is,i0,iv,il2,il3,⟨il,im,is,i0,iv,il2,il3⟩,⟨il,im,is,i0,iv,il2,il3⟩,⟨il,im,is,i0,iv,il2,il3⟩,⟨im,is,i0,iv,il,il2,il3⟩,⟨im,is,i0,iv,il,il2,il3⟩,⟨im,is,i0,iv,il,il2,il3⟩,⟨im,is,i0,iv,il,il2,il3⟩,⟨im,is,i0,iv,il,il2,il3⟩,⟨im,is,i0,iv,il,il2,il3⟩,fun h=>?_,fun _=>?_⟩⟩
 ·simp only[bne_self_eq_false,Bool.false_or,Bool.or_eq_true,decide_eq_true_eq] at h;omega
 refine⟨fun h0=>?_,fun h0=>?_⟩
 ·have hl0:L.length=0:=by omega
  have e:bookSp g s L=(g,g):=by rw[b2,hl0];rfl
  rw[e];simp
 have q1:=Int.tmod_nonneg (L.length:Int) w1
 have q2:=Int.tmod_lt_of_pos wh (show (0:Int)<L.length by omega)
 generalize Int.tmod wh (L.length:Int)=kI at q1 q2 ⊢
 obtain⟨k,rfl⟩:=Int.eq_ofNat_of_zero_le q1
 have hk2:k<L.length:=by omega
 have tv:=more_truth (y:=V) hTr hV (by rw[gmax_eq];omega)
 have kv:=more_ok (y:=V) hBk hL12 (by omega)
 obtain⟨d1,d2,d3⟩:=truth_wasOf hBk hTr hk2
 obtain⟨f1,f2,f3⟩:=truth_wasOf kv tv (show k<(L++[((3:Int),V)]).length by simp;omega)
 have hmo:=was_more (g:=g) (s:=s) (l:=L) (y:=(3,V)) (k:=k) s1 ⟨(show ¬ ((3:Int)=1) by decide),(show ¬ ((3:Int)=2) by decide)⟩ hk2
 rw[←d2,←f2] at hmo
 rw[getD_snoc (by omega)] at f3
 unfold InB at f3
 unfold Sub at hmo
 simp only[d1,f1,Int.toNat_natCast,beq_self_eq_true,Bool.true_and]
 refine⟨by rw[InK_i64];omega,by omega,il,il2,il3,il,fun _=>by omega,fun _=>by omega,fun _=>by omega,fun _=>by omega,?_⟩
 simp only[Bool.and_eq_true,decide_eq_true_eq]
 omega
end Go.Proofs.Tryd
set_option linter.unusedVariables false
namespace Go.Proofs.Tryd
open Go Go.V Go.Proofs
theorem esOk_of {l:List (Int×Int)} (h:KWf (.list (.pair (.i .u8) (.i .u8))) l):esOk l:=fun x hx=>by
 obtain⟨h1,h2⟩:=h.2 x hx
 have h1:=(InK_u8 x.1).1 h1
 have h2:=(InK_u8 x.2).1 h2
 exact⟨h1.1,h1.2,h2.1,h2.2⟩
theorem wrOk_of {l:List Int} (h:KWf (.list (.i .i8)) l):wrOk l:=fun x hx=>by
 have:=h.2 x hx
 exact⟨this.1,this.2⟩
theorem gramPre_of {x:(Int×Int×List (Int×Int)×List Int)×Int×Int} (h:AWf [.pair (.i .u8) (.pair (.i .u8) (.pair (.list (.pair (.i .u8) (.i .u8))) (.list (.i .i8)))),.i .u8,.i .u8] x):0≤x.1.1∧x.1.1≤255∧0≤x.1.2.1∧x.1.2.1≤255∧esOk x.1.2.2.1∧wrOk x.1.2.2.2∧0≤x.2.1∧x.2.1≤255∧0≤x.2.2∧x.2.2≤255:=by
 obtain⟨⟨h1,h2,h3,h4⟩,h5,h6⟩:=h
 have h1:=(InK_u8 x.1.1).1 h1
 have h2:=(InK_u8 x.1.2.1).1 h2
 have h5:=(InK_u8 x.2.1).1 h5
 have h6:=(InK_u8 x.2.2).1 h6
 exact⟨h1.1,h1.2,h2.1,h2.2,esOk_of h3,wrOk_of h4,h5.1,h5.2,h6.1,h6.2⟩
end Go.Proofs.Tryd