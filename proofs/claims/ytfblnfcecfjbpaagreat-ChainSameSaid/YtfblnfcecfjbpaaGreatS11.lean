/- A framework for walks, contracts of functions, and their proofs: part 11. -/
import Derived.Shelf.SlGeneric
import Derived.Shelf.Sort.Plain
import Derived.Ground.NamesProg
import Derived.Shelf.SlSortCmp.WholeK
import Derived.Shelf.SlicesG.Cmp
import Derived.Ground.SlsfProg
import Derived.Ground.SlgcProg
import Derived.Test.YtfblnfcecfjbpaaGreatProg
import Derived.Below
import Derived.Shelf.Spec.SlicesGrow
import Derived.Shelf.Slices.In.SortNone
import Derived.Test.YtfblnfcecfjbpaaGreatS10
set_option linter.unusedVariables false
set_option maxRecDepth 100000
namespace Go.Proofs.Tryz
open Go Go.V Go.Proofs
def MD:AL (Int×List Int):=(.one (.agg (.cons (.k (.i .i64)) (.one (.k (.list (.i .i64)))))))
def Ho (d:Int×List Int):Prop:=d.2.length<=1000
def NN (d:Int×List Int):SV:=.tup [.agg [.val (.i .i64) (Qc d.1 d.2),.lst 0],.val (.i .i64) (Xs d.1 d.2)]
def NW (d:Int×List Int):List OB:=[.lst 87 (.pair (.i .i64) (.pair (.i .i64) .bo)) (QH d.1 d.2) ((QH d.1 d.2).isEmpty)]
def Uc:CSp:=VU MD Ho NN NW
def Yg (hk:Int) (rows:List Int):Prop :=
 (True)/\((!(inI hk 1 24))=true ->
  ((((0:Int)=(Qc hk rows)/\True/\(([]:List SV)=[]))/\(2:Int)=(Xs hk rows)/\(([]:List SV)=[]))/\(((QH hk rows)=[]/\(QH hk rows).isEmpty=true)/\True))) /\
 ((!(inI hk 1 24))=false ->
  ((decide ((lI rows) > (60:Int)))=true ->
   ((((0:Int)=(Qc hk rows)/\True/\(([]:List SV)=[]))/\(5:Int)=(Xs hk rows)/\(([]:List SV)=[]))/\(((QH hk rows)=[]/\(QH hk rows).isEmpty=true)/\True))) /\
  ((decide ((lI rows) > (60:Int)))=false ->
   (((lI rows)==(0:Int))=true ->
    ((((0:Int)=(Qc hk rows)/\True/\(([]:List SV)=[]))/\(7:Int)=(Xs hk rows)/\(([]:List SV)=[]))/\(((QH hk rows)=[]/\(QH hk rows).isEmpty=true)/\True))) /\
   (((lI rows)==(0:Int))=false ->
    (1<=hk/\hk<=24/\rows.length<=1000000)/\((!(!(rows.any λn=>!inI n 0 (2 ^ hk.toNat-1))))=true ->
     ((((0:Int)=(Qc hk rows)/\True/\(([]:List SV)=[]))/\(2:Int)=(Xs hk rows)/\(([]:List SV)=[]))/\(((QH hk rows)=[]/\(QH hk rows).isEmpty=true)/\True))) /\
    ((!(!(rows.any λn=>!inI n 0 (2 ^ hk.toNat-1))))=false ->
     ∃ (e4:Unit) (d40:(List (Int×Int×Bool))×Int),((True/\rows=rows/\(lI rows)=(lI rows)/\(0:Int)=d40.2/\True)/\((hk=hk/\True/\(([]:List SV)=[]))/\(d40.1=[]/\(List.isEmpty d40.1)=true)/\True)) /\
     LoopP (λ(d4:(List (Int×Int×Bool))×Int) (q4:((List (Int×Int×Bool))×Int)->Prop) =>
      ((decide (d4.2<(lI rows)))=true ->
       (0<=d4.2)/\(d4.2<(List.length rows))/\(((List.length d4.1)+(List.length [(d4.2,((gD rows d4.2 0),false))]))*24<=70368744177664)/\(I64 (d4.2+(1:Int)))/\(∃ d5:(List (Int×Int×Bool))×Int,((True/\rows=rows/\(lI rows)=(lI rows)/\(d4.2+(1:Int))=d5.2/\True)/\((hk=hk/\True/\(([]:List SV)=[]))/\((d4.1++[(d4.2,((gD rows d4.2 0),false))])=d5.1/\false=(List.isEmpty d5.1))/\True))/\q4 d5)) /\
      ((decide (d4.2<(lI rows)))=false ->
       (((hk=(Qc hk rows)/\True/\(([]:List SV)=[]))/\(0:Int)=(Xs hk rows)/\(([]:List SV)=[]))/\((d4.1=(QH hk rows)/\(List.isEmpty d4.1)=(QH hk rows).isEmpty)/\True)))) d40))))
def MZ:Cx:=⟨[(87,(.pair (.i .i64) (.pair (.i .i64) .bo)))],[(87,QA),(102,Zl)],54,[],0,[],[],[],[],false,[],[],[],[]⟩
def Tj (hk:Int) (rows:List Int):List (Nat×LoopAnn):=[(1,⟨Unit,(List (Int×Int×Bool))×Int,[2,37,38,39],λe x=>[.box 2 0,.val (.list (.i .i64)) rows,.val (.i .i64) (((List.length rows):Nat):Int),.val (.i .i64) x.2],λe x=>[(2,.slot 2,.cells [.val (.i .i64) hk,.lst 50] (some 24)),(50,.cell 2 1,.lst 87 (.pair (.i .i64) (.pair (.i .i64) .bo)) x.1 (List.isEmpty x.1))]⟩)]
theorem TF (d:Int×List Int):gwp (MZ) (Tj d.1 d.2) c47 0 (UO [.cell 2 true 2,.tmp 3] (NN d) (NW d)) (Zd 54 (AL.can MD d))=Yg d.1 d.2:=by kernel_rfl
abbrev Tz:Prop:=OkC Tryz.prog 47 Uc
theorem T4 (h:∀ (hk:Int) (rows:List Int),(rows.length<=1000)->Yg hk rows):OkC Tryz.prog 47 Uc :=
 Zv Q6z mixed (C:=MZ) (V:=λ(d:Int×List Int)=>Yg d.1 d.2) ⟨(.cons QW (.cons JP .nil)),XsOk.nil,ItsOk.nil,YlOk.nil,IysOk.nil,XfOk.nil⟩ (TF) λd hp=>h d.1 d.2 hp
theorem Tm:Tz:=T4 λhk rows h=>by
 unfold Yg;(try delta lI gD sT I64 W5 pj8 pj4);simp only[true_and,and_true,Bool.not_not];refine⟨λc=>?_,λc=>⟨λc2=>?_,λc2=>⟨λc3=>?_,λc3=>⟨?_,λc4=>?_,λc4=>?_⟩⟩⟩⟩
 .exact Rz (by unfold Xs;rw[z7 c]) (by omega)
 .have c2:=zo c2;exact Rz (by unfold Xs;rw[z1 (by rw[c];decide),z7 (by omega)]) (by omega)
 .have c2:=zq c2;have c3:rows=[]:=List.eq_nil_of_length_eq_zero (by have:=zo c3;omega);exact Rz (by unfold Xs;rw[z1 (by rw[c];decide),z1 (by omega),z7 c3]) (by omega)
 .have c:=BK c;exact⟨c.1,c.2,by omega⟩
 .have c2:=zq c2;have c3:rows≠[]:=λe=>by rw[e] at c3;cases c3
  exact Rz (by unfold Xs;rw[z1 (by rw[c];decide),z1 (by omega),z1 c3,z7 c4]) (by omega)
 .have c2:=zq c2;have c3:rows≠[]:=λe=>by rw[e] at c3;cases c3
  have e0:Xs hk rows=0:=by unfold Xs;rw[z1 (by rw[c];decide),z1 (by omega),z1 c3,z1 (by rw[c4];decide)]
  have e1:Qc hk rows=hk:=by unfold Qc;rw[z7 e0]
  have e2:QH hk rows=Vh rows:=by unfold QH;rw[z7 e0]
  rw[e0,e1,e2];refine⟨(),([],0),(by and_intros<;>first|rfl|trivial),?_⟩;refine LoopP.count2 rows.length (λk l=>l=Q5e rows k) rfl ?_;rintro k l hk hJ q hq;subst hJ;dsimp only;simp only[zB];refine⟨λg=>?_,λg=>?_⟩
  .have g:k<rows.length:=by have:=zo g;omega
   have hl:=Q1o rows k;refine⟨by omega,by omega,by simp only[zS,List.length_nil];omega,by simp only[Qq];omega,(Q5e rows (k+1),(k:Int)+1),?_,hq _ g rfl⟩;rw[Q00];and_intros<;>first|rfl|trivial|simp
  .have g:k=rows.length:=by have:=zq g;omega
   subst g;exact(by and_intros<;>first|rfl|trivial|simp)
def Ks:AL ((Int×(List (Int×Int×Bool))×Int)×Int):=(.cons (.agg (.cons (.k (.i .i64)) (.cons (.k (.list (.pair (.i .i64) (.pair (.i .i64) .bo)))) (.one (.k (.i .i64)))))) (.one (.k (.i .i64))))
def Mt (d:(Int×(List (Int×Int×Bool))×Int)×Int):Prop:=1<=d.1.2.2/\d.1.2.2<=24/\0<=d.2/\d.2<d.1.2.1.length/\∀ c∈d.1.2.1,Zg d.1.2.2 c=true
def YI (d:(Int×(List (Int×Int×Bool))×Int)×Int):SV:=.val (.i .i64) (UW d.1.2.2 (d.1.2.1.getD d.2.toNat X2))
def YD (d:(Int×(List (Int×Int×Bool))×Int)×Int):List OB:=[]
def JR:CSp:=VU Ks Mt YI YD
def JG (hk:Int) (cs:List (Int×Int×Bool)) (f:Int) (at_:Int):Prop :=
 (0<=at_)/\(at_<(List.length cs))/\((gD cs at_ (0,(0,false))).2.2=true ->
  (1<=f/\f<=24/\0<=((gD cs at_ (0,(0,false))).2.1)/\((gD cs at_ (0,(0,false))).2.1)<2 ^ f.toNat)/\((FC f ((gD cs at_ (0,(0,false))).2.1))=(UW f (cs.getD at_.toNat X2))/\(True))) /\
 ((gD cs at_ (0,(0,false))).2.2=false ->
  (0<=at_)/\(at_<(List.length cs))/\((gD cs at_ (0,(0,false))).2.1=(UW f (cs.getD at_.toNat X2))/\(True)))
def Kd:Cx:=⟨[],[(137,Xv)],26,[],0,[],[],[],[],false,[],[],[],[]⟩
def Gr (hk:Int) (cs:List (Int×Int×Bool)) (f:Int) (at_:Int):List (Nat×LoopAnn):=[]
theorem Gl (d:(Int×(List (Int×Int×Bool))×Int)×Int):gwp (Kd) (Gr d.1.1 d.1.2.1 d.1.2.2 d.2) Z1u 0 (UO [.tmp 4] (YI d) (YD d)) (Zd 26 (AL.can Ks d))=JG d.1.1 d.1.2.1 d.1.2.2 d.2:=by kernel_rfl
abbrev Gp:Prop:=OkC Tryz.prog 104 JR
theorem Gf (h:∀ (hk:Int) (cs:List (Int×Int×Bool)) (f:Int) (at_:Int),(1<=f/\f<=24/\0<=at_/\at_<cs.length/\∀ c∈cs,Zg f c=true)->JG hk cs f at_):OkC Tryz.prog 104 JR :=
 Zv Iq mixed (C:=Kd) (V:=λ(d:(Int×(List (Int×Int×Bool))×Int)×Int)=>JG d.1.1 d.1.2.1 d.1.2.2 d.2) ⟨(.cons Nx .nil),XsOk.nil,ItsOk.nil,YlOk.nil,IysOk.nil,XfOk.nil⟩ (Gl) λd hp=>h d.1.1 d.1.2.1 d.1.2.2 d.2 hp
theorem KE:Gp:=Gf λhk cs f at_ h=>by
 obtain⟨h1,h2,h3,h4,h5⟩:=h;unfold JG;(try delta lI gD sT I64 W5 pj8 pj4);have hd:∀ j,cs.getD j (0,(0,false))=cs.getD j X2:=λ_=>rfl;have hj:at_.toNat<cs.length:=by omega
 have hc:=Fi (h5 _ (show cs.getD at_.toNat X2∈cs by rw[Qg hj];exact zp hj));simp only[hd,and_true];refine⟨h3,by omega,λc=>⟨⟨h1,h2,hc.1,hc.2⟩,?_⟩,λc=>⟨h3,by omega,?_⟩⟩
 .unfold UW;rw[z7 c]
 .unfold UW;rw[z1 (by rw[c];decide)]
def Ko:AL ((Int×(List (Int×Int×Bool))×Int)×Int×Int):=(.cons (.agg (.cons (.k (.i .i64)) (.cons (.k (.list (.pair (.i .i64) (.pair (.i .i64) .bo)))) (.one (.k (.i .i64)))))) (.cons (.k (.i .i64)) (.one (.k (.i .i64)))))
def Mv (d:(Int×(List (Int×Int×Bool))×Int)×Int×Int):Prop:=d.1.2.1≠[]/\d.1.2.1.length<=1000/\-1000000<=d.2.1/\d.2.1<=1000000/\-1000000<=d.2.2/\d.2.2<=1000000
def YC (d:(Int×(List (Int×Int×Bool))×Int)×Int×Int):SV:=.val (.i .i64) (Int.tmod (d.2.1+d.2.2) d.1.2.1.length)
def YG (d:(Int×(List (Int×Int×Bool))×Int)×Int×Int):List OB:=[]
def J1:CSp:=VU Ko Mv YC YG
def JE (hk:Int) (cs:List (Int×Int×Bool)) (f:Int) (at_:Int) (st:Int):Prop :=
 (I64 (at_+st))/\((lI cs)≠0)/\((Int.tmod (at_+st) (lI cs))=(Int.tmod (at_+st) cs.length)/\(True))
def Kb:Cx:=⟨[],[],15,[],0,[],[],[],[],false,[],[],[],[]⟩
def Gb (hk:Int) (cs:List (Int×Int×Bool)) (f:Int) (at_:Int) (st:Int):List (Nat×LoopAnn):=[]
theorem Gq (d:(Int×(List (Int×Int×Bool))×Int)×Int×Int):gwp (Kb) (Gb d.1.1 d.1.2.1 d.1.2.2 d.2.1 d.2.2) c78 0 (UO [.tmp 6] (YC d) (YG d)) (Zd 15 (AL.can Ko d))=JE d.1.1 d.1.2.1 d.1.2.2 d.2.1 d.2.2:=by kernel_rfl
abbrev Gs:Prop:=OkC Tryz.prog 78 J1
theorem G5 (h:∀ (hk:Int) (cs:List (Int×Int×Bool)) (f:Int) (at_:Int) (st:Int),(cs≠[]/\cs.length<=1000/\-1000000<=at_/\at_<=1000000/\-1000000<=st/\st<=1000000)->JE hk cs f at_ st):OkC Tryz.prog 78 J1 :=
 Zv Q5o mixed (C:=Kb) (V:=λ(d:(Int×(List (Int×Int×Bool))×Int)×Int×Int)=>JE d.1.1 d.1.2.1 d.1.2.2 d.2.1 d.2.2) ⟨.nil,XsOk.nil,ItsOk.nil,YlOk.nil,IysOk.nil,XfOk.nil⟩ (Gq) λd hp=>h d.1.1 d.1.2.1 d.1.2.2 d.2.1 d.2.2 hp
theorem XO:Gs:=G5 λhk cs f at_ st h=>by obtain⟨h1,h2,h3,h4,h5,h6⟩:=h;unfold JE;(try delta lI gD sT I64 W5 pj8 pj4);have:=xB.2 h1;exact⟨by simp only[Qq];omega,by omega,rfl,trivial⟩
def ME:AL ((Int×List (Int×Int×Bool))×Int×List Int):=(.cons (.agg (.cons (.k (.i .i64)) (.one (.k (.list (.pair (.i .i64) (.pair (.i .i64) .bo))))))) (.cons (.k (.i .i64)) (.one (.k (.list (.i .i64))))))
def H_ (d:(Int×List (Int×Int×Bool))×Int×List Int):Prop:=d.1.2.length<=1000/\d.2.2.length<=1000
def Ni (d:(Int×List (Int×Int×Bool))×Int×List Int):SV:=.tup [.lst 0,.val (.i .i64) (ZY d.1.1 d.1.2 d.2.1 d.2.2),.val (.i .i64) (Qu d.1.1 d.1.2 d.2.1 d.2.2)]
def N_ (d:(Int×List (Int×Int×Bool))×Int×List Int):List OB:=[.lst 3 (.i .i64) (Jj d.1.1 d.1.2 d.2.1 d.2.2) ((Jj d.1.1 d.1.2 d.2.1 d.2.2).isEmpty)]
def Ul:CSp:=VU ME H_ Ni N_
abbrev Mp (hk:Int) (cs:List (Int×Int×Bool)) (a:Int) (st:List Int):=(((Jj hk cs a st)=[]/\(Jj hk cs a st).isEmpty=true)/\True)
abbrev YQ (cs:List (Int×Int×Bool)) (a:Int):=(!(!([a].any λn=>decide (n<(0:Int))||decide (((lI cs)-(1:Int))<n))))
abbrev YX (st:List Int):=(!(!(st.any λn=>decide (n<(0:Int))||decide ((2:Int)<n))))
abbrev M9 (hk:Int) (cs:List (Int×Int×Bool)) (a:Int) (st:List Int):=((True/\(0:Int)=(ZY hk cs a st)/\(5:Int)=(Qu hk cs a st)/\(([]:List SV)=[]))/\(Mp hk cs a st))
abbrev Mh (hk:Int) (cs:List (Int×Int×Bool)) (a:Int) (st:List Int):=((True/\(0:Int)=(ZY hk cs a st)/\(2:Int)=(Qu hk cs a st)/\(([]:List SV)=[]))/\(Mp hk cs a st))
abbrev Db (hk:Int) (cs:List (Int×Int×Bool)) (a:Int) (st:List Int):=((True/\(0:Int)=(ZY hk cs a st)/\(7:Int)=(Qu hk cs a st)/\(([]:List SV)=[]))/\(Mp hk cs a st))
abbrev YM (hk:Int) (cs:List (Int×Int×Bool)):=(hk=hk/\cs=cs/\hk=hk/\(([]:List SV)=[]))
abbrev YU (st:List Int):=(decide ((lI st) > (60:Int)))
def Yd (hk:Int) (cs:List (Int×Int×Bool)) (a:Int) (st:List Int):Prop :=
 ∀ w1:List Value,(True)/\((!(inI hk 1 24))=true ->
  w1=w1/\(((3:Int) != (0:Int))=true ->
   ((True/\(0:Int)=(ZY hk cs a st)/\(3:Int)=(Qu hk cs a st)/\(([]:List SV)=[]))/\(Mp hk cs a st))) /\
  (((3:Int) != (0:Int))=false ->
   (I64 ((lI cs)-(1:Int)))/\([a].length<=1000000)/\((YQ cs a)=true ->
    (Db hk cs a st)) /\
   ((YQ cs a)=false ->
    ((YU st)=true ->
     (M9 hk cs a st)) /\
    ((YU st)=false ->
     (st.length<=1000000)/\((YX st)=true ->
      (Mh hk cs a st)) /\
     ((YX st)=false ->
      ∃ (e5:Unit) (d50:(List Int)×Int×Int),((True/\a=d50.2.1/\True/\st=st/\(lI st)=(lI st)/\(0:Int)=d50.2.2/\True)/\((d50.1=[]/\(List.isEmpty d50.1)=true)/\(YM hk cs)/\True)) /\
      LoopP (λ(d5:(List Int)×Int×Int) (q5:((List Int)×Int×Int)->Prop) =>
       ((decide (d5.2.2<(lI st)))=true ->
        (0<=d5.2.2)/\(d5.2.2<(List.length st))/\(1<=hk/\hk<=24/\0<=d5.2.1/\d5.2.1<cs.length/\∀ c∈cs,Zg hk c=true)/\(((List.length d5.1)+(List.length [(UW hk (cs.getD d5.2.1.toNat X2))]))*8<=70368744177664)/\(cs≠[]/\cs.length<=1000/\-1000000<=d5.2.1/\d5.2.1<=1000000/\-1000000<=(gD st d5.2.2 0)/\(gD st d5.2.2 0)<=1000000)/\(I64 (d5.2.2+(1:Int)))/\(∃ d6:(List Int)×Int×Int,((True/\(Int.tmod (d5.2.1+(gD st d5.2.2 0)) cs.length)=d6.2.1/\True/\st=st/\(lI st)=(lI st)/\(d5.2.2+(1:Int))=d6.2.2/\True)/\(((d5.1++[(UW hk (cs.getD d5.2.1.toNat X2))])=d6.1/\false=(List.isEmpty d6.1))/\(YM hk cs)/\True))/\q5 d6)) /\
       ((decide (d5.2.2<(lI st)))=false ->
        ((True/\d5.2.1=(ZY hk cs a st)/\(0:Int)=(Qu hk cs a st)/\(([]:List SV)=[]))/\((d5.1=(Jj hk cs a st)/\(List.isEmpty d5.1)=(Jj hk cs a st).isEmpty)/\True)))) d50))))) /\
 ((!(inI hk 1 24))=false ->
  ((decide ((lI cs) > (60:Int)))=true ->
   w1=w1/\(((5:Int) != (0:Int))=true ->
    (M9 hk cs a st)) /\
   (((5:Int) != (0:Int))=false ->
    (I64 ((lI cs)-(1:Int)))/\([a].length<=1000000)/\((YQ cs a)=true ->
     (Db hk cs a st)) /\
    ((YQ cs a)=false ->
     ((YU st)=true ->
      (M9 hk cs a st)) /\
     ((YU st)=false ->
      (st.length<=1000000)/\((YX st)=true ->
       (Mh hk cs a st)) /\
      ((YX st)=false ->
       ∃ (aX:Unit) (d100:(List Int)×Int×Int),((True/\a=d100.2.1/\True/\st=st/\(lI st)=(lI st)/\(0:Int)=d100.2.2/\True)/\((d100.1=[]/\(List.isEmpty d100.1)=true)/\(YM hk cs)/\True)) /\
       LoopP (λ(d10:(List Int)×Int×Int) (mX:((List Int)×Int×Int)->Prop) =>
        ((decide (d10.2.2<(lI st)))=true ->
         (0<=d10.2.2)/\(d10.2.2<(List.length st))/\(1<=hk/\hk<=24/\0<=d10.2.1/\d10.2.1<cs.length/\∀ c∈cs,Zg hk c=true)/\(((List.length d10.1)+(List.length [(UW hk (cs.getD d10.2.1.toNat X2))]))*8<=70368744177664)/\(cs≠[]/\cs.length<=1000/\-1000000<=d10.2.1/\d10.2.1<=1000000/\-1000000<=(gD st d10.2.2 0)/\(gD st d10.2.2 0)<=1000000)/\(I64 (d10.2.2+(1:Int)))/\(∃ d11:(List Int)×Int×Int,((True/\(Int.tmod (d10.2.1+(gD st d10.2.2 0)) cs.length)=d11.2.1/\True/\st=st/\(lI st)=(lI st)/\(d10.2.2+(1:Int))=d11.2.2/\True)/\(((d10.1++[(UW hk (cs.getD d10.2.1.toNat X2))])=d11.1/\false=(List.isEmpty d11.1))/\(YM hk cs)/\True))/\mX d11)) /\
        ((decide (d10.2.2<(lI st)))=false ->
         ((True/\d10.2.1=(ZY hk cs a st)/\(0:Int)=(Qu hk cs a st)/\(([]:List SV)=[]))/\((d10.1=(Jj hk cs a st)/\(List.isEmpty d10.1)=(Jj hk cs a st).isEmpty)/\True)))) d100))))) /\
  ((decide ((lI cs) > (60:Int)))=false ->
   (1<=hk/\hk<=24/\cs.length<=1000000)/\((!(!cs.isEmpty&&!(cs.any λc=>!Zg hk c)))=true ->
    w1=w1/\(((2:Int) != (0:Int))=true ->
     (Mh hk cs a st)) /\
    (((2:Int) != (0:Int))=false ->
     (I64 ((lI cs)-(1:Int)))/\([a].length<=1000000)/\((YQ cs a)=true ->
      (Db hk cs a st)) /\
     ((YQ cs a)=false ->
      ((YU st)=true ->
       (M9 hk cs a st)) /\
      ((YU st)=false ->
       (st.length<=1000000)/\((YX st)=true ->
        (Mh hk cs a st)) /\
       ((YX st)=false ->
        ∃ (au:Unit) (d150:(List Int)×Int×Int),((True/\a=d150.2.1/\True/\st=st/\(lI st)=(lI st)/\(0:Int)=d150.2.2/\True)/\((d150.1=[]/\(List.isEmpty d150.1)=true)/\(YM hk cs)/\True)) /\
        LoopP (λ(d15:(List Int)×Int×Int) (j7:((List Int)×Int×Int)->Prop) =>
         ((decide (d15.2.2<(lI st)))=true ->
          (0<=d15.2.2)/\(d15.2.2<(List.length st))/\(1<=hk/\hk<=24/\0<=d15.2.1/\d15.2.1<cs.length/\∀ c∈cs,Zg hk c=true)/\(((List.length d15.1)+(List.length [(UW hk (cs.getD d15.2.1.toNat X2))]))*8<=70368744177664)/\(cs≠[]/\cs.length<=1000/\-1000000<=d15.2.1/\d15.2.1<=1000000/\-1000000<=(gD st d15.2.2 0)/\(gD st d15.2.2 0)<=1000000)/\(I64 (d15.2.2+(1:Int)))/\(∃ d16:(List Int)×Int×Int,((True/\(Int.tmod (d15.2.1+(gD st d15.2.2 0)) cs.length)=d16.2.1/\True/\st=st/\(lI st)=(lI st)/\(d15.2.2+(1:Int))=d16.2.2/\True)/\(((d15.1++[(UW hk (cs.getD d15.2.1.toNat X2))])=d16.1/\false=(List.isEmpty d16.1))/\(YM hk cs)/\True))/\j7 d16)) /\
         ((decide (d15.2.2<(lI st)))=false ->
          ((True/\d15.2.1=(ZY hk cs a st)/\(0:Int)=(Qu hk cs a st)/\(([]:List SV)=[]))/\((d15.1=(Jj hk cs a st)/\(List.isEmpty d15.1)=(Jj hk cs a st).isEmpty)/\True)))) d150))))) /\
   ((!(!cs.isEmpty&&!(cs.any λc=>!Zg hk c)))=false ->
    w1=w1/\(((0:Int) != (0:Int))=true ->
     ((True/\(0:Int)=(ZY hk cs a st)/\(0:Int)=(Qu hk cs a st)/\(([]:List SV)=[]))/\(Mp hk cs a st))) /\
    (((0:Int) != (0:Int))=false ->
     (I64 ((lI cs)-(1:Int)))/\([a].length<=1000000)/\((YQ cs a)=true ->
      (Db hk cs a st)) /\
     ((YQ cs a)=false ->
      ((YU st)=true ->
       (M9 hk cs a st)) /\
      ((YU st)=false ->
       (st.length<=1000000)/\((YX st)=true ->
        (Mh hk cs a st)) /\
       ((YX st)=false ->
        ∃ (eR:Unit) (d200:(List Int)×Int×Int),((True/\a=d200.2.1/\True/\st=st/\(lI st)=(lI st)/\(0:Int)=d200.2.2/\True)/\((d200.1=[]/\(List.isEmpty d200.1)=true)/\(YM hk cs)/\True)) /\
        LoopP (λ(d20:(List Int)×Int×Int) (rh:((List Int)×Int×Int)->Prop) =>
         ((decide (d20.2.2<(lI st)))=true ->
          (0<=d20.2.2)/\(d20.2.2<(List.length st))/\(1<=hk/\hk<=24/\0<=d20.2.1/\d20.2.1<cs.length/\∀ c∈cs,Zg hk c=true)/\(((List.length d20.1)+(List.length [(UW hk (cs.getD d20.2.1.toNat X2))]))*8<=70368744177664)/\(cs≠[]/\cs.length<=1000/\-1000000<=d20.2.1/\d20.2.1<=1000000/\-1000000<=(gD st d20.2.2 0)/\(gD st d20.2.2 0)<=1000000)/\(I64 (d20.2.2+(1:Int)))/\(∃ d21:(List Int)×Int×Int,((True/\(Int.tmod (d20.2.1+(gD st d20.2.2 0)) cs.length)=d21.2.1/\True/\st=st/\(lI st)=(lI st)/\(d20.2.2+(1:Int))=d21.2.2/\True)/\(((d20.1++[(UW hk (cs.getD d20.2.1.toNat X2))])=d21.1/\false=(List.isEmpty d21.1))/\(YM hk cs)/\True))/\rh d21)) /\
         ((decide (d20.2.2<(lI st)))=false ->
          ((True/\d20.2.1=(ZY hk cs a st)/\(0:Int)=(Qu hk cs a st)/\(([]:List SV)=[]))/\((d20.1=(Jj hk cs a st)/\(List.isEmpty d20.1)=(Jj hk cs a st).isEmpty)/\True)))) d200)))))))
def MX:Cx:=⟨[(3,(.i .i64))],[(87,QA),(88,J5),(104,JR),(78,J1),(86,QF)],58,[],0,[(103,Ym)],[],[],[],false,[],[],[],[]⟩
def Ta (hk:Int) (cs:List (Int×Int×Bool)) (a:Int) (st:List Int):List (Nat×LoopAnn):=[(1,⟨Unit,(List Int)×Int×Int,[6,7,9,39,40,41],λe x=>[.lst 50,.val (.i .i64) x.2.1,.box 9 0,.val (.list (.i .i64)) st,.val (.i .i64) (((List.length st):Nat):Int),.val (.i .i64) x.2.2],λe x=>[(50,.slot 6,.lst 3 (.i .i64) x.1 (List.isEmpty x.1)),(9,.slot 9,.cells [.val (.i .i64) hk,.val (.list (.pair (.i .i64) (.pair (.i .i64) .bo))) cs,.val (.i .i64) hk] (some 119))]⟩)]
theorem T0 (d:(Int×List (Int×Int×Bool))×Int×List Int):gwp (MX) (Ta d.1.1 d.1.2 d.2.1 d.2.2) c48 0 (UO [.tmp 6,.tmp 7,.tmp 8] (Ni d) (N_ d)) (Zd 58 (AL.can ME d))=Yd d.1.1 d.1.2 d.2.1 d.2.2:=by kernel_rfl
abbrev Tf:Prop:=OkC Tryz.prog 48 Ul
theorem T2 (h:∀ (hk:Int) (cs:List (Int×Int×Bool)) (a:Int) (st:List Int),(cs.length<=1000/\st.length<=1000)->Yd hk cs a st):OkC Tryz.prog 48 Ul :=
 Zv Q7c mixed (C:=MX) (V:=λ(d:(Int×List (Int×Int×Bool))×Int×List Int)=>Yd d.1.1 d.1.2 d.2.1 d.2.2) ⟨(.cons QW (.cons Xe (.cons KE (.cons XO (.cons Zc .nil))))),(XsOk.cons Yc XsOk.nil),ItsOk.nil,YlOk.nil,IysOk.nil,XfOk.nil⟩ (T0) λd hp=>h d.1.1 d.1.2 d.2.1 d.2.2 hp
theorem T7:Tf:=T2 λhk cs a st h=>by
 obtain⟨h1,h2⟩:=h;unfold Yd;(try delta Mp YQ YX M9 Mh Db YM YU);(try delta lI gD sT I64 W5 pj8 pj4);intro vals;have e:∀ n a b:Int,(decide (n<a)||decide (b<n))=!inI n a b:=λn a b=>(nI n a b).symm;simp only[true_and,and_true,List.any_cons,List.any_nil,xZ,e,Bool.not_not,zS,List.length_nil];refine⟨λc=>⟨λ_=>?_,(λd=>by cases d)⟩,λc=>⟨λc2=>⟨λ_=>?_,(λd=>by cases d)⟩,λc2=>⟨?_,λc3=>⟨λ_=>?_,(λd=>by cases d)⟩,λc3=>⟨(λd=>by cases d),λ_=>?_⟩⟩⟩⟩
 .have hb:Qv hk cs=3:=by unfold Qv;rw[z7 c]
  exact Vg (by unfold Qu;rw[hb];rfl) (by omega)
 .have c2:=zo c2;have hb:Qv hk cs=5:=by unfold Qv;rw[z1 (by rw[c];decide),z7 (by omega)]
  exact Vg (by unfold Qu;rw[hb];rfl) (by omega)
 .have c:=BK c;exact⟨c.1,c.2,by omega⟩
 .have c2:=zq c2;have hb:=Sp c (by omega) c3;exact Vg (by unfold Qu;rw[hb];rfl) (by omega)
 .have c2:=zq c2;obtain⟨hb,az,ai⟩:=PC c (by omega) c3;have hc:=BK c;have bc:=xB.2 az;refine⟨by simp only[Qq];omega,by omega,λc4=>?_,λc4=>⟨λc5=>?_,λc5=>⟨by omega,λc6=>?_,λc6=>?_⟩⟩⟩
  .exact Vg (by unfold Qu;rw[hb,z1 (by omega),z7 c4]) (by omega)
  .have c5:=zo c5;exact Vg (by unfold Qu;rw[hb,z1 (by omega),z1 (by rw[c4];decide),z7 (by omega)]) (by omega)
  .have c5:=zq c5;exact Vg (by unfold Qu;rw[hb,z1 (by omega),z1 (by rw[c4];decide),z1 (by omega),z7 c6]) (by omega)
  .have c5:=zq c5;have e0:Qu hk cs a st=0:=by unfold Qu;rw[hb,z1 (by omega),z1 (by rw[c4];decide),z1 (by omega),z1 (by rw[c6];decide)]
   have e1:ZY hk cs a st=atK cs.length a st st.length:=by unfold ZY;rw[z7 e0]
   have e2:Jj hk cs a st=Pm hk cs a st st.length:=by unfold Jj;rw[z7 e0]
   have ha:=BK c4;have bk:∀ s∈st,0<=s/\s<=2:=λs hs=>by have:=xP.1 c6 s hs;exact BK (by simpa using this)
   rw[e0,e1,e2];refine⟨(),([],a,0),(by and_intros<;>first|rfl|trivial),?_⟩;refine⟨λd=>∃ k:Nat,d.2.2=k/\k<=st.length/\d.1=Pm hk cs a st k/\d.2.1=atK cs.length a st k,λd=>st.length-d.2.2.toNat,⟨0,rfl,by omega,rfl,rfl⟩,?_⟩;rintro⟨l,p,k'⟩ ⟨k,f1,f2,f3,f4⟩;dsimp only at f1 f3 f4 |-;subst f1 f3 f4;have aP:=Q4u (a:=a) (st:=st) bc (by omega) (by omega) (λs hs=>(bk s hs).1) k;simp only[zB];refine⟨λg=>?_,λg=>?_⟩
   .have g:k<st.length:=by have:=zo g;omega
    have hs:=bk (st.getD k 0) (by rw[Qg g];exact zp g);have hl:=PD hk cs a st k;refine⟨by omega,by omega,⟨hc.1,hc.2,aP.1,by omega,ai⟩,by omega,⟨az,h1,by omega,by omega,by omega,by omega⟩,by simp only[Qq];omega,(Pm hk cs a st (k+1),atK cs.length a st (k+1),(k:Int)+1),?_,⟨k+1,by simp,by omega,rfl,rfl⟩,by dsimp only;omega⟩;rw[F2];and_intros<;>first|rfl|trivial|simp
   .have g:k=st.length:=by have:=zq g;omega
    subst g;exact(by and_intros<;>first|rfl|trivial|simp)
def BL:AL (Int×List (Int×Int×Bool)):=(.one (.agg (.cons (.k (.i .i64)) (.one (.k (.list (.pair (.i .i64) (.pair (.i .i64) .bo))))))))
def S7 (d:Int×List (Int×Int×Bool)):Prop:=d.2.length<=1000
def Dn (d:Int×List (Int×Int×Bool)):SV:=.agg [.val (.i .i64) d.1,.lst 0]
def GS (d:Int×List (Int×Int×Bool)):List OB:=[.lst 87 (.pair (.i .i64) (.pair (.i .i64) .bo)) d.2 false]
def Gi:CSp:=VU BL S7 Dn GS
def KJ (hk:Int) (cs:List (Int×Int×Bool)):Prop :=
 (((List.length ([]:List (Int×Int×Bool)))+(List.length cs))*24<=70368744177664)/\((hk=hk/\True/\(([]:List SV)=[]))/\(((([]:List (Int×Int×Bool))++cs)=cs/\((List.isEmpty cs)&&false)=false)/\True))
def BH:Cx:=⟨[(87,(.pair (.i .i64) (.pair (.i .i64) .bo)))],[],9,[],0,[],[],[],[],false,[],[],[],[]⟩
def L3 (hk:Int) (cs:List (Int×Int×Bool)):List (Nat×LoopAnn):=[]
theorem Lk (d:Int×List (Int×Int×Bool)):gwp (BH) (L3 d.1 d.2) c16 0 (UO [.cell 2 true 2] (Dn d) (GS d)) (Zd 9 (AL.can BL d))=KJ d.1 d.2:=by kernel_rfl
abbrev LA:Prop:=OkC Tryz.prog 16 Gi
theorem Ca (h:∀ (hk:Int) (cs:List (Int×Int×Bool)),(cs.length<=1000)->KJ hk cs):OkC Tryz.prog 16 Gi :=
 Zv Q5y mixed (C:=BH) (V:=λ(d:Int×List (Int×Int×Bool))=>KJ d.1 d.2) ⟨.nil,XsOk.nil,ItsOk.nil,YlOk.nil,IysOk.nil,XfOk.nil⟩ (Lk) λd hp=>h d.1 d.2 hp
theorem LX:LA:=Ca λhk cs h=>by unfold KJ;(try delta lI gD sT I64 W5 pj8 pj4);simp only[List.length_nil,xk];refine⟨by omega,?_⟩;and_intros<;>first|rfl|trivial|simp
def GV:AL (List Int):=(.one (.k (.list (.i .i64))))
def TD (d:List Int):Prop:=d.length<=1000
def MO (d:List Int):SV:=.lst 0
def MP (d:List Int):List OB:=[.lst 3 (.i .i64) d false]
def M4:CSp:=VU GV TD MO MP
def Y_ (l:List Int):Prop :=
 (((List.length ([]:List Int))+(List.length l))*8<=70368744177664)/\(True/\(((([]:List Int)++l)=l/\((List.isEmpty l)&&false)=false)/\True))
def Dl:Cx:=⟨[(3,(.i .i64))],[],6,[],0,[],[],[],[],false,[],[],[],[]⟩
def Sg (l:List Int):List (Nat×LoopAnn):=[]
theorem S6 (d:List Int):gwp (Dl) (Sg d) c25 0 (UO [.tmp 2] (MO d) (MP d)) (Zd 6 (AL.can GV d))=Y_ d:=by kernel_rfl
abbrev RH:Prop:=OkC Tryz.prog 25 M4
theorem RD (h:∀ (l:List Int),(l.length<=1000)->Y_ l):OkC Tryz.prog 25 M4 :=
 Zv Q5g mixed (C:=Dl) (V:=λ(d:List Int)=>Y_ d) ⟨.nil,XsOk.nil,ItsOk.nil,YlOk.nil,IysOk.nil,XfOk.nil⟩ (S6) λd hp=>h d hp
theorem S0:RH:=RD λl h=>by unfold Y_;(try delta lI gD sT I64 W5 pj8 pj4);simp only[List.length_nil,xk];refine⟨by omega,?_⟩;and_intros<;>first|rfl|trivial|simp
end Go.Proofs.Tryz
namespace Go.V
open Go
theorem SK {α:Type}:∀ (j:Nat) (x:α) (l:List α),(Co j x l).length=l.length+1
 |0,_,_=>rfl
 |j+1,x,[]=>rfl
 |j+1,x,a::l=>by simp only[Co,zS];rw[SK j x l]
def Q20 (ap:Ap) (kk vk:Kind) (sp:PSp kk vk):XSp:=λd args s K=>match sp ap (BM s.own args) with
 |some (c,_,post)=>c/\∀ m',post m'->K (.map d) (s.make d (.map kk vk m'))
 |none=>False
def Q6j (rs:List VResult) (kk vk:Kind) (post:List (kk.T×vk.T)->Prop):Exit->St->Prop:=λe s =>
 let fin:=match Ww s rs with
  |some (.map k)=>(match S3 kk vk (Qf s.own k) with
   |some m'=>post m'
   |none=>False)
  |_=>False
 match e with
 |.normal=>fin
 |.ret=>fin
 |_=>False
section
variable {P:Program}
theorem Q0u {f:Nat}{vc:VCode}{rs:List VResult}{nt:Nat}(h:Fun P f vc rs nt) (hm:P.follows .mixedOrders=true) {kk vk:Kind}(bF:(kk.flat&&vk.flat)=true) {sp:PSp kk vk}{ap:Ap}
  (hb:∀ gH c vs post,sp ap gH=some (c,vs,post)->c->∃ (C:Cx) (L:List (Nat×LoopAnn)) (fe:List SV),SVs.pure fe=true/\(∀ U us,SRs P U X1 J3 gH us->SRs P U X1 J3 fe us)/\COk P C/\gwp C L vc 0 (Q6j rs kk vk post) (YH nt fe)):XOk P f (Q20 ap kk vk sp):=by
 intro B F pl tb s env U d args vals K R hG ha hx hK;unfold Q20 at hx;split at hx
 .rename_i c vs post bM;obtain⟨hc,hx⟩:=hx;obtain⟨C,L,fe,cQ,jC,fc,hg⟩:=hb _ c vs post bM hc;have aB:=jC U vals (Y4 (own:=s.own) hG.leB (pl:=pl) (tb:=tb) (λd=>hG.obj d) ha);have bk:GRel P U U U (YH nt fe) (vals++List.replicate (nt-vals.length) undef) U:=by
   refine⟨U,U,λ_=>poison,J3,⟨.refl _,.refl _,λ_ _ _ h=>h,.refl _⟩,.refl _,.refl _,?_,λk=>?_,λk i' h1 h2=>?_,λk k' i' ml h1 h2 h3 h4=>?_,λ_ _=>rfl⟩
   .simp only[YH];rw[aB.length];exact SRs.append (Zr _ _ cQ aB) (DT _)
   .simp only[YH,Qf];trivial
   .simp only[YH,Qf] at h1;cases h1
   .simp only[YH,Qf] at h1;cases h1
  refine h.calls hm HU ?_;refine VA fc vc 0 _ _ _ U none _ trivial bk hg λe s' af U' h1 h2=>?_
  have main:(match Ww s' rs with
   |some (.map k)=>(match S3 kk vk (Qf s'.own k) with
    |some m'=>post m'
    |none=>False)
   |_=>False)->Zf (Jo af U' rs) λv=>∃ v' aH,DropTo U v U' v' aH/\R v' aH:=λh=>by
   obtain⟨B',F',pl',tb',k1,k2⟩:=h2;split at h
   .rename_i k hr;split at h
    .rename_i m' lA;have g2:=h;have aJ:=Ma lA;obtain⟨w,h3,h4⟩:=XA k2 hr;rw[h3];simp only[SR] at h4;obtain⟨rfl,_⟩:=h4;have aq:=k2.obj k;rw[aJ] at aq;have hle:U.Le U':=k1.f.trans k2.le;have mn:OR P B (JN pl d (pl' k)) tb U' (pl' k) (.map kk vk m'):=aq.retd bF λ_ _=>rfl;have ao:(Qf s'.own k).live=true:=by rw[aJ];rfl
     have fJ:∀ i,Oid (pl' k) i->U.get i=none:=λi hi=>by
      cases hg:U.get i with
      |none=>rfl
      |some b =>have:=k2.fresh k i ao hi;have h9:=k1.f.2 _ _ hg;rw[this] at h9;cases h9
     have mq:Gam P B F (JN pl d (pl' k)) tb (s.make d (.map kk vk m')) env U':=by
      refine hG.make d _ (pl' k) (hG.le.trans hle) (λj i _ hl hi=>?_) mn λi _ hi=>⟨?_,λj _ hl hj=>?_⟩
      .cases hg:U.get i with
       |none=>exact k1.d.2 i ((hG.obj j).q1d hl hi) hg
       |some bb=>exact hle.2 _ _ hg
      .cases hg:F.get i with
       |none=>rfl
       |some b=>have:=hG.le.2 _ _ hg;rw[fJ i hi] at this;cases this
      .have ah:=(hG.obj j).q1d hl hj;have:=k1.d.2 i ah (fJ i hi);obtain⟨id,es,clock,e1,e2,_⟩:=mn;rw[e1] at hi;obtain rfl:id=i:=osj hi;rw[this] at e2;cases e2
     refine⟨_,U',.refl _ _ _,hK _ _ B F _ tb _ U' (hx m' g2) (.of hG.bf k1.d) mq ?_⟩;obtain⟨id,es,clock,e1,_⟩:=mn;simp only[SR];exact⟨by simp[JN],_,e1⟩
    .exact h.elim
   .exact h.elim
  cases e with
  |normal=>exact main h1
  |ret=>exact main h1
  |_=>exact h1.elim
 .exact hx.elim
theorem Q0t {f:Nat}{vc:VCode}{rs:List VResult}{nt:Nat}(h:Fun P f vc rs nt) (hm:P.follows .mixedOrders=true) {ap:Ap}(dM:Q09 P ap) {kk vk:Kind}(bF:(kk.flat&&vk.flat)=true) {D:Type}{la:AL D}{pre:D->Prop}{res:D->List SV}{post:D->List (kk.T×vk.T)->Prop}
  {C:Cx}(aC:COk P C) {L:D->List (Nat×LoopAnn)}{V:D->Prop}
  (hq:∀ y,gwp C (L y) vc 0 (Q6j rs kk vk (post y)) (YH nt (AL.can la y))=V y)
  (hb:∀ y,pre y->V y):XOk P f (Q20 ap kk vk (Q7k la pre res post)):=Q0u h hm bF λgH c vs q hs hc=>by
 unfold Q7k at hs;split at hs
 .rename_i y h2;obtain⟨rfl,rfl,rfl⟩:=(by simpa using hs:pre y=c/\res y=vs/\post y=q);exact⟨C,L y,AL.can la y,AL.q0q la y,λU vs hv=>AL.q0k dM la h2 hv,aC,(hq y).mpr (hb y hc)⟩
 .cases hs
end
end Go.V
namespace Go.V
open Go
abbrev KSp (kk vk:Kind):=Ap->List (kk.T×vk.T)->List SV->Option (Prop×SV×(List (kk.T×vk.T)->Prop))
def Fg (ap:Ap) (j:Nat) (kk vk:Kind) (sp:KSp kk vk):XSp:=λ_ args s K =>
 match args[j]? with
 |some (.map o)=>(match S3 kk vk (Qf s.own o) with
  |some m=>(match sp ap m (BM (oset s.own o .dead) (CN j args)) with
   |some (c,v,post)=>bif v.ret 0 then c/\∀ m',post m'->K v ⟨s.env,oset s.own o (.map kk vk m'),s.nx⟩ else False
   |none=>False)
  |none=>False)
 |_=>False
def Nh (nt j:Nat) (kk vk:Kind) (m:List (kk.T×vk.T)) (vals:List Value) (args:List SV):St:=⟨Co j (.map 0) args++List.replicate (nt-(args.length+1)) .any,[(0,.map kk vk m),(4000000,.stk [.map 0] vals)],0⟩
def Z0e {kk vk:Kind}{D:Type}(la:AL D) (pre:List (kk.T×vk.T)->D->Prop) (res:List (kk.T×vk.T)->D->SV) (post:List (kk.T×vk.T)->D->List (kk.T×vk.T)->Prop):KSp kk vk:=λap m gH=>match AL.dec ap la gH with
 |some a=>some (pre m a,res m a,post m a)
 |none=>none
section
variable {P:Program}
theorem Q24 {f:Nat}{vc:VCode}{rs:List VResult}{nt:Nat}(h:Fun P f vc rs nt) (hm:P.follows .mixedOrders=true) {kk vk:Kind}(bF:(kk.flat&&vk.flat)=true) {sp:KSp kk vk}{ap:Ap}{j:Nat}
  (hb:∀ m gH c v post,sp ap m gH=some (c,v,post)->c->∃ (C:Cx) (L:List Value->List (Nat×LoopAnn)) (fe:List SV),SVs.pure fe=true/\(∀ U vs,SRs P U X1 J3 gH vs->SRs P U X1 J3 fe vs)/\COk P C/\∀ vals,gwp C (L vals) vc 0 (OI vals rs v kk vk post) (Nh nt j kk vk m vals fe)):XOk P f (Fg ap j kk vk sp):=by
 intro B F pl tb s env U d args vs K R hG ha hx hK;unfold Fg at hx;split at hx
 .rename_i o gZ;split at hx
  .rename_i m aF;have aJ:=Ma aF;split at hx
   .rename_i c v post bM;cases cK:v.ret 0 with
    |false=>rw[cK] at hx;exact hx.elim
    |true =>
    rw[cK] at hx;obtain⟨hc,hx⟩:=hx;obtain⟨w,hw,ri,rj⟩:=IT j gZ ha;simp only[SR] at hw;obtain rfl:w=pl o:=hw.1;have ao:(Qf s.own o).live=true:=by rw[aJ];rfl
    have aq:=hG.obj o;rw[aJ] at aq;obtain⟨id,es,clock,iB,bn,eL⟩:=aq;have oR:F.get id=none:=hG.fresh o id ao (by rw[iB];rfl);have rk:B.get id=none:=by
     cases hg:B.get id with
     |none=>rfl
     |some b=>have:=hG.bf.2 _ _ hg;rw[oR] at this;cases this
    obtain⟨C,L,fe,cQ,jC,fc,hg⟩:=hb _ _ c v post bM hc;have hg:=hg [pl o];have uP:oid (pl o)=some id:=by rw[iB];rfl
    let σc:=U.kill id;have sw:B.Le σc:=hG.leB.kill' rk;have uQ:F.Le σc:=hG.le.kill' oR;have rn:σc.Le U:=Heap.q2i _ _;have bS:∀ k,k≠id->σc.get k=U.get k:=λk hk=>Heap.q0d _ hk;have bO:∀ d,OR P σc X1 J3 σc (pl d) ((Qf (oset s.own o .dead) d).kill d)\/True:=λ_=>.inr trivial;have uR:∀ (xs:List SV) (vs:List Value),SRs P B pl tb xs vs->SRs P σc X1 J3 (BM (oset s.own o .dead) xs) vs:=λxs vs bE=>by
     refine Y4 (own:=oset s.own o .dead) sw (pl:=pl) (tb:=tb) (λd=>?_) bE;rw[Qz];by_cases e:d=o
     .rw[z7 e];trivial
     .rw[z1 e];exact(hG.obj d).mono (.refl _) (λ_ _ h=>h) λhl i hi=>bS _ λnO=>hG.sep d o i e hl ao hi (by rw[iB,nO];rfl)
    have aB:=jC σc _ (uR _ _ ri);let mY:Nat->Value:=λk=>if k=0 then pl o else poison
    have lf:∀ (B:Heap) (tb':Nat->Option Bool),SR P B mY tb' (.map 0) (pl o):=λB tb'=>by simp only[SR];exact⟨by simp[mY],_,iB⟩
    have bk:GRel P σc σc U (Nh nt j kk vk m [pl o] fe) (vs++List.replicate (nt-vs.length) undef) U:=by
     refine⟨σc,σc,mY,J3,⟨.refl _,.refl _,λ_ _ _ h=>h,.refl _⟩,.refl _,rn,?_,λk=>?_,λk i' h1 h2=>?_,λk k' i' ml h1 h2 h3 h4=>?_,λ_ _=>rfl⟩
     .have h0:=rj σc mY J3 fe (.map 0) (Zr _ _ cQ aB) (lf _ _);have hl:=h0.length;rw[SK] at hl;simp only[Nh];rw[hl];exact SRs.append h0 (DT _)
     .simp only[Nh,Qf];by_cases e0:k=0
      .subst e0;simp only[Nat.beq_refl,zm];exact⟨id,es,clock,by simp[mY,iB],bn,eL.mono sw⟩
      .rw[JK (λe=>e0 e.symm),cond_false];by_cases e1:k=4000000
       .subst e1;simp only[Nat.beq_refl,zm];exact⟨pl o,[],rfl,lf _ _,rfl⟩
       .rw[JK (λe=>e1 e.symm),cond_false];trivial
     .simp only[Nh,Qf] at h1;by_cases e0:k=0
      .subst e0;have:Oid (pl o) i':=by simpa [mY] using h2
       rw[iB] at this;obtain rfl:id=i':=osj this;exact Heap.q0f _ _
      .rw[JK (λe=>e0 e.symm),cond_false] at h1;by_cases e1:k=4000000
       .subst e1;cases h1
       .rw[JK (λe=>e1 e.symm),cond_false] at h1;cases h1
     .have z:∀ k,(Qf (Nh nt j kk vk m [pl o] fe).own k).live=true->k=0:=λk h1=>by
       simp only[Nh,Qf] at h1;by_cases e0:k=0
       .exact e0
       .rw[JK (λe=>e0 e.symm),cond_false] at h1;by_cases e1:k=4000000
        .subst e1;cases h1
        .rw[JK (λe=>e1 e.symm),cond_false] at h1;cases h1
      exact ml ((z k h1).trans (z k' h2).symm)
    refine h.calls hm HU ?_;refine VA fc vc 0 _ _ _ U none _ trivial bk hg λe s' af U' h1 h2=>?_
    have main:(match Ww s' rs,Qf s'.own 4000000,S3 kk vk (Qf s'.own 0) with
     |some r,.stk l vs,some m'=>vs=[pl o]/\UG [(0,some 0)] [.map 0] l/\HI [] v r/\post m'
     |_,_,_=>False)->Zf (Jo af U' rs) λv=>∃ v' aH,DropTo U v U' v' aH/\R v' aH:=λh=>by
     obtain⟨B',F',pl',tb',k1,k2⟩:=h2;split at h
     .rename_i r l' vs' m' hr ji rp;obtain⟨rfl,m1,m2,m3⟩:=h;have fE:=Ma rp;obtain⟨w,h3,h4⟩:=XA k2 hr;rw[h3];have lg:=k2.obj 4000000;rw[ji] at lg;have rr:pl' 0=pl o:=by
       have:=Zt [.map 0] l' [pl o] m1 lg;simp only[SRs,SR] at this;obtain⟨u',_,cD,⟨h5,_⟩,_⟩:=this;obtain rfl:pl o=u':=(zX cD).1;simpa [Mx,QO] using h5.symm
      have oS:=k2.obj 0;rw[fE,rr] at oS;have dI:=(Vu v r w m2 h4).retd (B':=B) (pl':=pl) (tb':=tb) (n:=0) (λj hj=>by omega) _ _ cK;have hle:σc.Le U':=k1.f.trans k2.le;have oT:∀ d,d≠o->(Qf s.own d).live=true->∀ i,Oid (pl d) i->U'.get i=U.get i:=λd e hl i hi=>by
       have ah:=(hG.obj d).q1d hl hi;have uS:i≠id:=λnO=>hG.sep d o i e hl ao hi (by rw[iB,nO];rfl);cases hg:U.get i with
       |none=>exact k1.d.2 i ah hg
       |some bb=>exact hle.2 _ _ (by rw[bS i uS];exact hg)
      have bU:∀ d,(Qf (oset s.own o (.map kk vk m')) d).live=(Qf s.own d).live:=λd=>by
       rw[Qz];by_cases e:d=o
       .subst e;rw[z7 rfl,ao];rfl
       .rw[z1 e]
      refine⟨w,U',.refl _ _ _,hK v _ B F pl tb w U' (hx m' m3) (.of hG.bf k1.d) ⟨hG.bf,uQ.trans hle,hG.env,λd=>?_,λd i q1 q2=>hG.fresh d i (by rw[<-bU d];exact q1) q2,λd d' i az q1 q2 q3 q4=>hG.sep d d' i az (by rw[<-bU d];exact q1) (by rw[<-bU d'];exact q2) q3 q4,hG.free⟩ dI⟩
      .simp only[Qz];by_cases e:d=o
       .subst e;rw[z7 rfl];exact oS.retd bF λ_ _=>rfl
       .rw[z1 e];exact(hG.obj d).mono (.refl _) (λ_ _ h=>h) λhl i hi=>oT d e hl i hi
     .exact h.elim
    cases e with
    |normal=>exact main h1
    |ret=>exact main h1
    |_=>exact h1.elim
   .exact hx.elim
  .exact hx.elim
 .exact hx.elim
theorem S1 {f:Nat}{vc:VCode}{rs:List VResult}{nt:Nat}(h:Fun P f vc rs nt) (hm:P.follows .mixedOrders=true) {ap:Ap}(dM:Q09 P ap) {kk vk:Kind}(bF:(kk.flat&&vk.flat)=true) {j:Nat}{D:Type}{la:AL D}{pre:List (kk.T×vk.T)->D->Prop}{res:List (kk.T×vk.T)->D->SV}{post:List (kk.T×vk.T)->D->List (kk.T×vk.T)->Prop}
  {C:Cx}(aC:COk P C) {L:List (kk.T×vk.T)->D->List Value->List (Nat×LoopAnn)}{V:List (kk.T×vk.T)->D->Prop}
  (hq:∀ m y,(∀ vals,gwp C (L m y vals) vc 0 (OI vals rs (res m y) kk vk (post m y)) (Nh nt j kk vk m vals (AL.can la y)))=V m y)
  (hb:∀ m y,pre m y->V m y):XOk P f (Fg ap j kk vk (Z0e la pre res post)):=Q24 h hm bF λm gH c v q hs hc=>by
 unfold Z0e at hs;split at hs
 .rename_i y h2;obtain⟨rfl,rfl,rfl⟩:=(by simpa using hs:pre m y=c/\res m y=v/\post m y=q);exact⟨C,L m y,AL.can la y,AL.q0q la y,λU vs hv=>AL.q0k dM la h2 hv,aC,(hq m y).mpr (hb m y hc)⟩
 .cases hs
end
end Go.V
namespace Go.Proofs.Tryz
open Go Go.V Go.Proofs
def Jw (n mo:Nat):List (Int×Int):=(List.range n).flatMap λ(a:Nat)=>(List.range (mo+1)).map λ(f:Nat)=>((a:Int),(f:Int))
def G7 (n:Int) (p:Int×Int) (s:Int):Int×Int:=(Int.tmod (p.1+s) n,p.2+if s=1 then 0 else 1)
def Bz (n mo:Int) (p:Int×Int) (w:Int) (q:Int×Int) (s:Int):Int:=if G7 n p s=q/\q.2<=mo then w else 0
def LL (n mo:Int) (wv:Int->Bool) (p:Int×Int) (w:Int) (q:Int×Int):Int:=if wv p.1=true then Bz n mo p w q 0+Bz n mo p w q 1+Bz n mo p w q 2 else 0
def wyK (n mo:Nat) (wv:Nat->Int->Bool):Nat->Int×Int->Int
 |0,q=>if 0<=q.1/\q.1<(n:Int)/\q.2=0 then 1 else 0
 |k+1,q=>((Jw n mo).map λp=>LL n mo (wv k) p (wyK n mo wv k p) q).sum
def MapW (n mo:Nat) (m:List ((Int×Int)×Int)) (W:Int×Int->Int):Prop:=(m.map (·.1)).Nodup/\(∀ e∈m,e.2=W e.1/\0<e.2/\e.1∈Jw n mo)/\∀ q,W q≠0->∃ e∈m,e.1=q
theorem XM {n mo:Nat}{q:Int×Int}:q∈Jw n mo<->(0<=q.1/\q.1<n)/\0<=q.2/\q.2<=mo:=by
 unfold Jw;simp only[List.mem_flatMap,zz,zu];constructor
 .rintro⟨a,ha,f,hf,rfl⟩;dsimp only;omega
 .intro h;exact⟨q.1.toNat,by omega,q.2.toNat,by omega,by ext<;>dsimp only<;>omega⟩
theorem Ml (n mo:Nat):(Jw n mo).Nodup:=by unfold Jw;refine List.pairwise_flatMap.2 ⟨λa _=>xG.2 ((List.nodup_range (n:=mo+1)).imp λh e=>h (by have:=(Prod.ext_iff.1 e).2;dsimp only at this;omega)),(List.nodup_range (n:=n)).imp λ{a b} h x hx y hy e=>?_⟩;obtain⟨f,_,rfl⟩:=zu.1 hx;obtain⟨g,_,rfl⟩:=zu.1 hy;have:=(Prod.ext_iff.1 e).1;dsimp only at this;omega
theorem AW {l l':List Int}(h:l.Perm l'):l.sum=l'.sum:=by
 induction h with
 |nil=>rfl
 |cons x _ ih=>simp only[xO];omega
 |swap x y l=>simp only[xO];omega
 |trans _ _ h1 h2=>exact h1.trans h2
theorem Hf {α:Type}{f:α->Int}:∀ {l:List α},(∀ x∈l,f x=0)->(l.map f).sum=0
 |[],_=>rfl
 |x::l,h=>by rw[zG,xO,h x (zl ..),Hf λy hy=>h y (zi _ hy)];rfl
theorem VH {α:Type}{f:α->Int}:∀ {l:List α},(∀ x∈l,0<=f x)->0<=(l.map f).sum
 |[],_=>Int.le_refl _
 |x::l,h=>by have h1:=h x (zl ..);have h2:=VH (l:=l) λy hy=>h y (zi _ hy);rw[zG,xO];omega
theorem S4 {α:Type}(f:α->Int) (a b:List α):((a++b).map f).sum=(a.map f).sum+(b.map f).sum:=by rw[xI,List.sum_append_int]
theorem PO {n mo:Nat}{m:List ((Int×Int)×Int)}{W:Int×Int->Int}(h:MapW n mo m W) (G:Int×Int->Int->Int) (h0:∀ p,G p 0=0):(m.map λe=>G e.1 e.2).sum=((Jw n mo).map λp=>G p (W p)).sum:=by
 obtain⟨h1,h2,h3⟩:=h;have e1:(m.map λe=>G e.1 e.2)=(m.map (·.1)).map λp=>G p (W p):=by
  rw[wA];exact xr λe he=>by show G e.1 e.2=G e.1 (W e.1);rw[(h2 e he).1]
 have hp:((m.map (·.1))++(Jw n mo).filter λp=>!(m.map (·.1)).contains p).Perm (Jw n mo):=by
  refine (xN (List.nodup_append.2 ⟨h1,(Ml n mo).filter _,λa ha b hb e=>?_⟩) (Ml n mo)).2 λa=>?_
  .subst e;have:=(zL.1 hb).2;simp at this;obtain⟨x,hx⟩:=zu.1 ha;exact this x.2 (by rw[<-hx.2];exact hx.1)
  .rw[zF,zL];constructor
   .rintro (h|h)
    .obtain⟨e,he,rfl⟩:=zu.1 h;exact(h2 e he).2.2
    .exact h.1
   .intro h;by_cases hc:a∈m.map (·.1)
    .exact .inl hc
    .exact .inr ⟨h,by simpa using hc⟩
 rw[e1,<-AW (hp.map λp=>G p (W p)),S4];have:(((Jw n mo).filter λp=>!(m.map (·.1)).contains p).map λp=>G p (W p)).sum=0:=Hf λp hp=>by
  have hc:=(zL.1 hp).2;have:W p=0:=by
   by_cases e:W p=0
   .exact e
   .obtain⟨x,hx,rfl⟩:=h3 p e;have:x.1∈m.map (·.1):=zu.2 ⟨x,hx,rfl⟩;simp[this] at hc
  rw[this,h0]
 rw[this];omega
def XS (m:List ((Int×Int)×Int)) (k:Int×Int):Int:=gq.aget (.pair (.i .i64) (.i .i64)) m k 0
def NY (m:List ((Int×Int)×Int)) (k:Int×Int) (v:Int):List ((Int×Int)×Int):=Uo (.pair (.i .i64) (.i .i64)) m k v
theorem Z1q {a b:Int×Int}:gq.keq (.pair (.i .i64) (.i .i64)) a b=true<->a=b:=by show ((a.1==b.1)&&(a.2==b.2))=true<->_;simp only[z8,z_,Prod.ext_iff]
theorem K5 (a:Int×Int) (b:Int) (m:List ((Int×Int)×Int)) (k:Int×Int):XS ((a,b)::m) k=if k=a then b else XS m k:=by
 show (if gq.keq (.pair (.i .i64) (.i .i64)) k a=true then b else gq.aget (.pair (.i .i64) (.i .i64)) m k 0)=_;by_cases h:k=a
 .rw[z7 (Z1q.2 h),z7 h]
 .rw[z1 (λe=>h (Z1q.1 e)),z1 h];rfl
theorem KG (a:Int×Int) (b:Int) (m:List ((Int×Int)×Int)) (k:Int×Int) (v:Int):NY ((a,b)::m) k v=if k=a then (k,v)::m else (a,b)::NY m k v:=by
 show (if gq.keq (.pair (.i .i64) (.i .i64)) k a=true then (k,v)::m else (a,b)::Uo (.pair (.i .i64) (.i .i64)) m k v)=_;by_cases h:k=a
 .rw[z7 (Z1q.2 h),z7 h]
 .rw[z1 (λe=>h (Z1q.1 e)),z1 h];rfl
theorem Ob {m:List ((Int×Int)×Int)}(hn:(m.map (·.1)).Nodup) {e:(Int×Int)×Int}(he:e∈m):XS m e.1=e.2:=by
 induction m with
 |nil=>cases he
 |cons x m ih =>
  obtain⟨a,b⟩:=x;rw[zG,xn] at hn;rw[K5];rcases zk.1 he with rfl|he
  .rw[z7 rfl]
  .have:e.1≠a:=λh=>hn.1 (by rw[<-h];exact zu.2 ⟨e,he,rfl⟩);rw[z1 this];exact ih hn.2 he
theorem SS {k:Int×Int}:∀ {m:List ((Int×Int)×Int)},(∀ e∈m,e.1≠k)->XS m k=0
 |[],_=>rfl
 |(a,b)::m,h=>by rw[K5,z1 λe=>h (a,b) (zl ..) e.symm];exact SS λe he=>h e (zi _ he)
theorem MapW.get {n mo:Nat}{m:List ((Int×Int)×Int)}{W:Int×Int->Int}(h:MapW n mo m W) (q:Int×Int):XS m q=W q:=by
 by_cases hz:W q=0
 .rw[hz];refine SS λe he hq=>?_;have:=h.2.1 e he;rw[hq,hz] at this;omega
 .obtain⟨e,he,rfl⟩:=h.2.2 q hz;rw[Ob h.1 he];exact(h.2.1 e he).1
theorem Am (k:Int×Int) (v:Int):∀ (m:List ((Int×Int)×Int)),(m.map (·.1)).Nodup->(∀ e∈NY m k v,e=(k,v)\/e∈m/\e.1≠k)/\(k,v)∈NY m k v/\(∀ e∈m,e.1≠k->e∈NY m k v)/\((NY m k v).map (·.1)).Nodup
 |[],_=>⟨λe he=>.inl (zh.1 he),zh.2 rfl,λe he=>(by cases he),List.pairwise_singleton _ _⟩
 |(a,b)::m,hn=>by
  rw[zG,xn] at hn;obtain⟨h1,h2,h3,h4⟩:=Am k v m hn.2;rw[KG];by_cases hk:k=a
  .subst hk;rw[z7 rfl];refine⟨λe he=>?_,zl ..,λe he az=>?_,by rw[zG,xn];exact hn⟩
   .rcases zk.1 he with h|h
    .exact .inl h
    .exact .inr ⟨zi _ h,λe2=>hn.1 (zu.2 ⟨e,h,e2⟩)⟩
   .rcases zk.1 he with h|h
    .rw[h] at az;exact(az rfl).elim
    .exact zi _ h
  .rw[z1 hk];refine⟨λe he=>?_,zi _ h2,λe he az=>?_,?_⟩
   .rcases zk.1 he with h|h
    .subst h;exact .inr ⟨zl ..,λe=>hk e.symm⟩
    .rcases h1 e h with h|h
     .exact .inl h
     .exact .inr ⟨zi _ h.1,h.2⟩
   .rcases zk.1 he with h|h
    .rw[h];exact zl ..
    .exact zi _ (h3 e h az)
   .rw[zG,xn];refine⟨λhm=>?_,h4⟩;obtain⟨e,he,lJ⟩:=zu.1 hm;rcases h1 e he with h|h
    .rw[h] at lJ;exact hk lJ
    .exact hn.1 (zu.2 ⟨e,h.1,lJ⟩)
theorem MapW.add {n mo:Nat}{m:List ((Int×Int)×Int)}{W:Int×Int->Int}(h:MapW n mo m W) (hW:∀ q,0<=W q) {k:Int×Int}{w:Int}(hw:0<w) (hk:k∈Jw n mo):MapW n mo (NY m k (XS m k+w)) (λq=>W q+if q=k then w else 0):=by
 obtain⟨p1,p2,p3,p4⟩:=Am k (XS m k+w) m h.1;have hg:=h.get k;have vS:=hW k;refine⟨p4,λe he=>?_,λq hq=>?_⟩
 .rcases p1 e he with rfl|⟨h1,h2⟩
  .dsimp only;rw[z7 rfl];exact⟨by omega,by omega,hk⟩
  .dsimp only;rw[z1 h2];have:=h.2.1 e h1;exact⟨by omega,this.2⟩
 .by_cases e:q=k
  .exact⟨_,p2,e.symm⟩
  .dsimp only at hq;rw[z1 e] at hq;obtain⟨x,hx,rfl⟩:=h.2.2 q (by omega);exact⟨x,p3 x hx e,rfl⟩
theorem MapW.congr {n mo:Nat}{m:List ((Int×Int)×Int)}{W W':Int×Int->Int}(h:MapW n mo m W) (e:∀ q,W q=W' q):MapW n mo m W':=by have:W=W':=funext e;rw[<-this];exact h
theorem MapW.nil (n mo:Nat):MapW n mo [] λ_=>0:=⟨List.nodup_nil,(λe he=>by cases he),λq hq=>(hq rfl).elim⟩
theorem Ug {n mo:Int}{p:Int×Int}{w:Int}{q:Int×Int}{s:Int}(hw:0<=w):0<=Bz n mo p w q s/\Bz n mo p w q s<=w:=by unfold Bz;split<;>omega
theorem Hn {n mo:Int}{wv:Int->Bool}{p:Int×Int}{w:Int}{q:Int×Int}(hw:0<=w):0<=LL n mo wv p w q:=by have h0:=(Ug (n:=n) (mo:=mo) (p:=p) (q:=q) (s:=0) hw).1;have h1:=(Ug (n:=n) (mo:=mo) (p:=p) (q:=q) (s:=1) hw).1;have h2:=(Ug (n:=n) (mo:=mo) (p:=p) (q:=q) (s:=2) hw).1;unfold LL;split<;>omega
theorem DQ (n mo:Nat) (wv:Nat->Int->Bool):∀ k q,0<=wyK n mo wv k q
 |0,q=>by simp only[wyK];split<;>omega
 |k+1,q=>VH λp _=>Hn (DQ n mo wv k p)
theorem Sm (n mo:Nat) (wv:Nat->Int->Bool) (hn:0<n):∀ k q,wyK n mo wv k q≠0->q∈Jw n mo
 |0,q,h=>by
  simp only[wyK] at h;split at h
  .rename_i h2;rw[XM];omega
  .exact(h rfl).elim
 |k+1,q,h=>by
  simp only[wyK] at h;by_cases hq:q∈Jw n mo
  .exact hq
  .exfalso;refine h (Hf λp hp=>?_);rw[XM] at hp hq;have z:∀ s:Int,0<=s->Bz n mo p (wyK n mo wv k p) q s=0:=λs hs=>by
    unfold Bz;rw[z1];rintro⟨h1,h2⟩;apply hq;have e1:=(Prod.ext_iff.1 h1).1;have e2:=(Prod.ext_iff.1 h1).2;unfold G7 at e1 e2;dsimp only at e1 e2;rw[Int.tmod_eq_emod_of_nonneg (by omega)] at e1;have b1:=Int.emod_nonneg (p.1+s) (show (n:Int)≠0 by omega);have b2:=Int.emod_lt_of_pos (p.1+s) (show (0:Int)<n by omega);split at e2<;>omega
   unfold LL;rw[z 0 (by omega),z 1 (by omega),z 2 (by omega)];split<;>rfl
theorem OV {α:Type}{f:α->Int}{B:Int}(hB:0<=B):∀ {l:List α},l.Nodup->(∀ x∈l,0<=f x/\f x<=B)->(∀ x∈l,∀ y∈l,f x≠0->f y≠0->x=y)->(l.map f).sum<=B
 |[],_,_,_=>hB
 |x::l,hn,hb,h1=>by
  rw[xn] at hn;rw[zG,xO];by_cases hx:f x=0
  .have:=OV hB hn.2 (λy hy=>hb y (zi _ hy)) λy hy z hz=>h1 y (zi _ hy) z (zi _ hz);omega
  .have hz:(l.map f).sum=0:=Hf λy hy=>by
    by_cases e:f y=0
    .exact e
    .exact(hn.1 (by rw[h1 x (zl ..) y (zi _ hy) hx e];exact hy)).elim
   have:=hb x (zl ..);omega
theorem Q6y {n:Int}{p p':Int×Int}{s:Int}(hs:0<=s) (h1:0<=p.1/\p.1<n) (h2:0<=p'.1/\p'.1<n) (h:G7 n p s=G7 n p' s):p=p':=by
 have e1:=(Prod.ext_iff.1 h).1;have e2:=(Prod.ext_iff.1 h).2;unfold G7 at e1 e2;dsimp only at e1 e2;rw[Int.tmod_eq_emod_of_nonneg (by omega),Int.tmod_eq_emod_of_nonneg (by omega)] at e1;have h3:p.1=p'.1:=by
  have a1:=Int.emod_add_emod p.1 n s;have:=Int.emod_emod_of_dvd;have d:(p.1-p'.1) % n=0:=by
   have:(p.1+s-(p'.1+s)) % n=0:=Int.emod_eq_emod_iff_emod_sub_eq_zero.1 e1
   rwa [show p.1+s-(p'.1+s)=p.1-p'.1 by omega] at this
  obtain⟨c,hc⟩:=Int.dvd_of_emod_eq_zero d;have c1:c<1:=by
   by_cases h:1<=c
   .have:=Int.mul_le_mul_of_nonneg_left h (show 0<=n by omega);omega
   .omega
  have c2:-1<c:=by
   by_cases h:c<=-1
   .have:=Int.mul_le_mul_of_nonneg_left h (show 0<=n by omega);omega
   .omega
  have:c=0:=by omega
  rw[this] at hc;omega
 exact Prod.ext h3 (by omega)
theorem Q4l {α:Type}{f g:α->Int}:∀ {l:List α},(∀ x∈l,f x<=g x)->(l.map f).sum<=(l.map g).sum
 |[],_=>Int.le_refl _
 |x::l,h=>by have h1:=h x (zl ..);have h2:=Q4l (l:=l) λy hy=>h y (zi _ hy);rw[zG,zG,xO,xO];omega
theorem Ce {α:Type}(f g:α->Int):∀ (l:List α),(l.map λx=>f x+g x).sum=(l.map f).sum+(l.map g).sum
 |[]=>rfl
 |x::l=>by have:=Ce f g l;rw[zG,zG,zG,xO,xO,xO];omega
theorem FT {n mo:Nat}{V:Int×Int->Int}{q:Int×Int}{s B:Int}(hs:0<=s) (hB:0<=B) (hV:∀ p,0<=V p) (hb:∀ p∈Jw n mo,G7 n p s=q->V p<=B):((Jw n mo).map λp=>Bz n mo p (V p) q s).sum<=B:=by
 refine OV hB (Ml n mo) (λp hp=>?_) λp hp p' bt h1 h2=>?_
 .have:=Ug (n:=n) (mo:=mo) (p:=p) (q:=q) (s:=s) (hV p);refine⟨this.1,?_⟩;by_cases hq:G7 n p s=q
  .have:=hb p hp hq;omega
  .unfold Bz;rw[z1 λh=>hq h.1];exact hB
 .rw[XM] at hp bt;have e1:G7 n p s=q:=by
   by_cases h:G7 n p s=q
   .exact h
   .unfold Bz at h1;rw[z1 λh'=>h h'.1] at h1;exact(h1 rfl).elim
  have e2:G7 n p' s=q:=by
   by_cases h:G7 n p' s=q
   .exact h
   .unfold Bz at h2;rw[z1 λh'=>h h'.1] at h2;exact(h2 rfl).elim
  exact Q6y hs hp.1 bt.1 (e1.trans e2.symm)
theorem A3 {n mo:Nat}(wv:Nat->Int->Bool) (hn:0<n):∀ (k:Nat) (q:Int×Int),0<=q.2->wyK n mo wv k q<=((2*k+1) ^ q.2.toNat:Nat)
 |0,q,hq=>by simp only[wyK];have:0<(2*0+1) ^ q.2.toNat:=Nat.pow_pos (by omega);split<;>omega
 |k+1,q,hq=>by
  have jY:=DQ n mo wv k;have h0:wyK n mo wv (k+1) q<=((Jw n mo).map λp=>(Bz n mo p (wyK n mo wv k p) q 0+Bz n mo p (wyK n mo wv k p) q 1)+Bz n mo p (wyK n mo wv k p) q 2).sum:=Q4l λp _=>by have a0:=(Ug (n:=n) (mo:=mo) (p:=p) (q:=q) (s:=0) (jY p)).1;have a1:=(Ug (n:=n) (mo:=mo) (p:=p) (q:=q) (s:=1) (jY p)).1;have a2:=(Ug (n:=n) (mo:=mo) (p:=p) (q:=q) (s:=2) (jY p)).1;unfold LL;split<;>omega
  rw[Ce,Ce] at h0;obtain⟨f,hf⟩:∃ f:Nat,q.2=f:=⟨q.2.toNat,by omega⟩;have b1:((Jw n mo).map λp=>Bz n mo p (wyK n mo wv k p) q 1).sum<=((2*k+1) ^ f:Nat):=FT (by omega) (by omega) jY λp hp he=>by
   rw[XM] at hp;have e2:=(Prod.ext_iff.1 he).2;unfold G7 at e2;dsimp only at e2;rw[z7 rfl] at e2;have:=A3 (n:=n) (mo:=mo) wv hn k p hp.2.1
   rwa [show p.2.toNat=f by omega] at this
  have bs:∀ s:Int,0<=s->s≠1->((Jw n mo).map λp=>Bz n mo p (wyK n mo wv k p) q s).sum<=((if f=0 then 0 else (2*k+1) ^ (f-1):Nat):Int):=λs hs jW=>FT hs (by omega) jY λp hp he=>by
   rw[XM] at hp;have e2:=(Prod.ext_iff.1 he).2;unfold G7 at e2;dsimp only at e2;rw[z1 jW] at e2;have:=A3 (n:=n) (mo:=mo) wv hn k p hp.2.1;rw[z1 (by omega)]
   rwa [show p.2.toNat=f-1 by omega] at this
  have b0:=bs 0 (by omega) (by omega);have b2:=bs 2 (by omega) (by omega);rw[hf,zB];have key:(2*k+1) ^ f+2*(if f=0 then 0 else (2*k+1) ^ (f-1))<=(2*(k+1)+1) ^ f:=by
   cases f with
   |zero=>simp
   |succ g =>
    rw[z1 (by omega),Nat.add_sub_cancel];have hp:(2*k+1) ^ g<=(2*(k+1)+1) ^ g:=Nat.pow_le_pow_left (by omega) g;have h1:(2*k+1) ^ (g+1)+2*(2*k+1) ^ g=(2*k+1) ^ g*(2*(k+1)+1):=by
     rw[Nat.pow_succ];generalize (2*k+1) ^ g=A;have:A*(2*(k+1)+1)=A*(2*k+1)+A*2:=by rw[<-Nat.mul_add];congr 1
     omega
    rw[h1,Nat.pow_succ];exact zx _ hp
  omega
theorem As {α:Type}{d:α}{m:List α}{F:α->Int}{dn:List Nat}(hn:dn.Nodup) (ah:∀ r∈dn,r<m.length) (hF:∀ x∈m,0<=F x):(dn.map λr=>F (m.getD r d)).sum<=(m.map F).sum/\((∀ r,r<m.length->r∈dn)->(dn.map λr=>F (m.getD r d)).sum=(m.map F).sum):=by
 have e:m.map F=(List.range m.length).map λr=>F (m.getD r d):=by
  refine List.ext_getElem (by simp) λi h1 h2=>?_;have hi:i<m.length:=by simpa using h1
  rw[xw,xw,List.getElem_range,Qg hi]
 have hp:(dn++(List.range m.length).filter λr=>!dn.contains r).Perm (List.range m.length):=by
  refine (xN (List.nodup_append.2 ⟨hn,(List.nodup_range (n:=m.length)).filter _,λa ha b hb e=>?_⟩) List.nodup_range).2 λa=>?_
  .subst e;have:=(zL.1 hb).2;simp[ha] at this
  .rw[zF,zL,zz];constructor
   .rintro (h|h)
    .exact ah a h
    .exact h.1
   .intro h;by_cases hc:a∈dn
    .exact .inl hc
    .exact .inr ⟨h,by simpa using hc⟩
 rw[e,<-AW (hp.map λr=>F (m.getD r d)),S4];constructor
 .have:0<=(((List.range m.length).filter λr=>!dn.contains r).map λr=>F (m.getD r d)).sum:=VH λr hr=>by
   have hr:=zz.1 (zL.1 hr).1;rw[Qg hr];exact hF _ (zp hr)
  omega
 .intro h;have:(List.range m.length).filter (λr=>!dn.contains r)=[]:=List.filter_eq_nil_iff.2 λr hr=>by have:=h r (zz.1 hr);simp[this]
  rw[this];simp
def wvB (hk:Int) (cs:List Wn) (cl:List Int) (k:Nat) (a:Int):Bool:=(cl.getD k 0==-1)||(cl.getD k 0==UW hk (cs.getD a.toNat X2))
theorem SJ (k:Int×Int) (a b:Int):∀ m:List ((Int×Int)×Int),NY (NY m k a) k b=NY m k b
 |[]=>by show NY [(k,a)] k b=[(k,b)];rw[KG,z7 rfl]
 |(x,v)::m=>by
  rw[KG,KG];by_cases h:k=x
  .rw[z7 h,z7 h,KG,z7 rfl]
  .rw[z1 h,z1 h,KG,z1 h,SJ k a b m]
theorem SP (k q:Int×Int) (v:Int):∀ m:List ((Int×Int)×Int),XS (NY m k v) q=if q=k then v else XS m q
 |[]=>by show XS [(k,v)] q=_;rw[K5]
 |(x,w)::m=>by
  rw[KG];by_cases h:k=x
  .subst h;rw[z7 rfl,K5,K5];split<;>rfl
  .rw[z1 h,K5,SP k q v m,K5];by_cases h2:q=x
   .subst h2;rw[z7 rfl,z7 rfl,z1 (λe=>h e.symm)]
   .rw[z1 h2,z1 h2]
def Eu (n mo:Int) (p:Int×Int) (w:Int) (m:List ((Int×Int)×Int)) (s:Int):List ((Int×Int)×Int):=if (G7 n p s).2<=mo then NY m (G7 n p s) (XS m (G7 n p s)+w) else m
def Q7n (n mo:Int) (p:Int×Int) (w:Int) (m:List ((Int×Int)×Int)):List ((Int×Int)×Int):=Eu n mo p w (Eu n mo p w (Eu n mo p w m 0) 1) 2
theorem Q0o (n mo:Int) (p:Int×Int) (w:Int) (m:List ((Int×Int)×Int)) (s:Int) (q:Int×Int):XS (Eu n mo p w m s) q=XS m q+Bz n mo p w q s:=by
 unfold Eu Bz;by_cases h:(G7 n p s).2<=mo
 .rw[z7 h,SP];by_cases e:q=G7 n p s
  .rw[z7 e,z7 ⟨e.symm,by rw[e];exact h⟩,e]
  .rw[z1 e,z1 (λx=>e x.1.symm)];omega
 .rw[z1 h,z1 (λx=>h (by rw[x.1];exact x.2))];omega
theorem OO {n mo:Nat}{m:List ((Int×Int)×Int)}{W:Int×Int->Int}(h:MapW n mo m W) (hW:∀ q,0<=W q) {p:Int×Int}{w s:Int}(hw:0<w) (hn:0<n) (hp:0<=p.1/\0<=p.2) (hs:0<=s):MapW n mo (Eu n mo p w m s) (λq=>W q+Bz n mo p w q s):=by
 unfold Eu;by_cases hc:(G7 n p s).2<=mo
 .rw[z7 hc];refine (h.add hW hw (k:=G7 n p s) ?_).congr λq=>?_
  .rw[XM];have b1:=Int.emod_nonneg (p.1+s) (show (n:Int)≠0 by omega);have b2:=Int.emod_lt_of_pos (p.1+s) (show (0:Int)<n by omega);refine⟨?_,?_,hc⟩
   .unfold G7;dsimp only;rw[Int.tmod_eq_emod_of_nonneg (by omega)];exact⟨b1,b2⟩
   .unfold G7;dsimp only;split<;>omega
  .unfold Bz;by_cases e:q=G7 n p s
   .rw[z7 e,z7 ⟨e.symm,by rw[e];exact hc⟩]
   .rw[z1 e,z1 (λx=>e x.1.symm)]
 .rw[z1 hc];exact h.congr λq=>by
   unfold Bz;rw[z1 (λx=>hc (by rw[x.1];exact x.2))];omega
theorem Z0z {n mo:Nat}{m:List ((Int×Int)×Int)}{W:Int×Int->Int}(h:MapW n mo m W) (hW:∀ q,0<=W q) {p:Int×Int}{w:Int}(hw:0<w) (hn:0<n) (hp:0<=p.1/\0<=p.2):MapW n mo (Q7n n mo p w m) (λq=>W q+(Bz n mo p w q 0+Bz n mo p w q 1+Bz n mo p w q 2)):=by have z:=λq s=>(Ug (n:=n) (mo:=mo) (p:=p) (q:=q) (s:=s) (Int.le_of_lt hw)).1;have h1:=OO h hW hw hn hp (s:=0) (by omega);have h2:=OO h1 (λq=>by have:=hW q;have:=z q 0;omega) hw hn hp (s:=1) (by omega);have h3:=OO h2 (λq=>by have:=hW q;have:=z q 0;have:=z q 1;omega) hw hn hp (s:=2) (by omega);exact h3.congr λq=>by omega
def WI:AL (Int×Int×(List (Int×Int×Bool))×Int):=(.cons (.k (.i .i64)) (.one (.ptr (.cons (.k (.i .i64)) (.cons (.k (.list (.pair (.i .i64) (.pair (.i .i64) .bo)))) (.one (.k (.i .i64))))))))
def VV (d:Int×Int×(List (Int×Int×Bool))×Int):Prop:=1<=d.2.2.2/\d.2.2.2<=24
def Wo (d:Int×Int×(List (Int×Int×Bool))×Int):SV:=.val .bo (decide (d.1≠-1)&&!inI d.1 0 (2 ^ d.2.2.2.toNat-1))
def Wv (d:Int×Int×(List (Int×Int×Bool))×Int):List OB:=[]
def X3:CSp:=VU WI VV Wo Wv
def ZJ (r:Int) (hk:Int) (cs:List (Int×Int×Bool)) (f:Int):Prop :=
 ((r != (-1:Int))=true->True)/\((r != (-1:Int))=true->1<=f/\f<=24/\[r].length<=1000000)/\(((r != (-1:Int))&&(!(!([r].any λn=>!inI n 0 (2 ^ f.toNat-1)))))=(decide (r≠-1)&&!inI r 0 (2 ^ f.toNat-1))/\(True))
def WJ:Cx:=⟨[(3,(.i .i64))],[(102,Zl)],14,[],0,[],[],[],[],false,[],[],[],[]⟩
def UL (r:Int) (hk:Int) (cs:List (Int×Int×Bool)) (f:Int):List (Nat×LoopAnn):=[]
theorem N0 (d:Int×Int×(List (Int×Int×Bool))×Int):gwp (WJ) (UL d.1 d.2.1 d.2.2.1 d.2.2.2) Z16 0 (UO [.tmp 3] (Wo d) (Wv d)) (Zd 14 (AL.can WI d))=ZJ d.1 d.2.1 d.2.2.1 d.2.2.2:=by kernel_rfl
abbrev UU:Prop:=OkC Tryz.prog 112 X3
theorem UX (h:∀ (r:Int) (hk:Int) (cs:List (Int×Int×Bool)) (f:Int),(1<=f/\f<=24)->ZJ r hk cs f):OkC Tryz.prog 112 X3 :=
 Zv IJ mixed (C:=WJ) (V:=λ(d:Int×Int×(List (Int×Int×Bool))×Int)=>ZJ d.1 d.2.1 d.2.2.1 d.2.2.2) ⟨(.cons JP .nil),XsOk.nil,ItsOk.nil,YlOk.nil,IysOk.nil,XfOk.nil⟩ (N0) λd hp=>h d.1 d.2.1 d.2.2.1 d.2.2.2 hp
theorem UN:UU:=UX λr hk cs f h=>by
 unfold ZJ;(try delta lI gD sT I64 W5 pj8 pj4);refine⟨λ_=>trivial,λ_=>⟨h.1,h.2,by simp⟩,?_,trivial⟩;simp only[List.any_cons,List.any_nil,xZ,Bool.not_not];congr 1;by_cases e:r=-1
 .subst e;rfl
 .simp[e]
def MU:AL (Int):=(.one (.k (.i .i64)))
def HQ (d:Int):Prop:=True
def NR (d:Int):SV:=.val (.i .i64) (if d=1 then 0 else 1)
def NP (d:Int):List OB:=[]
def VT:CSp:=VU MU HQ NR NP
def Ya (s:Int):Prop :=
 ((s==(1:Int))=true ->
  ((0:Int)=(if s=1 then 0 else 1)/\(True))) /\
 ((s==(1:Int))=false ->
  ((1:Int)=(if s=1 then 0 else 1)/\(True)))
def My:Cx:=⟨[],[],5,[],0,[],[],[],[],false,[],[],[],[]⟩
def Td (s:Int):List (Nat×LoopAnn):=[]
theorem T6 (d:Int):gwp (My) (Td d) c77 0 (UO [.tmp 2] (NR d) (NP d)) (Zd 5 (AL.can MU d))=Ya d:=by kernel_rfl
abbrev TH:Prop:=OkC Tryz.prog 77 VT
theorem Tp (h:∀ (s:Int),(True)->Ya s):OkC Tryz.prog 77 VT :=
 Zv Q58 mixed (C:=My) (V:=λ(d:Int)=>Ya d) ⟨.nil,XsOk.nil,ItsOk.nil,YlOk.nil,IysOk.nil,XfOk.nil⟩ (T6) λd hp=>h d hp
theorem T9:TH:=Tp λs _=>by
 unfold Ya;(try delta lI gD sT I64 W5 pj8 pj4);refine⟨λc=>⟨?_,trivial⟩,λc=>⟨?_,trivial⟩⟩
 .rw[z7 (eq_of_beq c)]
 .rw[z1 (λe=>by rw[e] at c;cases c)]
def W7:AL ((Int×(List (Int×Int×Bool))×Int×List Int)×Int×Int):=(.cons (.agg (.cons (.k (.i .i64)) (.cons (.k (.list (.pair (.i .i64) (.pair (.i .i64) .bo)))) (.cons (.k (.i .i64)) (.one (.k (.list (.i .i64)))))))) (.cons (.k (.i .i64)) (.one (.k (.i .i64)))))
def V3 (d:(Int×(List (Int×Int×Bool))×Int×List Int)×Int×Int):Prop:=1<=d.1.2.2.1/\d.1.2.2.1<=24/\0<=d.2.1/\d.2.1<d.1.2.2.2.length/\0<=d.2.2/\d.2.2<d.1.2.1.length/\∀ c∈d.1.2.1,Zg d.1.2.2.1 c=true
def XD (d:(Int×(List (Int×Int×Bool))×Int×List Int)×Int×Int):SV:=.val .bo (wvB d.1.2.2.1 d.1.2.1 d.1.2.2.2 d.2.1.toNat d.2.2)
def XB (d:(Int×(List (Int×Int×Bool))×Int×List Int)×Int×Int):List OB:=[]
def JF:CSp:=VU W7 V3 XD XB
def Zn (hk:Int) (cs:List (Int×Int×Bool)) (f:Int) (cl:List Int) (pk:Int) (at_:Int):Prop :=
 (0<=pk)/\(pk<(List.length cl))/\(((gD cl pk 0)==(-1:Int))=false->0<=pk)/\(((gD cl pk 0)==(-1:Int))=false->pk<(List.length cl))/\(((gD cl pk 0)==(-1:Int))=false->1<=f/\f<=24/\0<=at_/\at_<cs.length/\∀ c∈cs,Zg f c=true)/\((((gD cl pk 0)==(-1:Int))||((gD cl pk 0)==(UW f (cs.getD at_.toNat X2))))=(wvB f cs cl pk.toNat at_)/\(True))
def W8:Cx:=⟨[],[(104,JR)],25,[],0,[],[],[],[],false,[],[],[],[]⟩
def Vy (hk:Int) (cs:List (Int×Int×Bool)) (f:Int) (cl:List Int) (pk:Int) (at_:Int):List (Nat×LoopAnn):=[]
theorem Vo (d:(Int×(List (Int×Int×Bool))×Int×List Int)×Int×Int):gwp (W8) (Vy d.1.1 d.1.2.1 d.1.2.2.1 d.1.2.2.2 d.2.1 d.2.2) Z1t 0 (UO [.tmp 6] (XD d) (XB d)) (Zd 25 (AL.can W7 d))=Zn d.1.1 d.1.2.1 d.1.2.2.1 d.1.2.2.2 d.2.1 d.2.2:=by kernel_rfl
abbrev VN:Prop:=OkC Tryz.prog 116 JF
theorem VL (h:∀ (hk:Int) (cs:List (Int×Int×Bool)) (f:Int) (cl:List Int) (pk:Int) (at_:Int),(1<=f/\f<=24/\0<=pk/\pk<cl.length/\0<=at_/\at_<cs.length/\∀ c∈cs,Zg f c=true)->Zn hk cs f cl pk at_):OkC Tryz.prog 116 JF :=
 Zv Ib mixed (C:=W8) (V:=λ(d:(Int×(List (Int×Int×Bool))×Int×List Int)×Int×Int)=>Zn d.1.1 d.1.2.1 d.1.2.2.1 d.1.2.2.2 d.2.1 d.2.2) ⟨(.cons KE .nil),XsOk.nil,ItsOk.nil,YlOk.nil,IysOk.nil,XfOk.nil⟩ (Vo) λd hp=>h d.1.1 d.1.2.1 d.1.2.2.1 d.1.2.2.2 d.2.1 d.2.2 hp
theorem VI:VN:=VL λhk cs f cl pk at_ h=>by obtain⟨h1,h2,h3,h4,h5,h6,h7⟩:=h;unfold Zn;(try delta lI gD sT I64 W5 pj8 pj4);exact⟨h3,h4,λ_=>h3,λ_=>h4,λ_=>⟨h1,h2,h5,h6,h7⟩,(by and_intros<;>first|rfl|trivial|simp)⟩
def Wk:AL ((Int×(List (Int×Int×Bool))×Int×List Int)×(Int×Int)×Int×Int):=(.cons (.agg (.cons (.k (.i .i64)) (.cons (.k (.list (.pair (.i .i64) (.pair (.i .i64) .bo)))) (.cons (.k (.i .i64)) (.one (.k (.list (.i .i64)))))))) (.cons (.agg (.cons (.k (.i .i64)) (.one (.k (.i .i64))))) (.cons (.k (.i .i64)) (.one (.k (.i .i64))))))
def Up (m:List ((Int×Int)×Int)) (a:(Int×(List (Int×Int×Bool))×Int×List Int)×(Int×Int)×Int×Int):Prop:=0<=a.2.1.1/\a.2.1.1<a.1.2.1.length/\a.1.2.1.length<=60/\0<=a.2.1.2/\a.2.1.2<=6/\0<=a.2.2.2/\a.2.2.2<=6/\0<=a.2.2.1/\a.2.2.1<=4000000000000000/\∀ q,0<=XS m q/\XS m q<=4000000000000000
def Wg (m:List ((Int×Int)×Int)) (a:(Int×(List (Int×Int×Bool))×Int×List Int)×(Int×Int)×Int×Int):SV:=.tup []
def XY (m:List ((Int×Int)×Int)) (a:(Int×(List (Int×Int×Bool))×Int×List Int)×(Int×Int)×Int×Int) (m2:List ((Int×Int)×Int)):Prop:=m2=Q7n a.1.2.1.length a.2.2.2 (a.2.1.1,a.2.1.2) a.2.2.1 m
def X7:XSp:=Fg Nd 1 (.pair (.i .i64) (.i .i64)) (.i .i64) (Z0e Wk Up Wg XY)
def ZO (m:List ((Int×Int)×Int)) (hk:Int) (cs:List (Int×Int×Bool)) (f:Int) (cl:List Int) (sa:Int) (sf:Int) (wy:Int) (mo:Int):Prop:=∀ vals:List Value,
 ∃ (e3:Unit) (d30:(List ((Int×Int)×Int))×Int),((True/\wy=wy/\mo=mo/\True/\True/\(0:Int)=d30.2/\True)/\((m=d30.1)/\(hk=hk/\cs=cs/\f=f/\cl=cl/\(([]:List SV)=[]))/\(sa=sa/\sf=sf/\(([]:List SV)=[]))/\(vals=vals/\(True/\(([]:List SV)=[])))/\True)) /\
 LoopP (λ(d3:(List ((Int×Int)×Int))×Int) (q3:((List ((Int×Int)×Int))×Int)->Prop) =>
  ((decide (d3.2<(3:Int)))=true ->
   (cs≠[]/\cs.length<=1000/\-1000000<=sa/\sa<=1000000/\-1000000<=d3.2/\d3.2<=1000000)/\(True)/\(I64 (sf+(if d3.2=1 then 0 else 1)))/\((True/\wy=wy/\mo=mo/\True/\True/\True/\d3.2=d3.2/\((Int.tmod (sa+d3.2) cs.length)=(Int.tmod (sa+d3.2) cs.length)/\(sf+(if d3.2=1 then 0 else 1))=(sf+(if d3.2=1 then 0 else 1))/\(([]:List SV)=[]))/\True)/\((d3.1=d3.1)/\(hk=hk/\cs=cs/\f=f/\cl=cl/\(([]:List SV)=[]))/\(sa=sa/\sf=sf/\(([]:List SV)=[]))/\((0:Int)=(0:Int)/\(0:Int)=(0:Int)/\(([]:List SV)=[]))/\(vals=vals/\(True/\(([]:List SV)=[])))/\True))/\((cs≠[]/\cs.length<=1000/\-1000000<=sa/\sa<=1000000/\-1000000<=d3.2/\d3.2<=1000000)/\(True)/\(I64 (sf+(if d3.2=1 then 0 else 1)))/\((True/\wy=wy/\mo=mo/\True/\True/\True/\d3.2=d3.2/\((Int.tmod (sa+d3.2) cs.length)=(Int.tmod (sa+d3.2) cs.length)/\(sf+(if d3.2=1 then 0 else 1))=(sf+(if d3.2=1 then 0 else 1))/\(([]:List SV)=[]))/\True)/\((d3.1=d3.1)/\(hk=hk/\cs=cs/\f=f/\cl=cl/\(([]:List SV)=[]))/\(sa=sa/\sf=sf/\(([]:List SV)=[]))/\((0:Int)=(0:Int)/\(0:Int)=(0:Int)/\(([]:List SV)=[]))/\(vals=vals/\(True/\(([]:List SV)=[])))/\True)))/\((cs≠[]/\cs.length<=1000/\-1000000<=sa/\sa<=1000000/\-1000000<=d3.2/\d3.2<=1000000)/\(True)/\(I64 (sf+(if d3.2=1 then 0 else 1)))/\((True/\wy=wy/\mo=mo/\True/\True/\True/\d3.2=d3.2/\((Int.tmod (sa+d3.2) cs.length)=(Int.tmod (sa+d3.2) cs.length)/\(sf+(if d3.2=1 then 0 else 1))=(sf+(if d3.2=1 then 0 else 1))/\(([]:List SV)=[]))/\True)/\((d3.1=d3.1)/\(hk=hk/\cs=cs/\f=f/\cl=cl/\(([]:List SV)=[]))/\(sa=sa/\sf=sf/\(([]:List SV)=[]))/\((0:Int)=(0:Int)/\(0:Int)=(0:Int)/\(([]:List SV)=[]))/\(vals=vals/\(True/\(([]:List SV)=[])))/\True)))/\((decide ((sf+(if d3.2=1 then 0 else 1))<=mo))=true ->
    (I64 ((gq.aget (.pair (.i .i64) (.i .i64)) d3.1 ((Int.tmod (sa+d3.2) cs.length),(sf+(if d3.2=1 then 0 else 1))) 0)+wy))/\∀ n4:Int,
     n4=n4 /\
     (I64 (d3.2+(1:Int)))/\(∃ d5:(List ((Int×Int)×Int))×Int,((True/\wy=wy/\mo=mo/\True/\True/\(d3.2+(1:Int))=d5.2/\True)/\(((Uo (.pair (.i .i64) (.i .i64)) (Uo (.pair (.i .i64) (.i .i64)) d3.1 ((Int.tmod (sa+d3.2) cs.length),(sf+(if d3.2=1 then 0 else 1))) (gq.aget (.pair (.i .i64) (.i .i64)) d3.1 ((Int.tmod (sa+d3.2) cs.length),(sf+(if d3.2=1 then 0 else 1))) 0)) ((Int.tmod (sa+d3.2) cs.length),(sf+(if d3.2=1 then 0 else 1))) ((gq.aget (.pair (.i .i64) (.i .i64)) d3.1 ((Int.tmod (sa+d3.2) cs.length),(sf+(if d3.2=1 then 0 else 1))) 0)+wy))=d5.1)/\(hk=hk/\cs=cs/\f=f/\cl=cl/\(([]:List SV)=[]))/\(sa=sa/\sf=sf/\(([]:List SV)=[]))/\(vals=vals/\(True/\(([]:List SV)=[])))/\True))/\q3 d5)) /\
   ((decide ((sf+(if d3.2=1 then 0 else 1))<=mo))=false ->
    (I64 (d3.2+(1:Int)))/\(∃ d6:(List ((Int×Int)×Int))×Int,((True/\wy=wy/\mo=mo/\True/\True/\(d3.2+(1:Int))=d6.2/\True)/\((d3.1=d6.1)/\(hk=hk/\cs=cs/\f=f/\cl=cl/\(([]:List SV)=[]))/\(sa=sa/\sf=sf/\(([]:List SV)=[]))/\(vals=vals/\(True/\(([]:List SV)=[])))/\True))/\q3 d6))) /\
  ((decide (d3.2<(3:Int)))=false ->
   (vals=vals/\(True/\(([]:List SV)=[]))/\((([]:List SV)=[]))/\(d3.1=Q7n cs.length mo (sa,sf) wy m)))) d30
def WL:Cx:=⟨[],[(78,J1),(77,VT)],39,[],0,[],[],[],[1,3,4,5,7,11,12,26],false,[],[],[],[]⟩
def WR (m:List ((Int×Int)×Int)) (hk:Int) (cs:List (Int×Int×Bool)) (f:Int) (cl:List Int) (sa:Int) (sf:Int) (wy:Int) (mo:Int) (vals:List Value):List (Nat×LoopAnn):=[(0,⟨Unit,(List ((Int×Int)×Int))×Int,[1,3,4,5,7,12],λe x=>[.map 0,.val (.i .i64) wy,.val (.i .i64) mo,.box 5 0,.box 7 0,.val (.i .i64) x.2],λe x=>[(0,.slot 1,.map (.pair (.i .i64) (.i .i64)) (.i .i64) x.1),(5,.slot 5,.cells [.val (.i .i64) hk,.val (.list (.pair (.i .i64) (.pair (.i .i64) .bo))) cs,.val (.i .i64) f,.val (.list (.i .i64)) cl] (some 134)),(7,.slot 7,.cells [.val (.i .i64) sa,.val (.i .i64) sf] (some 145)),(4000000,.key 4000000,.stk [.map 0] vals)]⟩)]
theorem UZ (m:List ((Int×Int)×Int)) (a:(Int×(List (Int×Int×Bool))×Int×List Int)×(Int×Int)×Int×Int):(∀ vals,gwp WL (WR m a.1.1 a.1.2.1 a.1.2.2.1 a.1.2.2.2 a.2.1.1 a.2.1.2 a.2.2.1 a.2.2.2 vals) Z24 0 (OI vals [] (Wg m a) (.pair (.i .i64) (.i .i64)) (.i .i64) (XY m a)) (Nh 39 1 (.pair (.i .i64) (.i .i64)) (.i .i64) m vals (AL.can Wk a)))=ZO m a.1.1 a.1.2.1 a.1.2.2.1 a.1.2.2.2 a.2.1.1 a.2.1.2 a.2.2.1 a.2.2.2:=by kernel_rfl
abbrev N4:Prop:=XOk Tryz.prog 145 X7
theorem N1 (h:∀ (m:List ((Int×Int)×Int)) (hk:Int) (cs:List (Int×Int×Bool)) (f:Int) (cl:List Int) (sa:Int) (sf:Int) (wy:Int) (mo:Int),(0<=sa/\sa<cs.length/\cs.length<=60/\0<=sf/\sf<=6/\0<=mo/\mo<=6/\0<=wy/\wy<=4000000000000000/\∀ q,0<=XS m q/\XS m q<=4000000000000000)->ZO m hk cs f cl sa sf wy mo):XOk Tryz.prog 145 X7 :=
 S1 Ot mixed Kg rfl (C:=WL) ⟨(.cons XO (.cons T9 .nil)),XsOk.nil,ItsOk.nil,YlOk.nil,IysOk.nil,XfOk.nil⟩ (L:=λm (a:(Int×(List (Int×Int×Bool))×Int×List Int)×(Int×Int)×Int×Int) vals=>WR m a.1.1 a.1.2.1 a.1.2.2.1 a.1.2.2.2 a.2.1.1 a.2.1.2 a.2.2.1 a.2.2.2 vals) (V:=λm (a:(Int×(List (Int×Int×Bool))×Int×List Int)×(Int×Int)×Int×Int)=>ZO m a.1.1 a.1.2.1 a.1.2.2.1 a.1.2.2.2 a.2.1.1 a.2.1.2 a.2.2.1 a.2.2.2) UZ λm a hp=>h m a.1.1 a.1.2.1 a.1.2.2.1 a.1.2.2.2 a.2.1.1 a.2.1.2 a.2.2.1 a.2.2.2 hp
theorem Uj:N4:=N1 λm hk cs f cl sa sf wy mo h=>by
 obtain⟨h1,h2,h3,h4,h5,h6,h7,h8,h9,b7⟩:=h;unfold ZO;(try delta lI gD sT I64 W5 pj8 pj4);intro vals;have az:cs≠[]:=λe=>by rw[e] at h2;simp at h2;omega
 refine⟨(),(m,0),(by and_intros<;>first|rfl|trivial),?_⟩
 let P:Nat->List ((Int×Int)×Int):=λk=>match k with
  |0=>m
  |1=>Eu cs.length mo (sa,sf) wy m 0
  |2=>Eu cs.length mo (sa,sf) wy (Eu cs.length mo (sa,sf) wy m 0) 1
  |_=>Q7n cs.length mo (sa,sf) wy m
 have hP:∀ k:Nat,k<3->P (k+1)=Eu cs.length mo (sa,sf) wy (P k) k:=λk hk=>by
  match k,hk with
  |0,_=>rfl
  |1,_=>rfl
  |2,_=>rfl
 have hb:∀ k:Nat,k<=3->∀ q,0<=XS (P k) q/\XS (P k) q<=4000000000000000+k*4000000000000000:=λk=>by
  induction k with
  |zero=>intro _ q;have:=b7 q;exact⟨this.1,by show XS m q<=_;omega⟩
  |succ k ih =>intro hk q;rw[hP k (by omega),Q0o];have a1:=ih (by omega) q;have a2:=Ug (n:=cs.length) (mo:=mo) (p:=(sa,sf)) (q:=q) (s:=(k:Int)) h8;omega
 refine LoopP.count2 3 (λk d=>d=P k) rfl ?_;intro k d nM hd q hq;subst hd;dsimp only;refine⟨λg=>?_,λg=>?_⟩
 .have g:k<3:=by have:=zo g;omega
  have cF:=λx'=>hq x' g;have hs:I64 (sf+(if (k:Int)=1 then 0 else 1)):=by (try delta I64);simp only[Qq];split<;>omega
  have mr:cs≠[]/\cs.length<=1000/\-1000000<=sa/\sa<=1000000/\-1000000<=(k:Int)/\(k:Int)<=1000000:=⟨az,by omega,by omega,by omega,by omega,by omega⟩;refine⟨mr,trivial,hs,by and_intros<;>first|rfl|trivial,⟨mr,trivial,hs,by and_intros<;>first|rfl|trivial⟩,⟨mr,trivial,hs,by and_intros<;>first|rfl|trivial⟩,λc=>?_,λc=>?_⟩
  .have c:=zo c;have vT:=hb k (by omega) (G7 cs.length (sa,sf) k);have e1:gq.aget (.pair (.i .i64) (.i .i64)) (P k) ((Int.tmod (sa+(k:Int)) cs.length),(sf+(if (k:Int)=1 then 0 else 1))) (0:Int)=XS (P k) (G7 cs.length (sa,sf) k):=rfl;refine⟨?_,λn4=>⟨rfl,?_,?_⟩⟩
   .rw[e1];simp only[Qq];omega
   .simp only[Qq];omega
   .refine⟨(P (k+1),(k:Int)+1),?_,cF _ rfl⟩;have e2:P (k+1)=NY (NY (P k) (G7 cs.length (sa,sf) k) (XS (P k) (G7 cs.length (sa,sf) k))) (G7 cs.length (sa,sf) k) (XS (P k) (G7 cs.length (sa,sf) k)+wy):=by
     rw[SJ,hP k g];unfold Eu;rw[z7 (show (G7 cs.length (sa,sf) k).2<=mo from c)]
    refine⟨by and_intros<;>first|rfl|trivial,?_⟩;refine⟨e2.symm,?_⟩;and_intros<;>first|rfl|trivial
  .have c:=zq c;refine⟨by simp only[Qq];omega,(P (k+1),(k:Int)+1),⟨by and_intros<;>first|rfl|trivial,?_⟩,cF _ rfl⟩;refine⟨?_,by and_intros<;>first|rfl|trivial⟩;show P k=P (k+1);rw[hP k g];unfold Eu;rw[z1 (show ¬ (G7 cs.length (sa,sf) k).2<=mo from c)]
 .have g:k=3:=by have:=zq g;omega
  subst g;and_intros<;>first|rfl|trivial
theorem Mq:∀ {l m:List Nat},l.Nodup->(∀ x∈l,x∈m)->l.length<=m.length
 |[],_,_,_=>Nat.zero_le _
 |x::l,m,hn,hs=>by rw[xn] at hn;have hx:x∈m:=hs x (zl ..);have:=Mq (l:=l) (m:=m.erase x) hn.2 λy hy=>(List.mem_erase_of_ne (by rintro rfl;exact hn.1 hy)).2 (hs y (zi _ hy));rw[List.length_erase_of_mem hx] at this;have:=List.length_pos_of_mem hx;rw[zS];omega
theorem DD {dn:List Nat}{r:Nat}(h:dn.Nodup) (hr:r∉dn):(dn++[r]).Nodup :=
 List.nodup_append.2 ⟨h,List.pairwise_singleton _ _,λa ha b hb e=>by rw[zh] at hb;subst hb;subst e;exact hr ha⟩
theorem LoopP.rng {X:Type}{F:X×List Nat->(X×List Nat->Prop)->Prop}(n:Nat) (J:X->List Nat->Prop) {x0:X}(h0:J x0 [])
  (hr:∀ (x:X) (dn:List Nat),dn.Nodup->(∀ r∈dn,r<n)->J x dn->∀ q:X×List Nat->Prop,(∀ (r:Nat) (x':X),r<n->r∉dn->J x' (dn++[r])->q (x',dn++[r]))->F (x,dn) q):LoopP F (x0,[]):=by
 refine⟨λd=>d.2.Nodup/\(∀ r∈d.2,r<n)/\J d.1 d.2,λd=>n-d.2.length,⟨List.nodup_nil,(λr hr=>by cases hr),h0⟩,λ⟨x,dn⟩ ⟨h1,h2,h3⟩=>?_⟩;have h1:dn.Nodup:=h1;refine hr x dn h1 h2 h3 _ λr x' ah gd hJ=>?_;have hn:=DD h1 gd;have hb:∀ y∈dn++[r],y<n:=λy hy=>by
  rcases zF.1 hy with h|h
  .exact h2 y h
  .rw[zh] at h;omega
 refine⟨⟨hn,hb,hJ⟩,?_⟩;have:=Mq hn (m:=List.range n) λy hy=>zz.2 (hb y hy);rw[wz,zJ,xq] at this;have e:(dn++[r]).length=dn.length+1:=by simp
 show n-(dn++[r]).length<n-dn.length;omega
theorem Z5a {b e:Nat}(hb:b<=121) (he:e<=6):b ^ e<=3138428376721:=by
 have h1:b ^ e<=121 ^ e:=Nat.pow_le_pow_left hb e;have h2:121 ^ e<=121 ^ 6:=Nat.pow_le_pow_right (by omega) he;have h3:121 ^ 6=3138428376721:=by decide
 omega
theorem Q81 {n mo:Nat}(wv:Nat->Int->Bool) (hn:0<n) (hZ:mo<=6) {k:Nat}(hk:k<=60) (q:Int×Int):0<=wyK n mo wv k q/\wyK n mo wv k q<=4000000000000000:=by
 refine⟨DQ n mo wv k q,?_⟩;by_cases hz:wyK n mo wv k q=0
 .omega
 .have hg:=XM.1 (Sm n mo wv hn k q hz);have h1:=A3 (n:=n) (mo:=mo) wv hn k q hg.2.1;have h2:=Z5a (b:=2*k+1) (e:=q.2.toNat) (by omega) (by omega);omega
def Q6w (k:Nat) (q:Int×Int):Int:=if 0<=q.1/\q.1<(k:Int)/\q.2=0 then 1 else 0
theorem Q22 {n mo:Nat}{m:List ((Int×Int)×Int)}{k:Nat}(h:MapW n mo m (Q6w k)) (hk:k<n):MapW n mo (NY m ((k:Int),0) 1) (Q6w (k+1)):=by
 have hg:XS m ((k:Int),0)=0:=by rw[h.get];unfold Q6w;rw[z1 (by dsimp only;omega)]
 have:=h.add (λq=>by unfold Q6w;split<;>omega) (k:=((k:Int),0)) (w:=1) (by omega) (by rw[XM];dsimp only;omega);rw[hg] at this;refine this.congr λq=>?_;unfold Q6w;by_cases e:q=((k:Int),0)
 .subst e;rw[z1 (by dsimp only;omega),z7 rfl,z7 (by dsimp only;omega)];rfl
 .rw[z1 e];have:¬ (q.1=k/\q.2=0):=λh=>e (Prod.ext h.1 h.2);by_cases c:0<=q.1/\q.1<(k:Int)/\q.2=0
  .rw[z7 c,z7 (by omega)];rfl
  .rw[z1 c,z1 (by omega)];rfl
def Q7e (n mo:Nat) (wv:Int->Bool) (m:List ((Int×Int)×Int)) (dn:List Nat) (q:Int×Int):Int:=(dn.map λr=>LL n mo wv (m.getD r ((0,0),0)).1 (m.getD r ((0,0),0)).2 q).sum
theorem Li (n mo:Nat) (wv:Int->Bool) (m:List ((Int×Int)×Int)) (dn:List Nat) (r:Nat) (q:Int×Int):Q7e n mo wv m (dn++[r]) q=Q7e n mo wv m dn q+LL n mo wv (m.getD r ((0,0),0)).1 (m.getD r ((0,0),0)).2 q:=by unfold Q7e;rw[S4];simp
theorem Q3z {n mo:Nat}{wv:Nat->Int->Bool}{k:Nat}{m:List ((Int×Int)×Int)}(h:MapW n mo m (wyK n mo wv k)) {dn:List Nat}(hn:dn.Nodup) (ah:∀ r∈dn,r<m.length) (q:Int×Int) :
  0<=Q7e n mo (wv k) m dn q/\Q7e n mo (wv k) m dn q<=wyK n mo wv (k+1) q/\((∀ r,r<m.length->r∈dn)->Q7e n mo (wv k) m dn q=wyK n mo wv (k+1) q):=by
 have bc:∀ x∈m,0<=LL n mo (wv k) x.1 x.2 q:=λx hx=>Hn (Int.le_of_lt (h.2.1 x hx).2.1);have h1:=As (d:=(((0,0),0):(Int×Int)×Int)) (F:=λx=>LL n mo (wv k) x.1 x.2 q) hn ah bc;have h2:=PO h (λp w=>LL n mo (wv k) p w q) λp=>by
  unfold LL Bz;split
  .split<;>split<;>split<;>rfl
  .rfl
 have e:wyK n mo wv (k+1) q=((Jw n mo).map λp=>LL n mo (wv k) p (wyK n mo wv k p) q).sum:=rfl;rw[e,<-h2];refine⟨VH λr hr=>?_,h1.1,h1.2⟩;have:=ah r hr;rw[Qg this];exact bc _ (zp this)
def Wl:AL ((Int×(List (Int×Int×Bool))×Int×List Int)×Int):=(.cons (.agg (.cons (.k (.i .i64)) (.cons (.k (.list (.pair (.i .i64) (.pair (.i .i64) .bo)))) (.cons (.k (.i .i64)) (.one (.k (.list (.i .i64)))))))) (.one (.k (.i .i64))))
def U7 (a:(Int×(List (Int×Int×Bool))×Int×List Int)×Int):Prop:=a.1.2.2.1=a.1.1/\Qv a.1.1 a.1.2.1=0/\a.1.2.2.2.length<=60/\(∀ r∈a.1.2.2.2,-1<=r/\r<2 ^ a.1.1.toNat)/\0<=a.2/\a.2<=6
def U3 (a:(Int×(List (Int×Int×Bool))×Int×List Int)×Int):List SV:=[]
def W2 (a:(Int×(List (Int×Int×Bool))×Int×List Int)×Int) (m:List ((Int×Int)×Int)):Prop:=MapW a.1.2.1.length a.2.toNat m (wyK a.1.2.1.length a.2.toNat (λk=>wvB a.1.1 a.1.2.1 a.1.2.2.2 k) a.1.2.2.2.length)
def Xa:XSp:=Q20 Nd (.pair (.i .i64) (.i .i64)) (.i .i64) (Q7k Wl U7 U3 W2)
abbrev Wm (hk:Int) (cs:List (Int×Int×Bool)) (f:Int) (cl:List Int):=(hk=hk/\cs=cs/\f=f/\cl=cl/\(([]:List SV)=[]))
def ZN (hk:Int) (cs:List (Int×Int×Bool)) (f:Int) (cl:List Int) (mo:Int):Prop :=
 ∃ (e3:Unit) (d30:(List ((Int×Int)×Int))×Int),((mo=mo/\True/\True/\(lI cs)=(lI cs)/\(0:Int)=d30.2/\True)/\((Wm hk cs f cl)/\(([]:List ((Int×Int)×Int))=d30.1)/\True)) /\
 LoopP (λ(d3:(List ((Int×Int)×Int))×Int) (q3:((List ((Int×Int)×Int))×Int)->Prop) =>
  ((decide (d3.2<(lI cs)))=true ->
   (I64 (d3.2+(1:Int)))/\(∃ d4:(List ((Int×Int)×Int))×Int,((mo=mo/\True/\True/\(lI cs)=(lI cs)/\(d3.2+(1:Int))=d4.2/\True)/\((Wm hk cs f cl)/\((Uo (.pair (.i .i64) (.i .i64)) d3.1 (d3.2,(0:Int)) (1:Int))=d4.1)/\True))/\q3 d4)) /\
  ((decide (d3.2<(lI cs)))=false ->
   ∃ (e7:Unit) (d70:(List ((Int×Int)×Int))×Int),((mo=mo/\True/\True/\(lI cl)=(lI cl)/\(0:Int)=d70.2/\True)/\((Wm hk cs f cl)/\(d3.1=d70.1)/\True)) /\
   LoopP (λ(d7:(List ((Int×Int)×Int))×Int) (q7:((List ((Int×Int)×Int))×Int)->Prop) =>
    ((decide (d7.2<(lI cl)))=true ->
     ∃ (aX:Int×Int×(List ((Int×Int)×Int))) (d100:(List ((Int×Int)×Int))×(List Nat)),((mo=mo/\True/\d7.2=aX.1/\True/\(lI cl)=(lI cl)/\d7.2=aX.2.1/\True/\True)/\((Wm hk cs f cl)/\(([]:List ((Int×Int)×Int))=d100.1)/\(d7.1=aX.2.2/\([]:List Nat)=d100.2)/\True)) /\
     LoopP (λ(d10:(List ((Int×Int)×Int))×(List Nat)) (mX:((List ((Int×Int)×Int))×(List Nat))->Prop) =>
      ((∀ r:Nat,r<(List.length aX.2.2)->r∈d10.2) ->
       (false=true ->
        (d10.2≠[])/\(1<=f/\f<=24/\0<=aX.1/\aX.1<cl.length/\0<=((List.getD aX.2.2 (List.getLastD d10.2 0) ((0,0),0)).1.1)/\((List.getD aX.2.2 (List.getLastD d10.2 0) ((0,0),0)).1.1)<cs.length/\∀ c∈cs,Zg f c=true)/\((wvB f cs cl aX.1.toNat ((List.getD aX.2.2 (List.getLastD d10.2 0) ((0,0),0)).1.1))=true ->
         (0<=((List.getD aX.2.2 (List.getLastD d10.2 0) ((0,0),0)).1.1)/\((List.getD aX.2.2 (List.getLastD d10.2 0) ((0,0),0)).1.1)<cs.length/\cs.length<=60/\0<=((List.getD aX.2.2 (List.getLastD d10.2 0) ((0,0),0)).1.2)/\((List.getD aX.2.2 (List.getLastD d10.2 0) ((0,0),0)).1.2)<=6/\0<=mo/\mo<=6/\0<=((List.getD aX.2.2 (List.getLastD d10.2 0) ((0,0),0)).2)/\((List.getD aX.2.2 (List.getLastD d10.2 0) ((0,0),0)).2)<=4000000000000000/\∀ q,0<=XS d10.1 q/\XS d10.1 q<=4000000000000000)/\(∀ m12:List ((Int×Int)×Int),(m12=Q7n cs.length mo (((List.getD aX.2.2 (List.getLastD d10.2 0) ((0,0),0)).1.1),((List.getD aX.2.2 (List.getLastD d10.2 0) ((0,0),0)).1.2)) ((List.getD aX.2.2 (List.getLastD d10.2 0) ((0,0),0)).2) d10.1)->(∃ d13:(List ((Int×Int)×Int))×(List Nat),((mo=mo/\True/\aX.1=aX.1/\True/\(lI cl)=(lI cl)/\aX.2.1=aX.2.1/\True/\True)/\((Wm hk cs f cl)/\(m12=d13.1)/\(aX.2.2=aX.2.2/\d10.2=d13.2)/\True))/\mX d13))) /\
        ((wvB f cs cl aX.1.toNat ((List.getD aX.2.2 (List.getLastD d10.2 0) ((0,0),0)).1.1))=false ->
         (∃ d14:(List ((Int×Int)×Int))×(List Nat),((mo=mo/\True/\aX.1=aX.1/\True/\(lI cl)=(lI cl)/\aX.2.1=aX.2.1/\True/\True)/\((Wm hk cs f cl)/\(d10.1=d14.1)/\(aX.2.2=aX.2.2/\d10.2=d14.2)/\True))/\mX d14))) /\
       (false=false ->
        (I64 (aX.2.1+(1:Int)))/\(∃ d15:(List ((Int×Int)×Int))×Int,((mo=mo/\True/\True/\(lI cl)=(lI cl)/\(aX.2.1+(1:Int))=d15.2/\True)/\((Wm hk cs f cl)/\(d10.1=d15.1)/\True))/\q7 d15))) /\
      (∀ fy:Nat,fy<(List.length aX.2.2)->fy∉d10.2 ->
       (true=true ->
        ((d10.2++[fy])≠[])/\(1<=f/\f<=24/\0<=aX.1/\aX.1<cl.length/\0<=((List.getD aX.2.2 (List.getLastD (d10.2++[fy]) 0) ((0,0),0)).1.1)/\((List.getD aX.2.2 (List.getLastD (d10.2++[fy]) 0) ((0,0),0)).1.1)<cs.length/\∀ c∈cs,Zg f c=true)/\((wvB f cs cl aX.1.toNat ((List.getD aX.2.2 (List.getLastD (d10.2++[fy]) 0) ((0,0),0)).1.1))=true ->
         (0<=((List.getD aX.2.2 (List.getLastD (d10.2++[fy]) 0) ((0,0),0)).1.1)/\((List.getD aX.2.2 (List.getLastD (d10.2++[fy]) 0) ((0,0),0)).1.1)<cs.length/\cs.length<=60/\0<=((List.getD aX.2.2 (List.getLastD (d10.2++[fy]) 0) ((0,0),0)).1.2)/\((List.getD aX.2.2 (List.getLastD (d10.2++[fy]) 0) ((0,0),0)).1.2)<=6/\0<=mo/\mo<=6/\0<=((List.getD aX.2.2 (List.getLastD (d10.2++[fy]) 0) ((0,0),0)).2)/\((List.getD aX.2.2 (List.getLastD (d10.2++[fy]) 0) ((0,0),0)).2)<=4000000000000000/\∀ q,0<=XS d10.1 q/\XS d10.1 q<=4000000000000000)/\(∀ m16:List ((Int×Int)×Int),(m16=Q7n cs.length mo (((List.getD aX.2.2 (List.getLastD (d10.2++[fy]) 0) ((0,0),0)).1.1),((List.getD aX.2.2 (List.getLastD (d10.2++[fy]) 0) ((0,0),0)).1.2)) ((List.getD aX.2.2 (List.getLastD (d10.2++[fy]) 0) ((0,0),0)).2) d10.1)->(∃ d17:(List ((Int×Int)×Int))×(List Nat),((mo=mo/\True/\aX.1=aX.1/\True/\(lI cl)=(lI cl)/\aX.2.1=aX.2.1/\True/\True)/\((Wm hk cs f cl)/\(m16=d17.1)/\(aX.2.2=aX.2.2/\(d10.2++[fy])=d17.2)/\True))/\mX d17))) /\
        ((wvB f cs cl aX.1.toNat ((List.getD aX.2.2 (List.getLastD (d10.2++[fy]) 0) ((0,0),0)).1.1))=false ->
         (∃ d18:(List ((Int×Int)×Int))×(List Nat),((mo=mo/\True/\aX.1=aX.1/\True/\(lI cl)=(lI cl)/\aX.2.1=aX.2.1/\True/\True)/\((Wm hk cs f cl)/\(d10.1=d18.1)/\(aX.2.2=aX.2.2/\(d10.2++[fy])=d18.2)/\True))/\mX d18))) /\
       (true=false ->
        (I64 (aX.2.1+(1:Int)))/\(∃ d19:(List ((Int×Int)×Int))×Int,((mo=mo/\True/\True/\(lI cl)=(lI cl)/\(aX.2.1+(1:Int))=d19.2/\True)/\((Wm hk cs f cl)/\(d10.1=d19.1)/\True))/\q7 d19)))) d100) /\
    ((decide (d7.2<(lI cl)))=false ->
     (MapW cs.length mo.toNat d7.1 (wyK cs.length mo.toNat (λk=>wvB hk cs cl k) cl.length)))) d70)) d30
def WO:Cx:=⟨[(1000011,(.pair (.pair (.i .i64) (.i .i64)) (.i .i64))),(1000030,(.pair (.pair (.i .i64) (.i .i64)) (.i .i64)))],[(116,JF)],52,[],0,[(145,X7)],[],[],[],false,[],[],[],[]⟩
def WC (hk:Int) (cs:List (Int×Int×Bool)) (f:Int) (cl:List Int) (mo:Int):List (Nat×LoopAnn):=[(0,⟨Unit,(List ((Int×Int)×Int))×Int,[1,2,5,16,17],λe x=>[.val (.i .i64) mo,.box 2 0,.map 11,.val (.i .i64) (((List.length cs):Nat):Int),.val (.i .i64) x.2],λe x=>[(2,.slot 2,.cells [.val (.i .i64) hk,.val (.list (.pair (.i .i64) (.pair (.i .i64) .bo))) cs,.val (.i .i64) f,.val (.list (.i .i64)) cl] (some 134)),(11,.slot 5,.map (.pair (.i .i64) (.i .i64)) (.i .i64) x.1)]⟩),
 (2,⟨Unit,(List ((Int×Int)×Int))×Int,[1,2,5,26,27],λe x=>[.val (.i .i64) mo,.box 2 0,.map 11,.val (.i .i64) (((List.length cl):Nat):Int),.val (.i .i64) x.2],λe x=>[(2,.slot 2,.cells [.val (.i .i64) hk,.val (.list (.pair (.i .i64) (.pair (.i .i64) .bo))) cs,.val (.i .i64) f,.val (.list (.i .i64)) cl] (some 134)),(11,.slot 5,.map (.pair (.i .i64) (.i .i64)) (.i .i64) x.1)]⟩),
 (4,⟨Int×Int×(List ((Int×Int)×Int)),(List ((Int×Int)×Int))×(List Nat),[1,2,7,8,26,27,32],λe x=>[.val (.i .i64) mo,.box 2 0,.val (.i .i64) e.1,.map 30,.val (.i .i64) (((List.length cl):Nat):Int),.val (.i .i64) e.2.1,.box 32 0],λe x=>[(2,.slot 2,.cells [.val (.i .i64) hk,.val (.list (.pair (.i .i64) (.pair (.i .i64) .bo))) cs,.val (.i .i64) f,.val (.list (.i .i64)) cl] (some 134)),(30,.slot 8,.map (.pair (.i .i64) (.i .i64)) (.i .i64) x.1),(32,.slot 32,.iter (.pair (.i .i64) (.i .i64)) (.i .i64) e.2.2 x.2)]⟩)]
theorem UD (a:(Int×(List (Int×Int×Bool))×Int×List Int)×Int):gwp WO (WC a.1.1 a.1.2.1 a.1.2.2.1 a.1.2.2.2 a.2) Z1w 0 (Q6j [.tmp 4] (.pair (.i .i64) (.i .i64)) (.i .i64) (W2 a)) (YH 52 (AL.can Wl a))=ZN a.1.1 a.1.2.1 a.1.2.2.1 a.1.2.2.2 a.2:=by kernel_rfl
abbrev N2:Prop:=XOk Tryz.prog 118 Xa
theorem N7 (h:∀ (hk:Int) (cs:List (Int×Int×Bool)) (f:Int) (cl:List Int) (mo:Int),(f=hk/\Qv hk cs=0/\cl.length<=60/\(∀ r∈cl,-1<=r/\r<2 ^ hk.toNat)/\0<=mo/\mo<=6)->ZN hk cs f cl mo):XOk Tryz.prog 118 Xa :=
 Q0t IY mixed Kg rfl (C:=WO) ⟨(.cons VI .nil),(XsOk.cons Uj XsOk.nil),ItsOk.nil,YlOk.nil,IysOk.nil,XfOk.nil⟩ (L:=λ(a:(Int×(List (Int×Int×Bool))×Int×List Int)×Int)=>WC a.1.1 a.1.2.1 a.1.2.2.1 a.1.2.2.2 a.2) (V:=λ(a:(Int×(List (Int×Int×Bool))×Int×List Int)×Int)=>ZN a.1.1 a.1.2.1 a.1.2.2.1 a.1.2.2.2 a.2) UD λa hp=>h a.1.1 a.1.2.1 a.1.2.2.1 a.1.2.2.2 a.2 hp
theorem V_:N2:=N7 λhk cs f cl mo h=>by
 obtain⟨h1,h2,h3,h4,h5,h6⟩:=h;subst h1;obtain⟨hf,cq,az,ai⟩:=GA h2;have bc:=xB.2 az;unfold ZN;(try delta Wm);(try delta lI gD sT I64 W5 pj8 pj4);refine⟨(),([],0),(by and_intros<;>first|rfl|trivial),?_⟩;refine LoopP.count2 cs.length (λk m=>MapW cs.length mo.toNat m (Q6w k)) ((MapW.nil _ _).congr λq=>by unfold Q6w;rw[z1 (by omega)]) ?_;intro k m hk hm q hq;dsimp only;refine⟨λg=>?_,λg=>?_⟩
 .have g:k<cs.length:=by have:=zo g;omega
  refine⟨by simp only[Qq];omega,(NY m ((k:Int),0) 1,(k:Int)+1),(by and_intros<;>first|rfl|trivial),hq _ g (Q22 hm g)⟩
 .have g:k=cs.length:=by have:=zq g;omega
  subst g;refine⟨(),(m,0),(by and_intros<;>first|rfl|trivial),?_⟩;refine LoopP.count2 cl.length (λk m=>MapW cs.length mo.toNat m (wyK cs.length mo.toNat (λk=>wvB f cs cl k) k)) (hm.congr λq=>rfl) ?_;clear hm hq;intro k m hk hm q hq;dsimp only;refine⟨λg=>?_,λg=>?_⟩
  .have g:k<cl.length:=by have:=zo g;omega
   refine⟨((k:Int),(k:Int),m),([],[]),(by and_intros<;>first|rfl|trivial),?_⟩;refine LoopP.rng m.length (λx dn=>MapW cs.length mo.toNat x (Q7e cs.length mo.toNat (wvB f cs cl k) m dn)) ((MapW.nil _ _).congr λq=>rfl) ?_;intro x dn hn ah hx q' cF;dsimp only;refine⟨λae=>⟨(λc=>by cases c),λ_=>⟨by simp only[Qq];omega,(x,(k:Int)+1),(by and_intros<;>first|rfl|trivial),hq _ g ?_⟩⟩,λr hr gd=>⟨λ_=>?_,(λc=>by cases c)⟩⟩
   .exact hx.congr λq=>(Q3z (wv:=λk=>wvB f cs cl k) hm hn ah q).2.2 ae
   .have ep:List.getLastD (dn++[r]) 0=r:=by simp
    have aK:m[r]∈m:=zp hr;have he:=hm.2.1 _ aK;have mu:=XM.1 he.2.2;have hW:=Q81 (n:=cs.length) (mo:=mo.toNat) (λk=>wvB f cs cl k) bc (by omega) (k:=k) (by omega) m[r].1;have oU:=λq=>Q3z (wv:=λk=>wvB f cs cl k) hm hn ah q;have uT:=λq=>Q81 (n:=cs.length) (mo:=mo.toNat) (λk=>wvB f cs cl k) bc (by omega) (k:=k+1) (by omega) q;simp only[ep,Qg hr,zB];refine⟨by simp,⟨hf.1,hf.2,by omega,by omega,mu.1.1,mu.1.2,ai⟩,λc=>⟨⟨mu.1.1,mu.1.2,cq,mu.2.1,by omega,h5,h6,by omega,by omega,λq=>?_⟩,λm' rp=>⟨(m',dn++[r]),(by and_intros<;>first|rfl|trivial),cF r m' hr gd ?_⟩⟩,λc=>⟨(x,dn++[r]),(by and_intros<;>first|rfl|trivial),cF r x hr gd ?_⟩⟩
    .rw[hx.get q];have:=oU q;have:=uT q;omega
    .subst rp;have hZ:((mo.toNat:Nat):Int)=mo:=by omega
     have:=Z0z hx (λq=>(oU q).1) (p:=m[r].1) (w:=m[r].2) he.2.1 bc ⟨mu.1.1,mu.2.1⟩;rw[hZ] at this;refine MapW.congr this λq=>?_;rw[Li,Qg hr];unfold LL;rw[z7 c,hZ]
    .refine hx.congr λq=>?_;rw[Li,Qg hr];unfold LL;rw[z1 (by rw[c];decide)];omega
  .have g:k=cl.length:=by have:=zq g;omega
   subst g;exact hm
def Cy (hk:Int) (cs:List Wn) (cl:List Int) (fa:Int):Int:=((Jw cs.length fa.toNat).map (wyK cs.length fa.toNat (λk=>wvB hk cs cl k) cl.length)).sum
theorem Q0q (n mo:Nat):(Jw n mo).length=n*(mo+1):=by
 unfold Jw;rw[List.length_flatMap];have:(λ(a:Nat)=>((List.range (mo+1)).map λ(f:Nat)=>(((a:Int),(f:Int)):Int×Int)).length)=λ_=>mo+1:=by funext a;simp
 rw[this];induction n with
 |zero=>simp
 |succ n ih=>rw[List.range_succ,xI,List.sum_append,ih];simp[Nat.succ_mul]
theorem Ia {α:Type}{f:α->Int}{B:Int}:∀ {l:List α},(∀ x∈l,f x<=B)->(l.map f).sum<=l.length*B
 |[],_=>by simp
 |x::l,h=>by
  have h1:=h x (zl ..);have h2:=Ia (l:=l) λy hy=>h y (zi _ hy);rw[zG,xO,zS];have:((l.length+1:Nat):Int)*B=l.length*B+B:=by rw[Int.natCast_add,Int.add_mul];simp
  omega
theorem Q8a {n mo:Nat}(wv:Nat->Int->Bool) (hn:0<n) (ef:n<=60) (hZ:mo<=6) {k:Nat}(hk:k<=60):((Jw n mo).map (wyK n mo wv k)).sum<=420*3138428376721:=by
 have h1:=Ia (l:=Jw n mo) (f:=wyK n mo wv k) (B:=3138428376721) λq hq=>by have hg:=XM.1 hq;have h1:=A3 (n:=n) (mo:=mo) wv hn k q hg.2.1;have h2:=Z5a (b:=2*k+1) (e:=q.2.toNat) (by omega) (by omega);omega
 rw[Q0q] at h1;have:n*(mo+1)<=60*7:=Nat.mul_le_mul ef (by omega);have:((n*(mo+1):Nat):Int)*3138428376721<=420*3138428376721:=Int.mul_le_mul_of_nonneg_right (by omega) (by omega);omega
def Ng:AL ((Int×List (Int×Int×Bool))×List Int×Int):=(.cons (.agg (.cons (.k (.i .i64)) (.one (.k (.list (.pair (.i .i64) (.pair (.i .i64) .bo))))))) (.cons (.k (.list (.i .i64))) (.one (.k (.i .i64)))))
def Ph (a:(Int×List (Int×Int×Bool))×List Int×Int):Prop:=Qv a.1.1 a.1.2=0/\a.2.1.length<=60/\(∀ r∈a.2.1,-1<=r/\r<2 ^ a.1.1.toNat)/\0<=a.2.2/\a.2.2<=6
def NX (a:(Int×List (Int×Int×Bool))×List Int×Int):List SV:=[.val (.i .i64) (0:Int)]
def UA (a:(Int×List (Int×Int×Bool))×List Int×Int) (m:List ((Int×Int)×Int)):Prop:=MapW a.1.2.length a.2.2.toNat m (wyK a.1.2.length a.2.2.toNat (λk=>wvB a.1.1 a.1.2 a.2.1 k) a.2.1.length)
def YT:XSp:=Q26 Nd (.pair (.i .i64) (.i .i64)) (.i .i64) (Q7k Ng Ph NX UA)
def Y7 (hk:Int) (cs:List (Int×Int×Bool)) (cl:List Int) (fa:Int):Prop :=
 ∀ w1:List Value,∀ w2:List Value,(True)/\((!(inI hk 1 24))=true ->
  w2=w2/\w1=w1/\False) /\
 ((!(inI hk 1 24))=false ->
  ((decide ((lI cs) > (60:Int)))=true ->
   w2=w2/\w1=w1/\False) /\
  ((decide ((lI cs) > (60:Int)))=false ->
   (1<=hk/\hk<=24/\cs.length<=1000000)/\((!(!cs.isEmpty&&!(cs.any λc=>!Zg hk c)))=true ->
    w2=w2/\w1=w1/\False) /\
   ((!(!cs.isEmpty&&!(cs.any λc=>!Zg hk c)))=false ->
    w2=w2/\((decide ((lI cl) > (60:Int)))=true ->
     w1=w1/\False) /\
    ((decide ((lI cl) > (60:Int)))=false ->
     (cl.length<=1000000/\∀ x∈cl,(λ(x1:Int)=>1<=hk/\hk<=24) x)/\((cl.any (λ(x1:Int)=>(decide (x1≠-1)&&!inI x1 0 (2 ^ hk.toNat-1))))=true ->
      w1=w1/\False) /\
     ((cl.any (λ(x1:Int)=>(decide (x1≠-1)&&!inI x1 0 (2 ^ hk.toNat-1))))=false ->
      w1=w1/\([fa].length<=1000000)/\((!(!([fa].any λn=>decide (n<(0:Int))||decide ((6:Int)<n))))=true ->
       False) /\
      ((!(!([fa].any λn=>decide (n<(0:Int))||decide ((6:Int)<n))))=false ->
       (hk=hk/\Qv hk cs=0/\cl.length<=60/\(∀ r∈cl,-1<=r/\r<2 ^ hk.toNat)/\0<=fa/\fa<=6)/\(∀ m3:List ((Int×Int)×Int),(MapW cs.length fa.toNat m3 (wyK cs.length fa.toNat (λk=>wvB hk cs cl k) cl.length))->(((0:Int)=(0:Int)/\(([]:List SV)=[]))/\(MapW cs.length fa.toNat m3 (wyK cs.length fa.toNat (λk=>wvB hk cs cl k) cl.length))))))))))
def Je:Cx:=⟨[],[(87,QA),(86,QF),(113,Z0),(112,X3)],33,[3000017],0,[(103,Ym)],[],[],[],false,[],[],[17],[]⟩
def Jf:List (Nat×LoopAnn):=[]
def MQ:Cx:=⟨[(3,(.i .i64))],[(88,J5)],28,[3000016],0,[(73,An Je (λ_=>Jf) c73 [.cell 4 true 4,.tmp 5] 33),(118,Xa)],[],[],[],false,[],[],[16],[]⟩
def MJ (hk:Int) (cs:List (Int×Int×Bool)) (cl:List Int) (fa:Int):List (Nat×LoopAnn):=[]
theorem Tv (a:(Int×List (Int×Int×Bool))×List Int×Int):gwp MQ (MJ a.1.1 a.1.2 a.2.1 a.2.2) c79 0 (Q72 [.tmp 6,.tmp 7] (.pair (.i .i64) (.i .i64)) (.i .i64) (NX a) (UA a)) (YH 28 (AL.can Ng a))=Y7 a.1.1 a.1.2 a.2.1 a.2.2:=by kernel_rfl
abbrev TE:Prop:=XOk Tryz.prog 79 YT
theorem TB (h:∀ (hk:Int) (cs:List (Int×Int×Bool)) (cl:List Int) (fa:Int),(Qv hk cs=0/\cl.length<=60/\(∀ r∈cl,-1<=r/\r<2 ^ hk.toNat)/\0<=fa/\fa<=6)->Y7 hk cs cl fa):XOk Tryz.prog 79 YT :=
 Q0c Q5k mixed Kg rfl (C:=MQ) ⟨(.cons Xe .nil),(XsOk.cons (Y2 Q5h mixed (C:=Je) ⟨(.cons QW (.cons Zc (.cons Jy (.cons UN .nil)))),(XsOk.cons Yc XsOk.nil),ItsOk.nil,YlOk.nil,IysOk.nil,XfOk.nil⟩ (λ_=>Jf)) (XsOk.cons V_ XsOk.nil)),ItsOk.nil,YlOk.nil,IysOk.nil,XfOk.nil⟩ (L:=λ(a:(Int×List (Int×Int×Bool))×List Int×Int)=>MJ a.1.1 a.1.2 a.2.1 a.2.2) (V:=λ(a:(Int×List (Int×Int×Bool))×List Int×Int)=>Y7 a.1.1 a.1.2 a.2.1 a.2.2) Tv λa hp=>h a.1.1 a.1.2 a.2.1 a.2.2 hp
theorem NQ:TE:=TB λhk cs cl fa h=>by
 obtain⟨h1,h2,h3,h4,h5⟩:=h;obtain⟨hf,cq,az,ai⟩:=GA h1;unfold Y7;(try delta lI gD sT I64 W5 pj8 pj4);have c1:(!inI hk 1 24)=false:=by simp only[inI,xR,z8,zC];omega
 have c2:(!(!cs.isEmpty&&!(cs.any λc=>!Zg hk c)))=false:=by
  have e1:cs.isEmpty=false:=by cases cs with|nil=>exact(az rfl).elim|cons _ _=>rfl
  have e2:(cs.any λc=>!Zg hk c)=false:=xP.2 λc hc=>by rw[ai c hc];decide
  rw[e1,e2];rfl
 have c3:(cl.any λx=>(decide (x≠-1)&&!inI x 0 (2 ^ hk.toNat-1)))=false:=xP.2 λx hx=>by
  have:=h3 x hx;by_cases e:x=-1
  .simp[e]
  .have e2:inI x 0 (2 ^ hk.toNat-1)=true:=by
    simp only[inI,z8,zC];omega
   rw[e2];simp
 have c4:(!(!([fa].any λn=>decide (n<(0:Int))||decide ((6:Int)<n))))=false:=by simp only[List.any_cons,List.any_nil,xZ,Bool.not_not,Bool.or_eq_false_iff,x_];omega
 have d1:decide ((((List.length cs):Nat):Int) > (60:Int))=false:=xX (by omega);have d2:decide ((((List.length cl):Nat):Int) > (60:Int))=false:=xX (by omega);intro w1 w2;rw[c1,c2,c3,c4,d1,d2];refine⟨trivial,(λc=>by cases c),λ_=>⟨(λc=>by cases c),λ_=>⟨⟨hf.1,hf.2,by omega⟩,(λc=>by cases c),λ_=>⟨rfl,(λc=>by cases c),λ_=>⟨⟨by omega,λ_ _=>hf⟩,(λc=>by cases c),λ_=>⟨rfl,by simp,(λc=>by cases c),λ_=>⟨⟨rfl,h1,h2,h3,h4,h5⟩,λm hm=>⟨(by and_intros<;>first|rfl|trivial|simp),hm⟩⟩⟩⟩⟩⟩⟩⟩
def D8:AL ((Int×List (Int×Int×Bool))×List Int×Int):=(.cons (.agg (.cons (.k (.i .i64)) (.one (.k (.list (.pair (.i .i64) (.pair (.i .i64) .bo))))))) (.cons (.k (.list (.i .i64))) (.one (.k (.i .i64)))))
def Tn (d:(Int×List (Int×Int×Bool))×List Int×Int):Prop:=Qv d.1.1 d.1.2=0/\d.2.1.length<=60/\(∀ r∈d.2.1,-1<=r/\r<2 ^ d.1.1.toNat)/\0<=d.2.2/\d.2.2<=6
def M_ (d:(Int×List (Int×Int×Bool))×List Int×Int):SV:=.tup [.val (.i .i64) (Cy d.1.1 d.1.2 d.2.1 d.2.2),.val (.i .i64) (0:Int)]
def MW (d:(Int×List (Int×Int×Bool))×List Int×Int):List OB:=[]
def NC:CSp:=VU D8 Tn M_ MW
def YO (hk:Int) (cs:List (Int×Int×Bool)) (cl:List Int) (fa:Int):Prop :=
 (Qv hk cs=0/\cl.length<=60/\(∀ r∈cl,-1<=r/\r<2 ^ hk.toNat)/\0<=fa/\fa<=6)/\(∀ m1:List ((Int×Int)×Int),(MapW cs.length fa.toNat m1 (wyK cs.length fa.toNat (λk=>wvB hk cs cl k) cl.length))->∃ (e4:(List ((Int×Int)×Int))) (d40:Int×(List Nat)),(((0:Int)=d40.1/\(0:Int)=(0:Int)/\True/\True)/\((m1=e4/\([]:List Nat)=d40.2)/\True)) /\
 LoopP (λ(d4:Int×(List Nat)) (q4:(Int×(List Nat))->Prop) =>
  ((∀ r:Nat,r<(List.length e4)->r∈d4.2) ->
   (false=true ->
    (d4.2≠[])/\(I64 (d4.1+(List.getD e4 (List.getLastD d4.2 0) ((0,0),0)).2))/\(∃ d6:Int×(List Nat),(((d4.1+(List.getD e4 (List.getLastD d4.2 0) ((0,0),0)).2)=d6.1/\(0:Int)=(0:Int)/\True/\True)/\((e4=e4/\d4.2=d6.2)/\True))/\q4 d6)) /\
   (false=false ->
    ((d4.1=(Cy hk cs cl fa)/\(0:Int)=(0:Int)/\(([]:List SV)=[]))/\(True)))) /\
  (∀ r5:Nat,r5<(List.length e4)->r5∉d4.2 ->
   (true=true ->
    ((d4.2++[r5])≠[])/\(I64 (d4.1+(List.getD e4 (List.getLastD (d4.2++[r5]) 0) ((0,0),0)).2))/\(∃ d7:Int×(List Nat),(((d4.1+(List.getD e4 (List.getLastD (d4.2++[r5]) 0) ((0,0),0)).2)=d7.1/\(0:Int)=(0:Int)/\True/\True)/\((e4=e4/\(d4.2++[r5])=d7.2)/\True))/\q4 d7)) /\
   (true=false ->
    ((d4.1=(Cy hk cs cl fa)/\(0:Int)=(0:Int)/\(([]:List SV)=[]))/\(True))))) d40)
def Dk:Cx:=⟨[],[],29,[],0,[(79,YT)],[],[],[],false,[],[],[],[]⟩
def RT (hk:Int) (cs:List (Int×Int×Bool)) (cl:List Int) (fa:Int):List (Nat×LoopAnn):=[(0,⟨(List ((Int×Int)×Int)),Int×(List Nat),[6,7,19],λe x=>[.val (.i .i64) x.1,.val (.i .i64) (0:Int),.box 19 0],λe x=>[(19,.slot 19,.iter (.pair (.i .i64) (.i .i64)) (.i .i64) e x.2)]⟩)]
theorem Sa (d:(Int×List (Int×Int×Bool))×List Int×Int):gwp (Dk) (RT d.1.1 d.1.2 d.2.1 d.2.2) c27 0 (UO [.tmp 6,.tmp 7] (M_ d) (MW d)) (Zd 29 (AL.can D8 d))=YO d.1.1 d.1.2 d.2.1 d.2.2:=by kernel_rfl
abbrev Sq:Prop:=OkC Tryz.prog 27 NC
theorem Sb (h:∀ (hk:Int) (cs:List (Int×Int×Bool)) (cl:List Int) (fa:Int),(Qv hk cs=0/\cl.length<=60/\(∀ r∈cl,-1<=r/\r<2 ^ hk.toNat)/\0<=fa/\fa<=6)->YO hk cs cl fa):OkC Tryz.prog 27 NC :=
 Zv Q7b mixed (C:=Dk) (V:=λ(d:(Int×List (Int×Int×Bool))×List Int×Int)=>YO d.1.1 d.1.2 d.2.1 d.2.2) ⟨.nil,(XsOk.cons NQ XsOk.nil),ItsOk.nil,YlOk.nil,IysOk.nil,XfOk.nil⟩ (Sa) λd hp=>h d.1.1 d.1.2 d.2.1 d.2.2 hp
theorem Sj:Sq:=Sb λhk cs cl fa h=>by
 obtain⟨h1,h2,h3,h4,h5⟩:=id h;obtain⟨hf,cq,az,ai⟩:=GA h1;have bc:=xB.2 az;unfold YO;(try delta lI gD sT I64 W5 pj8 pj4);refine⟨h,λm hm=>⟨m,(0,[]),(by and_intros<;>first|rfl|trivial),?_⟩⟩;refine LoopP.rng m.length (λs dn=>s=(dn.map λr=>(m.getD r ((0,0),0)).2).sum) rfl ?_;intro s dn hn ah hs q hq;dsimp only;have hp:∀ x∈m,0<=(λx:(Int×Int)×Int=>x.2) x:=λx hx=>Int.le_of_lt (hm.2.1 x hx).2.1;have ru:=PO hm (λ_ w=>w) λ_=>rfl;have hb:=Q8a (n:=cs.length) (mo:=fa.toNat) (λk=>wvB hk cs cl k) bc (by omega) (by omega) (k:=cl.length) (by omega);have hV:(m.map λx=>x.2).sum=Cy hk cs cl fa:=ru;have vU:Cy hk cs cl fa<=420*3138428376721:=hb;have eB:=λ(dn:List Nat) (hn:dn.Nodup) (ah:∀ r∈dn,r<m.length)=>As (d:=(((0,0),0):(Int×Int)×Int)) (F:=λx=>x.2) hn ah hp;refine⟨λae=>⟨(λc=>by cases c),λ_=>⟨⟨?_,rfl,rfl⟩,trivial⟩⟩,λr hr gd=>⟨λ_=>?_,(λc=>by cases c)⟩⟩
 .rw[hs,<-hV];exact(eB dn hn ah).2 ae
 .have ep:List.getLastD (dn++[r]) 0=r:=by simp
  have a8:s+(m.getD r ((0,0),0)).2=((dn++[r]).map λr=>(m.getD r ((0,0),0)).2).sum:=by rw[hs,S4];simp
  simp only[ep];have aK:=λy (hy:y∈dn++[r])=>show y<m.length from (zF.1 hy).elim (ah y) λh=>by rw[zh] at h;omega
  have hle:=(eB (dn++[r]) (DD hn gd) aK).1;have bG:0<=((dn++[r]).map λr=>(m.getD r ((0,0),0)).2).sum:=VH λy hy=>by have:=aK y hy;rw[Qg this];exact hp _ (zp this)
  refine⟨by simp,?_,(s+(m.getD r ((0,0),0)).2,dn++[r]),(by and_intros<;>first|rfl|trivial),hq r _ hr gd a8⟩;simp only[Qq];rw[a8];omega
def Ff (a b:Int):Int:=if a<b then -1 else if b<a then 1 else 0
def Q5c {α:Type}[Inhabited α] (lt:α->α->Bool) (a:Nat):Nat->List α->List α
 |0,xs=>xs
 |j+1,xs=>if a<j+1/\lt (xs.getD (j+1) default) (xs.getD j default)=true then Q5c lt a j ((xs.set (j+1) (xs.getD j default)).set j (xs.getD (j+1) default)) else xs
def Q4f {α:Type}[Inhabited α] (lt:α->α->Bool) (a:Nat):Nat->List α->List α
 |0,xs=>xs
 |n+1,xs=>Q5c lt a (a+1+n) (Q4f lt a n xs)
def FB {α:Type}[Inhabited α] (f:α×α->Int) (xs:List α) (a b:Nat):List α:=Q4f (λx y=>decide (f (x,y)<0)) a (b-a-1) xs
section
variable {α:Type}[Inhabited α] {lt:α->α->Bool}
theorem F_ {xs:List α}{j:Nat}(h:j+1<xs.length):((xs.set (j+1) (xs.getD j default)).set j (xs.getD (j+1) default)).Perm xs:=by rw[Qg (show j<xs.length by omega),Qg h];exact List.set_set_perm h (by omega)
theorem SY {a:Nat}:∀ j {xs:List α},j<xs.length->(Q5c lt a j xs).Perm xs
 |0,_,_=>.refl _
 |j+1,xs,h=>by
  unfold Q5c;split
  .exact(SY j (by simp;omega)).trans (F_ h)
  .exact .refl _
theorem HC {a:Nat}{xs:List α}:∀ n,a+n<xs.length\/n=0->(Q4f lt a n xs).Perm xs
 |0,_=>.refl _
 |n+1,h=>by have ih:=HC (a:=a) (xs:=xs) n (by omega);unfold Q4f;exact(SY _ (by rw[ih.length_eq];omega)).trans ih
theorem GM {f:α×α->Int}{xs:List α}{a b:Nat}(h:b<=xs.length):(FB f xs a b).Perm xs:=HC _ (by omega)
theorem E4 {xs:List α}{j q:Nat}(h:j+1<xs.length):((xs.set (j+1) (xs.getD j default)).set j (xs.getD (j+1) default)).getD q default=if q=j then xs.getD (j+1) default else if q=j+1 then xs.getD j default else xs.getD q default:=by
 simp only[zd,xH,xQ];by_cases h1:j=q
 .subst h1;rw[z7 rfl,z7 (by omega),z7 rfl];rfl
 .rw[z1 h1,z1 (show ¬ q=j from λe=>h1 e.symm)];by_cases h2:j+1=q
  .subst h2;rw[z7 rfl,z7 h,z7 rfl];rfl
  .rw[z1 h2,z1 (show ¬ q=j+1 from λe=>h2 e.symm)]
def Q52 (lt:α->α->Bool) (i:Nat) (xs:List α):Prop:=∀ p q,p<q->q<=i->lt (xs.getD q default) (xs.getD p default)=false
theorem Lt (has:∀ x y,lt x y=true->lt y x=false) (mw:∀ x y z,lt y x=false->lt z y=false->lt z x=false) {i:Nat}:∀ j {xs:List α},j<=i->i<xs.length->(∀ p q,p<q->q<=i->q≠j->lt (xs.getD q default) (xs.getD p default)=false)->Q52 lt i (Q5c lt 0 j xs)
 |0,xs,_,_,h=>λp q h1 h2=>by rw[Q5c];exact h p q h1 h2 (by omega)
 |j+1,xs,hj,hi,h=>by
  rw[Q5c];split
  .rename_i hc;refine Lt has mw j (by omega) (by simp;exact hi) λp q h1 h2 h3=>?_;rw[E4 (by omega),E4 (by omega),z1 h3];by_cases hq:q=j+1
   .rw[z7 hq];by_cases hp:p=j
    .rw[z7 hp];exact has _ _ hc.2
    .rw[z1 hp,z1 (by omega)];exact h p j (by omega) (by omega) (by omega)
   .rw[z1 hq];by_cases hp:p=j
    .rw[z7 hp];exact h (j+1) q (by omega) h2 (by omega)
    .rw[z1 hp];by_cases cQ:p=j+1
     .rw[z7 cQ];exact h j q (by omega) h2 (by omega)
     .rw[z1 cQ];exact h p q h1 h2 (by omega)
  .rename_i hc;have hc:lt (xs.getD (j+1) default) (xs.getD j default)=false:=by
    cases h5:lt (xs.getD (j+1) default) (xs.getD j default) with
    |false=>rfl
    |true=>exact(hc ⟨by omega,h5⟩).elim
   intro p q h1 h2;by_cases hq:q=j+1
   .subst hq;by_cases hp:p=j
    .subst hp;exact hc
    .exact mw _ _ _ (h p j (by omega) (by omega) (by omega)) hc
   .exact h p q h1 h2 hq
theorem SG (has:∀ x y,lt x y=true->lt y x=false) (mw:∀ x y z,lt y x=false->lt z y=false->lt z x=false) {xs:List α}:∀ n,n<xs.length->Q52 lt n (Q4f lt 0 n xs)
 |0,_=>λp q h1 h2=>by omega
 |n+1,h=>by have ih:=SG has mw (xs:=xs) n (by omega);have hp:=HC (lt:=lt) (a:=0) (xs:=xs) n (by omega);unfold Q4f;rw[show 0+1+n=n+1 by omega];exact Lt has mw (n+1) (ze _) (by rw[hp.length_eq];omega) λp q h1 h2 h3=>ih p q h1 (by omega)
theorem SX {f:α×α->Int}(has:∀ x y,f (x,y)<0->¬ f (y,x)<0) (mw:∀ x y z,¬ f (y,x)<0->¬ f (z,y)<0->¬ f (z,x)<0) (xs:List α):(FB f xs 0 xs.length).Pairwise λx y=>¬ f (y,x)<0:=by
 cases hx:xs with
 |nil=>exact List.Pairwise.nil
 |cons x0 t =>
  have hlen:0<xs.length:=by rw[hx];simp
  rw[<-hx];have h:=SG (lt:=λx y=>decide (f (x,y)<0)) (λx y h=>by simpa using has x y (by simpa using h)) (λx y z h1 h2=>by simpa using mw x y z (by simpa using h1) (by simpa using h2)) (xs:=xs) (xs.length-0-1) (by omega);have hl:=(GM (f:=f) (a:=0) (ze xs.length)).length_eq;refine List.pairwise_iff_getElem.2 λp q hp hq uU=>?_;have:=h p q uU (by omega);have cF:(Q4f (λx y=>decide (f (x,y)<0)) 0 (xs.length-0-1) xs).getD q default=(FB f xs 0 xs.length)[q]:=Qg hq;have bt:(Q4f (λx y=>decide (f (x,y)<0)) 0 (xs.length-0-1) xs).getD p default=(FB f xs 0 xs.length)[p]:=Qg hp;rw[cF,bt] at this;simpa using this
end
def Uz:AL (Int):=(.one (.k (.i .i64)))
def B6 (d:Int):Prop:=True
def VB (d:Int):SV:=.val .bo false
def Vz (d:Int):List OB:=[]
def Kk:CSp:=VU Uz B6 VB Vz
def XL (a:Int):Prop :=
 ((a != a)=false/\(True))
def Uu:Cx:=⟨[],[],6,[],0,[],[],[],[],false,[],[],[],[]⟩
def BO (a:Int):List (Nat×LoopAnn):=[]
theorem BY (d:Int):gwp (Uu) (BO d) Z19 0 (UO [.tmp 2] (VB d) (Vz d)) (Zd 6 (AL.can Uz d))=XL d:=by kernel_rfl
abbrev BV:Prop:=OkC Tryz.prog 111 Kk
theorem H4 (h:∀ (a:Int),(True)->XL a):OkC Tryz.prog 111 Kk :=
 Zv IX mixed (C:=Uu) (V:=λ(d:Int)=>XL d) ⟨.nil,XsOk.nil,ItsOk.nil,YlOk.nil,IysOk.nil,XfOk.nil⟩ (BY) λd hp=>h d hp
theorem BU:BV:=H4 λa _=>by unfold XL;(try delta lI gD sT I64 W5 pj8 pj4);simp
end Go.Proofs.Tryz
namespace Go.Proofs.Tryz
open Go Go.V Go.Proofs
theorem CO (a b:Int):Hl a b=max a b:=by unfold Hl;split<;>omega
section
variable (nm:Nat->Int) (wo:Nat->Bool) (n:Nat)
def arP (a i:Nat):Nat:=(a+i) % n
def ChR (a:Nat):List Nat->Prop
 |[]=>False
 |[o]=>o=0
 |j::i::t=>i<j/\j<n/\wo (arP n a j)=false/\nm (arP n a i)<nm (arP n a j)/\ChR a (i::t)
def inR (at_:Nat) (r:List Int) (m:Nat):List Int:=(List.range m).foldl (λr b=>if 0<r.getD b 0/\wo at_=false/\nm b<nm at_ then r.set at_ (Hl (r.getD at_ 0) (r.getD b 0+1)) else r) r
def UR (a:Nat):Nat->List Int
 |0=>(List.replicate n 0).set a 1
 |k+1=>inR nm wo (arP n a k) (UR a k) n
def PW (a:Nat):Nat->Int
 |0=>0
 |k+1=>Hl (PW a k) ((UR nm wo n a (k+1)).getD (arP n a k) 0)
def Xt:Nat->Int
 |0=>0
 |k+1=>if wo k=true then Xt k else Hl (Xt k) (PW nm wo n k n)
end
section
variable {nm:Nat->Int}{wo:Nat->Bool}{n:Nat}
theorem BG (hn:0<n) (a i:Nat):arP n a i<n:=w5 _ hn
theorem RJ {a i j:Nat}(ha:a<n) (hi:i<n) (hj:j<n) (h:arP n a i=arP n a j):i=j:=by
 unfold arP at h;have e:∀ k,k<n->(a+k) % n=if a+k<n then a+k else a+k-n:=λk hk=>by
  split
  .exact xu (by assumption)
  .rw[Nat.mod_eq_sub_mod (by omega),xu (by omega)]
 rw[e i hi,e j hj] at h;split at h<;>split at h<;>omega
theorem RW {a:Nat}(ha:a<n):arP n a 0=a:=xu ha
theorem Q16 {a p:Nat}(ha:a<n) (hp:p<n):∃ i,i<n/\arP n a i=p:=by
 by_cases h:a<=p
 .exact⟨p-a,by omega,by unfold arP;rw[show a+(p-a)=p by omega,xu hp]⟩
 .exact⟨p+n-a,by omega,by unfold arP;rw[show a+(p+n-a)=p+n by omega,Nat.add_mod_right,xu hp]⟩
theorem A9 {at_:Nat}{r:List Int}{m:Nat}:inR nm wo at_ r (m+1)=if 0<(inR nm wo at_ r m).getD m 0/\wo at_=false/\nm m<nm at_ then (inR nm wo at_ r m).set at_ (Hl ((inR nm wo at_ r m).getD at_ 0) ((inR nm wo at_ r m).getD m 0+1)) else inR nm wo at_ r m:=by unfold inR;rw[List.range_succ,List.foldl_append];rfl
theorem Pc {r:List Int}{i j:Nat}{v:Int}(hi:i<r.length):(r.set i v).getD j 0=if i=j then v else r.getD j 0:=by
 rw[zd,xH];by_cases h:i=j
 .subst h;rw[z7 rfl,z7 rfl,z7 hi];rfl
 .rw[z1 h,z1 h,zd]
theorem Hh {at_:Nat}{r:List Int}(dJ:at_<r.length):∀ m,m<=r.length->(inR nm wo at_ r m).length=r.length/\(∀ p,p≠at_->(inR nm wo at_ r m).getD p 0=r.getD p 0)/\r.getD at_ 0<=(inR nm wo at_ r m).getD at_ 0 /\
  (∀ b,b<m->0<r.getD b 0->wo at_=false->nm b<nm at_->r.getD b 0+1<=(inR nm wo at_ r m).getD at_ 0) /\
  ((inR nm wo at_ r m).getD at_ 0=r.getD at_ 0\/∃ b,b<m/\0<r.getD b 0/\wo at_=false/\nm b<nm at_/\(inR nm wo at_ r m).getD at_ 0=r.getD b 0+1)
 |0,_=>⟨rfl,λ_ _=>rfl,Int.le_refl _,λb hb=>by omega,.inl rfl⟩
 |m+1,hm=>by
  obtain⟨h1,h2,h3,h4,h5⟩:=Hh dJ m (by omega);rw[A9];by_cases hc:0<(inR nm wo at_ r m).getD m 0/\wo at_=false/\nm m<nm at_
  .rw[z7 hc];have fF:m≠at_:=λe=>by rw[e] at hc;omega
   have hb:=h2 m fF;have eg:=CO ((inR nm wo at_ r m).getD at_ 0) ((inR nm wo at_ r m).getD m 0+1);have aW:∀ p,((inR nm wo at_ r m).set at_ (Hl ((inR nm wo at_ r m).getD at_ 0) ((inR nm wo at_ r m).getD m 0+1))).getD p 0=if at_=p then Hl ((inR nm wo at_ r m).getD at_ 0) ((inR nm wo at_ r m).getD m 0+1) else (inR nm wo at_ r m).getD p 0:=λp=>Pc (by rw[h1];exact dJ)
   refine⟨by rw[xQ];exact h1,λp hp=>?_,?_,λb br bB jr jg=>?_,?_⟩
   .rw[aW,z1 (Ne.symm hp)];exact h2 p hp
   .rw[aW,z7 rfl];omega
   .rw[aW,z7 rfl];by_cases e:b=m
    .subst e;omega
    .have:=h4 b (by omega) bB jr jg;omega
   .rw[aW,z7 rfl];by_cases e:(inR nm wo at_ r m).getD at_ 0<=(inR nm wo at_ r m).getD m 0+1
    .exact .inr ⟨m,by omega,by omega,hc.2.1,hc.2.2,by omega⟩
    .rcases h5 with h5|⟨b,g1,g2,g3,g4,g5⟩
     .exact .inl (by omega)
     .exact .inr ⟨b,by omega,g2,g3,g4,by omega⟩
  .rw[z1 hc];refine⟨h1,h2,h3,λb br bB jr jg=>?_,?_⟩
   .by_cases e:b=m
    .subst e;have fF:b≠at_:=λe=>by rw[e] at jg;omega
     exact(hc ⟨by rw[h2 b fF];exact bB,jr,jg⟩).elim
    .exact h4 b (by omega) bB jr jg
   .rcases h5 with h5|⟨b,g1,g2⟩
    .exact .inl h5
    .exact .inr ⟨b,by omega,g2⟩
theorem Q3d {a:Nat}(hn:0<n):∀ {j:Nat}{t:List Nat},ChR nm wo n a (j::t)->j<n
 |j,[],h=>by have:j=0:=h;omega
 |j,i::t,h=>h.2.1
theorem L8 {a:Nat}(ha:a<n):∀ k,k<=n->(UR nm wo n a k).length=n/\(∀ j,j<n->0<=(UR nm wo n a k).getD (arP n a j) 0/\(0<(UR nm wo n a k).getD (arP n a j) 0->(j<k\/j=0)/\∃ t,ChR nm wo n a (j::t)/\((j::t).length:Int)=(UR nm wo n a k).getD (arP n a j) 0)) /\
  (∀ j t,(j<k\/j=0)->ChR nm wo n a (j::t)->((j::t).length:Int)<=(UR nm wo n a k).getD (arP n a j) 0)
 |0,_=>by
  have hn:0<n:=by omega
  have hl:(List.replicate n (0:Int)).length=n:=xK;have hz:∀ p,(List.replicate n (0:Int)).getD p 0=0:=λp=>by
   rw[zd];cases h:(List.replicate n (0:Int))[p]? with
   |none=>rfl
   |some x=>exact(List.mem_replicate.1 (zK h)).2
  have hg:∀ j,(UR nm wo n a 0).getD j 0=if a=j then 1 else 0:=λj=>by show ((List.replicate n (0:Int)).set a 1).getD j 0=_;rw[Pc (by rw[hl];exact ha),hz]
  refine⟨by show ((List.replicate n (0:Int)).set a 1).length=n;rw[xQ,hl],λj hj=>?_,λj t hj hc=>?_⟩
  .rw[hg];refine⟨by split<;>omega,λh=>?_⟩;have e:a=arP n a j:=by
    by_cases e:a=arP n a j
    .exact e
    .rw[z1 e] at h;omega
   have fP:j=0:=RJ ha hj hn (by rw[RW ha];exact e.symm);subst fP;exact⟨.inr rfl,[],rfl,by rw[z7 e];rfl⟩
  .have fP:j=0:=by omega
   subst fP;rw[hg,RW ha,z7 rfl];cases t with
   |nil=>simp
   |cons i t=>have:i<0:=hc.1;omega
 |k+1,hk=>by
  have hn:0<n:=by omega
  obtain⟨h1,h2,h3⟩:=L8 ha k (by omega);have dJ:arP n a k<(UR nm wo n a k).length:=by rw[h1];exact BG hn a k
  obtain⟨g1,g2,g3,g4,g5⟩:=Hh (nm:=nm) (wo:=wo) dJ n (by omega);have e:UR nm wo n a (k+1)=inR nm wo (arP n a k) (UR nm wo n a k) n:=rfl;rw[e];have a_:∀ j,j<n->j≠k->(inR nm wo (arP n a k) (UR nm wo n a k) n).getD (arP n a j) 0=(UR nm wo n a k).getD (arP n a j) 0:=λj hj az=>g2 _ λe=>az (RJ ha hj (by omega) e);refine⟨g1.trans h1,λj hj=>?_,λj t hj hc=>?_⟩
  .by_cases cW:j=k
   .subst cW;have hb:=(h2 j hj).1;refine⟨by omega,λhp=>⟨.inl (by omega),?_⟩⟩;rcases g5 with g5|⟨b,b1,b2,b3,b4,b5⟩
    .rw[g5] at hp |-;obtain⟨_,t,q1,q2⟩:=(h2 j hj).2 hp;exact⟨t,q1,q2⟩
    .obtain⟨i,hi,rfl⟩:=Q16 ha b1;obtain⟨oV,t,q1,q2⟩:=(h2 i hi).2 b2;have bN:i<j:=by
      rcases oV with oV|oV
      .exact oV
      .subst oV;rcases Nat.eq_zero_or_pos j with e0|e0
       .subst e0;omega
       .exact e0
     refine⟨i::t,⟨bN,hj,b3,b4,q1⟩,?_⟩;rw[b5,<-q2];simp
   .rw[a_ j hj cW];refine⟨(h2 j hj).1,λhp=>?_⟩;obtain⟨q0,q⟩:=(h2 j hj).2 hp;exact⟨by omega,q⟩
  .have aO:=Q3d hn hc;by_cases cW:j=k
   .subst cW;cases t with
    |nil =>have fP:j=0:=hc;have:=h3 j [] (.inr fP) hc;omega
    |cons i t =>
     obtain⟨c1,c2,c3,c4,c5⟩:=hc;have hi:=h3 i t (.inl c1) c5;have bc:0<(UR nm wo n a j).getD (arP n a i) 0:=by simp only[zS] at hi;omega
     have:=g4 (arP n a i) (BG hn a i) bc c3 c4;simp only[zS] at hi |-;omega
   .rw[a_ j aO cW];exact h3 j t (by omega) hc
theorem LH {a:Nat}(ha:a<n):∀ k,k<=n->0<=PW nm wo n a k/\(∀ j t,j<k->ChR nm wo n a (j::t)->((j::t).length:Int)<=PW nm wo n a k)/\(PW nm wo n a k=0\/∃ j t,j<k/\ChR nm wo n a (j::t)/\((j::t).length:Int)=PW nm wo n a k)
 |0,_=>⟨Int.le_refl _,λj t h=>by omega,.inl rfl⟩
 |k+1,hk=>by
  obtain⟨h1,h2,h3⟩:=LH ha k (by omega);obtain⟨_,r2,r3⟩:=L8 (nm:=nm) (wo:=wo) ha (k+1) hk;have e:PW nm wo n a (k+1)=Hl (PW nm wo n a k) ((UR nm wo n a (k+1)).getD (arP n a k) 0):=rfl;have eg:=CO (PW nm wo n a k) ((UR nm wo n a (k+1)).getD (arP n a k) 0);obtain⟨p1,p2⟩:=r2 k (by omega);rw[e];refine⟨by clear p2;omega,λj t hj hc=>?_,?_⟩
  .by_cases cW:j=k
   .subst cW;have:=r3 j t (.inl (by clear p2;omega)) hc;clear p2;omega
   .have:=h2 j t (by clear p2;omega) hc;clear p2;omega
  .by_cases hle:PW nm wo n a k<=(UR nm wo n a (k+1)).getD (arP n a k) 0
   .by_cases hz:(UR nm wo n a (k+1)).getD (arP n a k) 0=0
    .exact .inl (by clear p2;omega)
    .obtain⟨_,t,q1,q2⟩:=p2 (by clear p2;omega);exact .inr ⟨k,t,by clear p2;omega,q1,by clear p2;omega⟩
   .rcases h3 with h3|⟨j,t,q1,q2,q3⟩
    .exact .inl (by clear p2;omega)
    .exact .inr ⟨j,t,by clear p2;omega,q2,by clear p2;omega⟩
theorem Rh:∀ k,k<=n->0<=Xt nm wo n k/\(∀ a,a<k->wo a=false->∀ j t,ChR nm wo n a (j::t)->((j::t).length:Int)<=Xt nm wo n k)/\(Xt nm wo n k=0\/∃ a,a<k/\wo a=false/\∃ j t,ChR nm wo n a (j::t)/\((j::t).length:Int)=Xt nm wo n k)
 |0,_=>⟨Int.le_refl _,λa h=>by omega,.inl rfl⟩
 |k+1,hk=>by
  obtain⟨h1,h2,h3⟩:=Rh k (by omega);obtain⟨m1,m2,m3⟩:=LH (nm:=nm) (wo:=wo) (show k<n by omega) n (ze _);simp only[Xt];by_cases hw:wo k=true
  .rw[z7 hw];refine⟨h1,λa ha fp j t hc=>?_,?_⟩
   .by_cases e:a=k
    .subst e;rw[hw] at fp;cases fp
    .exact h2 a (by omega) fp j t hc
   .rcases h3 with h3|⟨a,q1,q2⟩
    .exact .inl h3
    .exact .inr ⟨a,by omega,q2⟩
  .rw[z1 hw];have hw:wo k=false:=by simpa using hw
   have eg:=CO (Xt nm wo n k) (PW nm wo n k n);refine⟨by omega,λa ha fp j t hc=>?_,?_⟩
   .by_cases e:a=k
    .subst e;have:=m2 j t (Q3d (by omega) hc) hc;omega
    .have:=h2 a (by omega) fp j t hc;omega
   .by_cases hle:Xt nm wo n k<=PW nm wo n k n
    .rcases m3 with m3|⟨j,t,q1,q2,q3⟩
     .exact .inl (by omega)
     .exact .inr ⟨k,by omega,hw,j,t,q2,by omega⟩
    .rcases h3 with h3|⟨a,q1,q2,j,t,q3,q4⟩
     .exact .inl (by omega)
     .exact .inr ⟨a,by omega,q2,j,t,q3,by omega⟩
end
def kpL (kp:Nat->Bool) (n:Nat):List Nat:=(List.range n).filter kp
def Q5j (l:List Int):Prop:=∃ A B,l=A++B/\(B++A).Pairwise (·<·)
def PZ (n a p:Nat):Nat:=if a<=p then p-a else p+n-a
section
variable {nm:Nat->Int}{wo:Nat->Bool}{n:Nat}
theorem Dc {a p:Nat}(ha:a<n) (hp:p<n):PZ n a p<n/\arP n a (PZ n a p)=p:=by
 unfold PZ arP;split
 .exact⟨by omega,by rw[show a+(p-a)=p by omega,xu hp]⟩
 .exact⟨by omega,by rw[show a+(p+n-a)=p+n by omega,Nat.add_mod_right,xu hp]⟩
theorem Uh {kp:Nat->Bool}{p:Nat}:p∈kpL kp n<->p<n/\kp p=true:=by unfold kpL;rw[zL,zz]
theorem Mr (kp:Nat->Bool) (n:Nat):(kpL kp n).Pairwise (·<·):=List.Pairwise.filter _ List.pairwise_lt_range
theorem BD {a:Nat}:∀ {L:List Nat},L.Pairwise (·<·)->L=L.filter (λp=>decide (p<a))++L.filter (λp=>!decide (p<a))
 |[],_=>rfl
 |x::t,h=>by
  obtain⟨h1,h2⟩:=xU.1 h;by_cases hx:x<a
  .rw[List.filter_cons_of_pos (by simpa using hx),List.filter_cons_of_neg (by simpa using hx),xF,<-BD h2]
  .have e:t.filter (λp=>decide (p<a))=[]:=List.filter_eq_nil_iff.2 λy hy=>by have:=h1 y hy;simp;omega
   have e2:t.filter (λp=>!decide (p<a))=t:=List.filter_eq_self.2 λy hy=>by have:=h1 y hy;simp;omega
   rw[List.filter_cons_of_neg (by simpa using hx),List.filter_cons_of_pos (by simpa using hx),e,e2];rfl
theorem Lj {a:Nat}(ha:a<n) (fp:wo a=false):∀ {R:List Nat},ChR nm wo n a R->R≠[]/\R.Pairwise (λx y=>y<x/\nm (arP n a y)<nm (arP n a x))/\∀ o∈R,o<n/\wo (arP n a o)=false
 |[],h=>h.elim
 |[o],h=>by have h0:o=0:=h;subst h0;refine⟨by simp,List.pairwise_singleton _ _,λo ho=>?_⟩;rw[zh.1 ho,RW ha];exact⟨by omega,fp⟩
 |j::i::t,h=>by
  obtain⟨h1,h2,h3,h4,h5⟩:=h;obtain⟨g1,g2,g3⟩:=Lj ha fp h5;refine⟨by simp,List.Pairwise.cons (λy hy=>?_) g2,λo ho=>?_⟩
  .rcases zk.1 hy with rfl|hy
   .exact⟨h1,h4⟩
   .have:=(xU.1 g2).1 y hy;exact⟨by omega,by omega⟩
  .rcases zk.1 ho with rfl|ho
   .exact⟨h2,h3⟩
   .exact g3 o ho
theorem Q2d {a:Nat}:∀ {R:List Nat}(az:R≠[]),R.getLast az=0->R.Pairwise (λx y=>y<x/\nm (arP n a y)<nm (arP n a x))->(∀ o∈R,o<n/\wo (arP n a o)=false)->ChR nm wo n a R
 |[],h,_,_,_=>(h rfl).elim
 |[o],_,h,_,_=>h
 |j::i::t,_,h,hp,ho=>by obtain⟨p1,p2⟩:=xU.1 hp;have h1:=p1 i (zl ..);have h2:=ho j (zl ..);exact⟨h1.1,h2.1,h2.2,h1.2,Q2d (R:=i::t) (by simp) (by rw[List.getLast_cons (by simp)] at h;exact h) p2 λo hm=>ho o (zi _ hm)⟩
theorem Q71 {R:List Nat}{f:Nat->Int}(h:R.Pairwise (λx y=>y<x/\f y<f x)) {x y:Nat}(hx:x∈R) (hy:y∈R) (ah:x<y):f x<f y:=by
 obtain⟨i,hi,rfl⟩:=List.getElem_of_mem hx;obtain⟨j,hj,rfl⟩:=List.getElem_of_mem hy;have hp:=List.pairwise_iff_getElem.1 h;rcases Nat.lt_trichotomy i j with h1|h1|h1
 .have:=(hp i j hi hj h1).1;omega
 .subst h1;omega
 .exact(hp j i hj hi h1).2
theorem Ol {a:Nat}(ha:a<n) (fp:wo a=false) {R:List Nat}(hc:ChR nm wo n a R):∃ kp:Nat->Bool,(∀ p,kp p=true->p<n/\wo p=false)/\Q5j ((kpL kp n).map nm)/\(kpL kp n).length=R.length:=by
 obtain⟨h1,h2,h3⟩:=Lj ha fp hc;have aK:∀ p,p∈kpL (λp=>decide (p∈R.map (arP n a))) n<->p∈R.map (arP n a):=λp=>by rw[Uh,zC];refine⟨λh=>h.2,λh=>⟨?_,h⟩⟩;obtain⟨o,ho,rfl⟩:=zu.1 h;exact BG (by omega) a o
 have bg:∀ p,p∈kpL (λp=>decide (p∈R.map (arP n a))) n->PZ n a p∈R/\p=arP n a (PZ n a p):=λp hp=>by obtain⟨o,ho,rfl⟩:=zu.1 ((aK p).1 hp);have ah:arP n a o<n:=BG (by omega) a o;obtain⟨q1,q2⟩:=Dc ha ah;have:PZ n a (arP n a o)=o:=RJ ha q1 (h3 o ho).1 q2;rw[this];exact⟨ho,rfl⟩
 refine⟨λp=>decide (p∈R.map (arP n a)),λp hp=>?_,?_,?_⟩
 .obtain⟨o,ho,rfl⟩:=zu.1 (zo hp);exact⟨BG (by omega) a o,(h3 o ho).2⟩
 .have hs:=Mr (λp=>decide (p∈R.map (arP n a))) n;have bM:=BD (a:=a) hs;have ah:∀ p∈kpL (λp=>decide (p∈R.map (arP n a))) n,p<n:=λp hp=>(Uh.1 hp).1;generalize kpL (λp=>decide (p∈R.map (arP n a))) n=L at *
  refine⟨(L.filter λp=>decide (p<a)).map nm,(L.filter λp=>!decide (p<a)).map nm,by rw[<-xI,<-bM],?_⟩;rw[<-xI,xG];have iv:((L.filter λp=>!decide (p<a))++(L.filter λp=>decide (p<a))).Pairwise (λx y=>PZ n a x<PZ n a y):=by
   refine List.pairwise_append.2 ⟨(hs.filter _).imp_of_mem λ{x y} hx hy h=>?_,(hs.filter _).imp_of_mem λ{x y} hx hy h=>?_,λx hx y hy=>?_⟩
   .have q1:=(zL.1 hx).2;have q2:=(zL.1 hy).2;simp at q1 q2;unfold PZ;rw[z7 q1,z7 q2];omega
   .have q1:=(zL.1 hx).2;have q2:=(zL.1 hy).2;simp at q1 q2;unfold PZ;rw[z1 (by omega),z1 (by omega)];omega
   .have q1:=(zL.1 hx).2;have q2:=(zL.1 hy).2;have q3:=ah x (zL.1 hx).1;simp at q1 q2;unfold PZ;rw[z7 q1,z1 (by omega)];omega
  refine iv.imp_of_mem λ{x y} hx hy h=>?_;have mx:x∈L:=by rcases zF.1 hx with h|h<;>exact(zL.1 h).1
  have my:y∈L:=by rcases zF.1 hy with h|h<;>exact(zL.1 h).1
  obtain⟨x1,x2⟩:=bg x mx;obtain⟨y1,y2⟩:=bg y my;have:=Q71 (f:=λo=>nm (arP n a o)) h2 x1 y1 h;rw[<-x2,<-y2] at this;exact this
 .have fv:(R.map (arP n a)).Nodup:=by
   refine xG.2 (h2.imp_of_mem λ{x y} hx hy h e=>?_);have:=RJ ha (h3 x hx).1 (h3 y hy).1 e;omega
  have hp:(kpL (λp=>decide (p∈R.map (arP n a))) n).Perm (R.map (arP n a)):=(xN ((Mr _ n).imp λh=>by omega) fv).2 aK;rw[hp.length_eq,xS]
theorem Q02 {kp:Nat->Bool}(hk:∀ p,kp p=true->wo p=false) (az:kpL kp n≠[]) (ho:Q5j ((kpL kp n).map nm)):∃ a,a<n/\wo a=false/\∃ j t,ChR nm wo n a (j::t)/\(j::t).length=(kpL kp n).length:=by
 have hs:=Mr kp n;have aK:∀ p∈kpL kp n,p<n/\wo p=false:=λp hp=>⟨(Uh.1 hp).1,hk p (Uh.1 hp).2⟩;generalize kpL kp n=L at *
 obtain⟨A,B,hL,hB,iv⟩:∃ A B:List Nat,L=A++B/\B≠[]/\((B++A).map nm).Pairwise (·<·):=by
  obtain⟨A',B',h1,h2⟩:=ho;obtain⟨A,B,e1,e2,e3⟩:=List.map_eq_append_iff.1 h1;by_cases hB:B=[]
  .subst hB;refine⟨[],A,by simpa using e1,λe=>az (by rw[e1,e];rfl),?_⟩;rw[xL,e2];rw[<-e3] at h2;simpa using h2
  .exact⟨A,B,e1,hB,by rw[xI,e2,e3];exact h2⟩
 cases B with
 |nil=>exact(hB rfl).elim
 |cons a B =>
 have uV:a∈L:=by rw[hL];simp
 obtain⟨ha,fp⟩:=aK a uV;rw[hL] at hs;obtain⟨s1,s2,s3⟩:=List.pairwise_append.1 hs;have bG:∀ p∈a::B,a<=p:=λp hp=>by
  rcases zk.1 hp with rfl|hp
  .exact ze _
  .exact wE ((xU.1 s2).1 p hp)
 have ah:∀ p∈A,p<a:=λp hp=>s3 p hp a (zl ..);have hQ:∀ p∈(a::B)++A,p<n/\wo p=false:=λp hp=>aK p (by
  rw[hL];rcases zF.1 hp with h|h
  .exact xA _ h
  .exact xE _ h)
 have bg:(((a::B)++A).map (PZ n a)).Pairwise (λx y=>x<y/\nm (arP n a x)<nm (arP n a y)):=by
  have h1:((a::B)++A).Pairwise (λx y=>PZ n a x<PZ n a y):=by
   refine List.pairwise_append.2 ⟨s2.imp_of_mem λ{x y} hx hy h=>?_,s1.imp_of_mem λ{x y} hx hy h=>?_,λx hx y hy=>?_⟩
   .have:=bG x hx;have:=bG y hy;unfold PZ;rw[z7 (by omega),z7 (by omega)];omega
   .have:=ah x hx;have:=ah y hy;unfold PZ;rw[z1 (by omega),z1 (by omega)];omega
   .have:=bG x hx;have:=ah y hy;have:=(hQ x (xE _ hx)).1;unfold PZ;rw[z7 (by omega),z1 (by omega)];omega
  rw[xG];refine (h1.and (xG.1 iv)).imp_of_mem λ{x y} hx hy h=>⟨h.1,?_⟩;rw[(Dc ha (hQ x hx).1).2,(Dc ha (hQ y hy).1).2];exact h.2
 have dW:ChR nm wo n a (((a::B)++A).map (PZ n a)).reverse:=by
  refine Q2d (by simp) ?_ (List.pairwise_reverse.2 bg) λo ho=>?_
  .rw[List.getLast_reverse];simp[PZ]
  .rw[List.mem_reverse] at ho;obtain⟨p,hp,rfl⟩:=zu.1 ho;obtain⟨q1,q2⟩:=Dc ha (hQ p hp).1;exact⟨q1,by rw[q2];exact(hQ p hp).2⟩
 refine⟨a,ha,fp,?_⟩;have hlen:(((a::B)++A).map (PZ n a)).reverse.length=L.length:=by rw[List.length_reverse,xS,hL,zJ,zJ,xW]
 cases hr:(((a::B)++A).map (PZ n a)).reverse with
 |nil=>rw[hr] at dW;exact dW.elim
 |cons j t=>exact⟨j,t,by rw[<-hr];exact dW,by rw[<-hr];exact hlen⟩
theorem Hi (nm:Nat->Int) (wo:Nat->Bool) (n:Nat):(∀ kp:Nat->Bool,(∀ p,kp p=true->wo p=false)->Q5j ((kpL kp n).map nm)->((kpL kp n).length:Int)<=Xt nm wo n n) /\
  ∃ kp:Nat->Bool,(∀ p,kp p=true->p<n/\wo p=false)/\Q5j ((kpL kp n).map nm)/\((kpL kp n).length:Int)=Xt nm wo n n:=by
 obtain⟨h1,h2,h3⟩:=Rh (nm:=nm) (wo:=wo) (n:=n) n (ze _);refine⟨λkp hk ho=>?_,?_⟩
 .by_cases az:kpL kp n=[]
  .rw[az];exact h1
  .obtain⟨a,ha,fp,j,t,hc,hl⟩:=Q02 hk az ho;rw[<-hl];exact h2 a ha fp j t hc
 .rcases h3 with h3|⟨a,ha,fp,j,t,hc,hl⟩
  .have e:kpL (λ_=>false) n=[]:=by unfold kpL;simp
   exact⟨λ_=>false,(λp hp=>by cases hp),(by rw[e];exact⟨[],[],rfl,.nil⟩),(by rw[e,h3];rfl)⟩
  .obtain⟨kp,k1,k2,k3⟩:=Ol ha fp hc;exact⟨kp,k1,k2,by rw[k3,hl]⟩
end
def woL (l:List Int) (p:Nat):Bool:=decide ((p:Int)∈l)
section
variable (nm:Nat->Int) (n:Nat)
def VM:Int:=Xt nm (λ_=>false) n n
def mvK:Nat->List Int
 |0=>[]
 |k+1=>if ((mvK k).length:Int)+VM nm n=n then mvK k else if Xt nm (woL (mvK k++[(k:Int)])) n n<VM nm n then mvK k else mvK k++[(k:Int)]
end
section
variable {nm:Nat->Int}{n:Nat}
theorem T_:∀ {l m:List Int},l.Nodup->(∀ x∈l,x∈m)->l.length<=m.length
 |[],_,_,_=>Nat.zero_le _
 |x::l,m,hn,hs=>by have hn:=xn.1 hn;have hx:=hs x (zl ..);have:=T_ (l:=l) (m:=m.erase x) hn.2 λy hy=>(List.mem_erase_of_ne (by rintro rfl;exact hn.1 hy)).2 (hs y (zi _ hy));rw[List.length_erase_of_mem hx] at this;have:0<m.length:=List.length_pos_of_mem hx;simp only[zS];omega
def Q7o (nm:Nat->Int) (n:Nat) (kp:Nat->Bool):Prop:=Q5j ((kpL kp n).map nm)/\((kpL kp n).length:Int)=VM nm n
theorem Iw {kp:Nat->Bool}(h:Q5j ((kpL kp n).map nm)):((kpL kp n).length:Int)<=VM nm n:=(Hi nm (λ_=>false) n).1 kp (λ_ _=>rfl) h
theorem GH (kp:Nat->Bool):∀ n,(kpL kp n).length+(kpL (λp=>!kp p) n).length=n
 |0=>rfl
 |n+1=>by have ih:=GH kp n;unfold kpL at ih |-;rw[List.range_succ,List.filter_append,List.filter_append,zJ,zJ];cases h:kp n<;>simp[h]<;>omega
theorem AV:∀ k,k<=n->(mvK nm n k).Pairwise (·<·)/\(∀ i∈mvK nm n k,0<=i/\i<(k:Int))/\(∃ kp,Q7o nm n kp/\∀ p,kp p=true->woL (mvK nm n k) p=false) /\
  (∀ kp,Q7o nm n kp->∀ p,p<k->(∀ q,q<p->kp q=!woL (mvK nm n k) q)->kp p=false->(p:Int)∈mvK nm n k)
 |0,_=>by refine⟨.nil,(λi hi=>by cases hi),?_,λkp _ p hp=>by omega⟩;obtain⟨kp,k1,k2,k3⟩:=(Hi nm (λ_=>false) n).2;exact⟨kp,⟨k2,k3⟩,λp _=>by simp[mvK,woL]⟩
 |k+1,hk=>by
  obtain⟨h1,h2,⟨sx,h3,h4⟩,h5⟩:=AV k (by omega);have hex:∀ i∈mvK nm n k,0<=i/\i<((k+1:Nat):Int):=λi hi=>by have:=h2 i hi;omega
  simp only[mvK];by_cases c1:((mvK nm n k).length:Int)+VM nm n=n
  .rw[z7 c1];refine⟨h1,hex,⟨sx,h3,h4⟩,λkp ho p hp ha hf=>?_⟩;by_cases mZ:p=k
   .subst mZ;exfalso;have hc:=GH kp n;have hlen:((kpL (λp=>!kp p) n).length:Int)=(mvK nm n p).length:=by have:=ho.2;omega
    have eY:((p:Int)::mvK nm n p).length<=((kpL (λq=>!kp q) n).map λ(q:Nat)=>(q:Int)).length:=by
     have fv:((p:Int)::mvK nm n p).Nodup:=xn.2 ⟨λhm=>by have:=h2 _ hm;omega,h1.imp λh=>by omega⟩;refine T_ fv λx hx=>?_;rcases zk.1 hx with rfl|hx
     .exact zu.2 ⟨p,Uh.2 ⟨by omega,by rw[hf];rfl⟩,rfl⟩
     .have hb:=h2 x hx;refine zu.2 ⟨x.toNat,Uh.2 ⟨by omega,?_⟩,by omega⟩;rw[ha x.toNat (by omega)];unfold woL;rw[show ((x.toNat:Nat):Int)=x by omega,x5 hx];rfl
    rw[xS,zS] at eY;omega
   .exact h5 kp ho p (by omega) ha hf
  .rw[z1 c1];obtain⟨s1,uW,s2,s3,s4⟩:=Hi nm (woL (mvK nm n k++[(k:Int)])) n;have sy:∀ q:Nat,woL (mvK nm n k++[(k:Int)]) q=(woL (mvK nm n k) q||decide (q=k)):=λq=>by
    unfold woL;simp only[zF,zh];rw[Bool.eq_iff_iff];simp only[zy,zC];constructor
    .rintro (h|h)
     .exact .inl h
     .exact .inr (by omega)
    .rintro (h|h)
     .exact .inl h
     .exact .inr (by omega)
   by_cases c2:Xt nm (woL (mvK nm n k++[(k:Int)])) n n<VM nm n
   .rw[z7 c2];refine⟨h1,hex,⟨sx,h3,h4⟩,λkp ho p hp ha hf=>?_⟩;by_cases mZ:p=k
    .subst mZ;exfalso;have:=s1 kp (λq hq=>by
      rw[sy];by_cases uX:q<p
      .have:=ha q uX;rw[hq] at this;have h9:woL (mvK nm n p) q=false:=by cases h:woL (mvK nm n p) q<;>simp[h] at this<;>rfl
       rw[h9,xX (by omega)];rfl
      .have az:q≠p:=λe=>by rw[e,hf] at hq;cases hq
       have h9:woL (mvK nm n p) q=false:=xX λhm=>by have:=h2 _ hm;omega
       rw[h9,xX az];rfl) ho.1
     have:=ho.2;omega
    .exact h5 kp ho p (by omega) ha hf
   .rw[z1 c2];refine⟨List.pairwise_append.2 ⟨h1,List.pairwise_singleton _ _,λx hx y hy=>by rw[zh.1 hy];have:=h2 x hx;omega⟩,λi hi=>?_,⟨uW,⟨s3,?_⟩,λp hp=>(s2 p hp).2⟩,λkp ho p hp ha hf=>?_⟩
    .rcases zF.1 hi with hi|hi
     .exact hex i hi
     .rw[zh.1 hi];omega
    .have:=Iw (nm:=nm) (n:=n) s3;omega
    .by_cases mZ:p=k
     .subst mZ;exact xA _ (zh.2 rfl)
     .refine xE _ (h5 kp ho p (by omega) (λq hq=>?_) hf);rw[ha q hq,sy,xX (by omega),xZ]
theorem Fy:(mvK nm n n).Pairwise (·<·)/\(∀ i∈mvK nm n n,0<=i/\i<(n:Int))/\Q7o nm n (λp=>!woL (mvK nm n n) p)/\((mvK nm n n).length:Int)+VM nm n=n /\
  (∀ kp,Q7o nm n kp->∀ p,p<n->(∀ q,q<p->kp q=!woL (mvK nm n n) q)->kp p=false->(p:Int)∈mvK nm n n):=by
 obtain⟨h1,h2,⟨kp,h3,h4⟩,h5⟩:=AV (nm:=nm) (n:=n) n (ze _);have heq:∀ p,p<n->kp p=!woL (mvK nm n n) p:=by
  intro p;induction p using Nat.strongRecOn with
  |ind p ih =>
   intro hp;cases hk:kp p with
   |true=>rw[h4 p hk];rfl
   |false =>have:=h5 kp h3 p hp (λq hq=>ih q hq (by omega)) hk;have h9:woL (mvK nm n n) p=true:=x5 this;rw[h9];rfl
 have hL:kpL kp n=kpL (λp=>!woL (mvK nm n n) p) n:=List.filter_congr λp hp=>heq p (zz.1 hp);have hO:Q7o nm n (λp=>!woL (mvK nm n n) p):=by unfold Q7o at h3 |-;rw[<-hL];exact h3
 refine⟨h1,h2,hO,?_,h5⟩;have hc:=GH (λp=>!woL (mvK nm n n) p) n;have hlen:(kpL (λp=>!!woL (mvK nm n n) p) n).length=(mvK nm n n).length:=by
  have hp:((kpL (λp=>!!woL (mvK nm n n) p) n).map λ(q:Nat)=>(q:Int)).Perm (mvK nm n n):=by
   refine (xN (xG.2 ((Mr _ n).imp λh=>by omega)) (h1.imp λh=>by omega)).2 λx=>?_;rw[zu];constructor
   .rintro⟨q,hq,rfl⟩;have:=(Uh.1 hq).2;rw[Bool.not_not] at this;exact zo this
   .intro hx;have hb:=h2 x hx;refine⟨x.toNat,Uh.2 ⟨by omega,?_⟩,by omega⟩;rw[Bool.not_not];unfold woL;rw[show ((x.toNat:Nat):Int)=x by omega,x5 hx]
  rw[<-hp.length_eq,xS]
 have:=hO.2;omega
end
def Jx (l:List Int) (i:Int):Int:=if l.length=0 then 0 else l.getD (Int.tmod i l.length).toNat 0
theorem Q1p {l:List Int}{i:Int}(h:∀ x∈l,0<=x/\x<=255) (hi:0<=i):0<=Jx l i/\Jx l i<=255:=by
 unfold Jx;split
 .omega
 .rename_i hz;have e:=Int.tmod_eq_emod_of_nonneg (b:=(l.length:Int)) hi;have g1:=Int.emod_nonneg i (show (l.length:Int)≠0 by omega);have g2:=Int.emod_lt_of_pos i (show (0:Int)<l.length by omega);have g3:(Int.tmod i l.length).toNat<l.length:=by omega
  rw[Qg g3];exact h _ (zp g3)
theorem Cz {l:List Int}(h:l.Pairwise (·<·)):∀ (m i:Nat) (hj:i+m<l.length),l[i]+(m:Int)<=l[i+m]
 |0,i,hj=>by simp
 |m+1,i,hj=>by have h1:=Cz h m i (by omega);have h2:=List.pairwise_iff_getElem.1 h (i+m) (i+(m+1)) (by omega) hj (by omega);omega
theorem Q6h {l:List Int}(h:l.Pairwise (·<·)) (hb:∀ x∈l,0<=x/\x<l.length) {i:Nat}(hi:i<l.length):l[i]=(i:Int):=by
 have h1:=Cz h i 0 (by omega);have h2:=Cz h (l.length-1-i) i (by omega);have h3:=hb _ (zp (show 0<l.length by omega));have h4:=hb _ (zp (show i+(l.length-1-i)<l.length by omega));simp only[xl] at h1;omega
theorem Q0j {rows:List Int}{s:List Wn}(hl:s.length=rows.length) (hs:(s.map (·.1)).Pairwise (·<·)) (hb:∀ c∈s,0<=c.1/\c.1<rows.length/\c.2.1=rows.getD c.1.toNat 0):(s.map λc=>((c.1,(c.2.1,false)):Wn))=Vh rows:=by
 refine List.ext_getElem (by simp[Vh,hl]) λi h1 h2=>?_;have hi:i<s.length:=by simpa using h1
 have h3:=Q6h hs (λx hx=>by
  obtain⟨c,hc,rfl⟩:=zu.1 hx;have:=hb c hc;simp only[xS,hl];omega) (i:=i) (by simpa using hi)
 simp only[xw] at h3;obtain⟨-,-,h4⟩:=hb _ (zp hi);simp only[xw,Vh,List.getElem_range,h3,h4,zB]
def CT (p:Wn×Wn):Int:=Ff p.1.1 p.2.1
def IU (cs:List Wn):List Wn:=(FB CT cs 0 cs.length).map λc=>((c.1,(c.2.1,false)):Wn)
theorem Bi {x y:Wn}:CT (x,y)<0<->x.1<y.1:=by unfold CT Ff;dsimp only;split<;>(try split)<;>omega
theorem FR {rows:List Int}{cs:List Wn}(hl:cs.length=rows.length) (hn:(cs.map (·.1)).Nodup) (hb:∀ c∈cs,0<=c.1/\c.1<rows.length/\c.2.1=rows.getD c.1.toNat 0):IU cs=Vh rows:=by
 have hp:=GM (f:=CT) (a:=0) (ze cs.length);have hs:=SX (f:=CT) (λx y h h2=>by rw[Bi] at h h2;omega) (λx y z h1 h2 h3=>by rw[Bi] at h1 h2 h3;omega) cs;refine Q0j (hp.length_eq.trans hl) ?_ λc hc=>hb c (hp.mem_iff.1 hc);have ef:=(hp.map (·.1)).nodup_iff.2 hn;have dm:((FB CT cs 0 cs.length).map (·.1)).Pairwise (·<=·):=xG.2 (hs.imp λh=>by rw[Bi] at h;omega);exact(dm.and ef).imp λh=>by have:=h.1;have:=h.2;omega
theorem W1 (a:Int) (b:Bool) (m:List (Int×Bool)) (e:Int) (d:Bool):gq.aget (.i .i64) ((a,b)::m) e d=if e=a then b else gq.aget (.i .i64) m e d:=by show (if (e==a)=true then b else gq.aget (.i .i64) m e d)=_;simp only[z_]
theorem Mn (a:Int) (b:Bool) (m:List (Int×Bool)) (k:Int) (v:Bool):Uo (.i .i64) ((a,b)::m) k v=if k=a then (k,v)::m else (a,b)::Uo (.i .i64) m k v:=by show (if (k==a)=true then (k,v)::m else (a,b)::Uo (.i .i64) m k v)=_;simp only[z_]
theorem Oy {F:List Int}{k:Int}(h:k∉F):Uo (.i .i64) (F.map λx=>(x,true)) k true=(F++[k]).map λx=>(x,true):=by
 induction F with
 |nil=>rfl
 |cons a F ih =>have h1:k≠a:=λe=>h (by rw[e];exact zl);have h2:k∉F:=λe=>h (zi _ e);simp only[zG,xF];rw[Mn,z1 h1,ih h2]
theorem Q05 {F:List Int}{k:Int}:gq.aget (.i .i64) (F.map λx=>(x,true)) k false=decide (k∈F):=by
 induction F with
 |nil=>rfl
 |cons a F ih =>
  simp only[zG];rw[W1,ih];by_cases e:k=a
  .simp[e]
  .simp[e]
def nmC (cs:List Wn) (i:Nat):Int:=(cs.getD i X2).1
def woM (m:List (Int×Bool)) (p:Nat):Bool:=gq.aget (.i .i64) m (p:Int) false
def QR (hk:Int) (cs:List Wn):Int:=if Qv hk cs≠0 then Qv hk cs else if (-1:Int)∈cs.map (·.1) then 9 else if (cs.map (·.1)).Nodup then 0 else 6
def SF (hk:Int) (cs:List Wn):List Int:=if QR hk cs=0 then mvK (nmC cs) cs.length cs.length else []
def WA (hk:Int) (cs:List Wn):List Wn:=if QR hk cs=0 then IU cs else []
def Nw (hk:Int) (cs:List Wn):Int:=if QR hk cs=0 then hk else 0
theorem Dz:∀ {m:List (Int×Bool)}{k:Int},(∀ p∈m,p.2=true)->gq.aget (.i .i64) m k false=true->(Uo (.i .i64) m k true).length=m.length/\∀ p∈Uo (.i .i64) m k true,p.2=true
 |[],k,_,h=>by cases h
 |(a,b)::m,k,ht,h=>by
  rw[W1] at h;rw[Mn];by_cases e:k=a
  .rw[z7 e];exact⟨rfl,λp hp=>by
    rcases zk.1 hp with rfl|hp
    .rfl
    .exact ht p (zi _ hp)⟩
  .rw[z1 e] at h |-;obtain⟨h1,h2⟩:=Dz (m:=m) (k:=k) (λp hp=>ht p (zi _ hp)) h;refine⟨by rw[zS,zS,h1],λp hp=>?_⟩;rcases zk.1 hp with rfl|hp
   .exact ht _ (zl ..)
   .exact h2 p hp
theorem VY:∀ {m:List (Int×Bool)}{k:Int},(∀ p∈m,p.2=true)->gq.aget (.i .i64) m k false=false->(Uo (.i .i64) m k true).length=m.length+1/\∀ p∈Uo (.i .i64) m k true,p.2=true
 |[],k,_,h=>⟨rfl,λp hp=>by
   have hp:p∈[(k,true)]:=hp;rw[zh.1 hp]⟩
 |(a,b)::m,k,ht,h=>by
  rw[W1] at h;rw[Mn];by_cases e:k=a
  .rw[z7 e] at h;have:=ht (a,b) (zl ..);rw[h] at this;cases this
  .rw[z1 e] at h |-;obtain⟨h1,h2⟩:=VY (m:=m) (k:=k) (λp hp=>ht p (zi _ hp)) h;refine⟨by rw[zS,zS,h1],λp hp=>?_⟩;rcases zk.1 hp with rfl|hp
   .exact ht _ (zl ..)
   .exact h2 p hp
theorem LB (k:Int) (v:Bool):∀ (m:List (Int×Bool)) (e:Int),gq.aget (.i .i64) (Uo (.i .i64) m k v) e false=if e=k then v else gq.aget (.i .i64) m e false
 |[],e=>by have:Uo (.i .i64) ([]:List (Int×Bool)) k v=[(k,v)]:=rfl;rw[this,W1]
 |(a,b)::m,e=>by
  rw[Mn];by_cases h:k=a
  .subst h;rw[z7 rfl,W1,W1];split<;>rfl
  .rw[z1 h,W1,W1,LB k v m e];by_cases h2:e=a
   .rw[z7 h2,z7 h2,z1 (λh3=>h (h3.symm.trans h2))]
   .rw[z1 h2,z1 h2]
structure SeenI (l:List Int) (m:List (Int×Bool)) (k:Nat):Prop where
 get:∀ x,gq.aget (.i .i64) m x false=decide (x∈l.take k)
 tr:∀ p∈m,p.2=true
 le:m.length<=k
 nd:m.length=k<->(l.take k).Nodup
theorem SeenI.nil (l:List Int):SeenI l [] 0:=⟨λx=>by simp[gq.aget],(λp hp=>by cases hp),ze _,by simp⟩
theorem SeenI.put {l:List Int}{m:List (Int×Bool)}{k:Nat}(h:SeenI l m k) (hk:k<l.length):SeenI l (Uo (.i .i64) m (l.getD k 0) true) (k+1):=by
 have et:l.take (k+1)=l.take k++[l.getD k 0]:=by rw[Yo hk,Qg hk]
 have hle:=h.le;refine⟨λx=>?_,?_,?_,?_⟩
 .rw[LB,et];by_cases e:x=l.getD k 0
  .rw[z7 e,x5];rw[e];exact xA _ (zh.2 rfl)
  .rw[z1 e,h.get];refine decide_eq_decide.2 ⟨λhx=>xE _ hx,λhx=>?_⟩;rcases zF.1 hx with hx|hx
   .exact hx
   .exact(e (zh.1 hx)).elim
 .cases c:gq.aget (.i .i64) m (l.getD k 0) false with
  |true=>exact(Dz h.tr c).2
  |false=>exact(VY h.tr c).2
 .cases c:gq.aget (.i .i64) m (l.getD k 0) false with
  |true=>rw[(Dz h.tr c).1];omega
  |false=>rw[(VY h.tr c).1];omega
 .rw[et,List.nodup_append];have c1:=h.get (l.getD k 0);cases c:gq.aget (.i .i64) m (l.getD k 0) false with
  |true =>rw[c] at c1;rw[(Dz h.tr c).1];refine⟨λe=>by omega,λe=>?_⟩;exact(e.2.2 _ (zo c1.symm) _ (zh.2 rfl) rfl).elim
  |false =>
   rw[c] at c1;rw[(VY h.tr c).1];have c2:=zq c1.symm;refine⟨λe=>⟨h.nd.1 (by omega),by simp,λa ha b hb e2=>?_⟩,λe=>?_⟩
   .rw[zh.1 hb] at e2;rw[e2] at ha;exact c2 ha
   .have:=h.nd.2 e.1;omega
theorem SeenI.full {l:List Int}{m:List (Int×Bool)}(h:SeenI l m l.length):gq.aget (.i .i64) m (-1) false=decide ((-1:Int)∈l)/\(decide ((m.length:Int)<(l.length:Int))=decide (¬ l.Nodup)):=by have h1:=h.get (-1);have h2:=h.nd;have h3:=h.le;rw[List.take_length] at h1 h2;refine⟨h1,decide_eq_decide.2 ?_⟩;rw[<-h2];omega
theorem On (nm:Nat->Int) (wo:Nat->Bool) (n:Nat):0<=Xt nm wo n n/\Xt nm wo n n<=n/\∀ k,k<n->wo k=true->Xt nm wo n n<n:=by
 obtain⟨kp,h1,_,h3⟩:=(Hi nm wo n).2;have hc:=GH kp n;refine⟨by omega,by omega,λk hk hw=>?_⟩;have hf:kp k=false:=by
  cases h:kp k with
  |false=>rfl
  |true=>have:=(h1 k h).2;rw[hw] at this;cases this
 have hm:k∈kpL (λp=>!kp p) n:=Uh.2 ⟨hk,by rw[hf];rfl⟩;have:=List.length_pos_of_mem hm;omega
theorem FE (nm:Nat->Int) (n:Nat):∀ k,(mvK nm n k).length<=k
 |0=>ze _
 |k+1=>by
  have:=FE nm n k;unfold mvK;split
  .omega
  .split
   .omega
   .rw[zJ];simp;omega
theorem Aw (nm:Nat->Int) (n:Nat):∀ k,∀ x∈mvK nm n k,x<(k:Int)
 |0,x,h=>by cases h
 |k+1,x,h=>by
  unfold mvK at h;split at h
  .have:=Aw nm n k x h;omega
  .split at h
   .have:=Aw nm n k x h;omega
   .rcases zF.1 h with h|h
    .have:=Aw nm n k x h;omega
    .rw[zh.1 h];omega
theorem E3 {nm:Nat->Int}{n j:Nat}(h:((mvK nm n j).length:Int)+VM nm n=n):∀ d,mvK nm n (j+d)=mvK nm n j
 |0=>rfl
 |d+1=>by have ih:=E3 h d;show (if ((mvK nm n (j+d)).length:Int)+VM nm n=n then mvK nm n (j+d) else _)=_;rw[ih,z7 h]
theorem Q6f (F:List Int):woM (F.map λx=>(x,true))=woL F:=by
 funext p
 unfold woM woL;exact Q05
theorem Ow {F:List Int}{k:Int}(h:k∉F):Q0e (.i .i64) ((F++[k]).map λx=>(x,true)) k=F.map λx=>(x,true):=by
 have st:∀ (a:Int) (m:List (Int×Bool)),Q0e (.i .i64) ((a,true)::m) k=if k=a then m else (a,true)::Q0e (.i .i64) m k:=λa m=>by show (if (k==a)=true then m else (a,true)::Q0e (.i .i64) m k)=_;simp only[z_]
 induction F with
 |nil =>rw[xk,zG,st,z7 rfl]
 |cons a F ih =>have h1:k≠a:=λe=>h (by rw[e];exact zl);rw[xF,zG,st,z1 h1,ih λe=>h (zi _ e)];rfl
theorem CL {nm:Nat->Int}{wo:Nat->Bool}{n a:Nat}(ha:a<n):∀ k,k<=n->(UR nm wo n a k).length=n/\∀ p,(UR nm wo n a k).getD p 0<=(k:Int)+1
 |0,_=>by
  refine⟨by simp[UR],λp=>?_⟩;show ((List.replicate n (0:Int)).set a 1).getD p 0<=_;rw[Pc (by simpa using ha)];split
  .omega
  .by_cases hp:p<n
   .rw[Qg (by simpa using hp)];simp
   .rw[zd,zr (by simpa using hp)];simp
 |k+1,hk=>by
  obtain⟨h1,h2⟩:=CL ha k (by omega) (nm:=nm) (wo:=wo);have dJ:arP n a k<(UR nm wo n a k).length:=by rw[h1];exact BG (by omega) a k
  obtain⟨i1,i2,_,_,i5⟩:=Hh (nm:=nm) (wo:=wo) dJ n (by omega);have e:UR nm wo n a (k+1)=inR nm wo (arP n a k) (UR nm wo n a k) n:=rfl;rw[e];refine⟨i1.trans h1,λp=>?_⟩;by_cases hp:p=arP n a k
  .rw[hp];rcases i5 with i5|⟨b,_,_,_,_,i5⟩
   .rw[i5];have:=h2 (arP n a k);omega
   .rw[i5];have:=h2 b;omega
  .rw[i2 p hp];have:=h2 p;omega
theorem Q8e {nm:Nat->Int}{wo:Nat->Bool}{n a k m:Nat}(ha:a<n) (hk:k<n) (hm:m<=n):(inR nm wo (arP n a k) (UR nm wo n a k) m).length=n/\∀ p,(inR nm wo (arP n a k) (UR nm wo n a k) m).getD p 0<=(k:Int)+2:=by
 obtain⟨h1,h2⟩:=CL ha k (by omega) (nm:=nm) (wo:=wo);have dJ:arP n a k<(UR nm wo n a k).length:=by rw[h1];exact BG (by omega) a k
 obtain⟨i1,i2,_,_,i5⟩:=Hh (nm:=nm) (wo:=wo) dJ m (by omega);refine⟨i1.trans h1,λp=>?_⟩;by_cases hp:p=arP n a k
 .rw[hp];rcases i5 with i5|⟨b,_,_,_,_,i5⟩
  .rw[i5];have:=h2 (arP n a k);omega
  .rw[i5];have:=h2 b;omega
 .rw[i2 p hp];have:=h2 p;omega
def Kf:AL ((Int×(List (Int×Int×Bool))×Int)×Int):=(.cons (.agg (.cons (.k (.i .i64)) (.cons (.k (.list (.pair (.i .i64) (.pair (.i .i64) .bo)))) (.one (.k (.i .i64)))))) (.one (.k (.i .i64))))
def Gt (m:List (Int×Bool)) (a:(Int×(List (Int×Int×Bool))×Int)×Int):Prop:=0<=a.2/\a.2<a.1.2.1.length/\a.1.2.1.length<=1000
def Kj (m:List (Int×Bool)) (a:(Int×(List (Int×Int×Bool))×Int)×Int):SV:=.val (.i .i64) (PW (nmC a.1.2.1) (woM m) a.1.2.1.length a.2.toNat a.1.2.1.length)
def YF (m:List (Int×Bool)) (a:(Int×(List (Int×Int×Bool))×Int)×Int) (m2:List (Int×Bool)):Prop:=m2=m
def W_:XSp:=Fg Nd 2 (.i .i64) .bo (Z0e Kf Gt Kj YF)
def JU (m:List (Int×Bool)) (hk:Int) (cs:List (Int×Int×Bool)) (f:Int) (fi:Int):Prop:=∀ vals:List Value,
 (0<=(lI cs))/\((lI cs)<=(lI cs))/\((lI cs)*8<=70368744177664)/\((lI cs)<=70368744177664)/\(0<=fi)/\(fi<(List.length (List.replicate (Int.toNat (lI cs)) (0:Int))))/\∀ w1:List Value,w1=w1/\∀ w2:LpD,∃ (e5:Int×(List (Int×Int×Bool))×Int×Int×Int×Int×(List (Int×Int×Bool))×Int×Int×(List (Int×Bool))×Int×(List (Int×Int×Bool))×Int×(List (Int×Int×Bool))×Int×Int×Int×(List (Int×Int×Bool))×Int×Int×LpD×(List Value)) (d50:Int×Int×(List Int)),((True/\True/\True/\(lI cs)=(pj4 e5).1/\(0:Int)=d50.1/\True)/\((hk=e5.1/\cs=e5.2.1/\f=e5.2.2.1/\(([]:List SV)=[]))/\(fi=e5.2.2.2.1/\(([]:List SV)=[]))/\((pj4 (W5 e5)).1=w2/\((hk=(pj4 e5).2.1/\cs=(pj4 e5).2.2.1/\f=(pj4 e5).2.2.2.1/\(([]:List SV)=[]))/\fi=(pj8 e5).1/\True/\True/\True/\True/\True/\True/\True/\True/\True/\True/\True/\cs=(pj4 (pj8 e5)).2.1/\(lI cs)=(pj4 (pj8 e5)).2.2.1/\True/\True/\fi=(pj4 (pj8 e5)).2.2.2.1/\True/\(hk=(W5 e5).1/\cs=(W5 e5).2.1/\f=(W5 e5).2.2.1/\(([]:List SV)=[]))/\fi=(W5 e5).2.2.2.1/\(((([]:List SV)=[]))/\(True/\True/\(([]:List SV)=[])))/\True/\True/\True/\True/\True/\True/\True/\True/\True/\True/\True/\True/\True/\True/\True/\True/\True/\True/\True/\True/\True/\True/\True/\True/\True/\True/\True/\True/\True/\True/\True/\True/\True/\True/\True/\True/\True/\True/\True/\True/\True/\True/\True/\True/\True/\True/\True/\True/\True/\True/\True/\(([]:List SV)=[])))/\(m=(pj8 e5).2.1)/\(hk=(pj8 e5).2.2.1/\cs=(pj8 e5).2.2.2.1/\f=(pj4 (pj8 e5)).1/\(([]:List SV)=[]))/\(True/\(([]:List SV)=[]))/\((0:Int)=d50.2.1/\(([]:List SV)=[]))/\(True/\(([]:List SV)=[]))/\((sT (List.replicate (Int.toNat (lI cs)) (0:Int)) fi (1:Int))=d50.2.2/\false=false)/\((pj4 (W5 e5)).2=vals/\(True/\(([]:List SV)=[])))/\True)) /\
 LoopP (λ(d5:Int×Int×(List Int)) (q5:(Int×Int×(List Int))->Prop) =>
  ((decide (d5.1<(pj4 e5).1))=true ->
   (e5.2.1≠[]/\e5.2.1.length<=1000/\-1000000<=e5.2.2.2.1/\e5.2.2.2.1<=1000000/\-1000000<=d5.1/\d5.1<=1000000)/\(pj4 (W5 e5)).1=w2/\∀ w6:List Value,∃ (e9:Int×Int×Int×LpD×Int×Int×Bool×Int×Int×Int×(List Value)) (d90:(List Int)×Int),((True/\True/\True/\True/\(Int.tmod (e5.2.2.2.1+d5.1) e5.2.1.length)=e9.2.1/\True/\(lI d5.2.2)=e9.2.2.1/\(0:Int)=d90.2/\True)/\(((pj8 e5).2.2.1=hk/\(pj8 e5).2.2.2.1=cs/\(pj4 (pj8 e5)).1=f/\(([]:List SV)=[]))/\(True/\(([]:List SV)=[]))/\((pj8 e5).2.1=m)/\(d5.2.1=e9.1/\(([]:List SV)=[]))/\(True/\(([]:List SV)=[]))/\(d5.2.2=d90.1/\false=false)/\(e9.2.2.2.1=(pj4 (W5 e5)).1/\(((pj4 e5).2.1=hk/\(pj4 e5).2.2.1=cs/\(pj4 e5).2.2.2.1=f/\(([]:List SV)=[]))/\(pj8 e5).1=fi/\True/\True/\True/\True/\True/\True/\True/\True/\True/\True/\True/\(pj4 (pj8 e5)).2.1=cs/\(pj4 (pj8 e5)).2.2.1=(lI cs)/\True/\True/\(pj4 (pj8 e5)).2.2.2.1=fi/\True/\((W5 e5).1=hk/\(W5 e5).2.1=cs/\(W5 e5).2.2.1=f/\(([]:List SV)=[]))/\(W5 e5).2.2.2.1=fi/\(((([]:List SV)=[]))/\(True/\True/\(([]:List SV)=[])))/\True/\True/\True/\True/\True/\True/\True/\True/\True/\True/\True/\True/\True/\True/\True/\True/\True/\True/\True/\True/\True/\True/\True/\True/\True/\True/\True/\True/\True/\True/\True/\True/\True/\True/\True/\True/\True/\True/\True/\True/\True/\True/\True/\True/\True/\True/\True/\True/\True/\True/\True/\(([]:List SV)=[])))/\(e5.1=hk/\e5.2.1=cs/\e5.2.2.1=f/\(([]:List SV)=[]))/\(e5.2.2.2.1=fi/\(([]:List SV)=[]))/\(vals=(pj4 (W5 e5)).2/\(True/\(([]:List SV)=[])))/\((pj8 e9).2.2=w6/\(True/\True/\True/\True/\d5.1=(pj4 e9).1/\True/\True/\True/\(pj4 e5).1=(lI cs)/\d5.1=(pj4 e9).2.1/\(decide (d5.1<(pj4 e5).1))=(pj4 e9).2.2.1/\d5.1=(pj4 e9).2.2.2.1/\True/\(e5.1=hk/\e5.2.1=cs/\e5.2.2.1=f/\(([]:List SV)=[]))/\e5.2.2.2.1=fi/\d5.1=(pj8 e9).1/\(Int.tmod (e5.2.2.2.1+d5.1) e5.2.1.length)=(pj8 e9).2.1/\True/\True/\True/\(([]:List SV)=[])))/\True)) /\
   LoopP (λ(d9:(List Int)×Int) (q9:((List Int)×Int)->Prop) =>
    ((decide (d9.2<e9.2.2.1))=true ->
     (0<=d9.2)/\(d9.2<(List.length d9.1))/\(((decide ((gD d9.1 d9.2 0) > (0:Int)))&&(!(gq.aget (.i .i64) m e9.2.1 false)))=true->0<=e9.2.1)/\(((decide ((gD d9.1 d9.2 0) > (0:Int)))&&(!(gq.aget (.i .i64) m e9.2.1 false)))=true->e9.2.1<(List.length cs))/\(((decide ((gD d9.1 d9.2 0) > (0:Int)))&&(!(gq.aget (.i .i64) m e9.2.1 false)))=true->0<=d9.2)/\(((decide ((gD d9.1 d9.2 0) > (0:Int)))&&(!(gq.aget (.i .i64) m e9.2.1 false)))=true->d9.2<(List.length cs))/\((((decide ((gD d9.1 d9.2 0) > (0:Int)))&&(!(gq.aget (.i .i64) m e9.2.1 false)))&&(decide ((gD cs e9.2.1 (0,(0,false))).1 > (gD cs d9.2 (0,(0,false))).1)))=true ->
      (0<=e9.2.1)/\(e9.2.1<(List.length d9.1))/\(I64 ((gD d9.1 d9.2 0)+(1:Int)))/\(0<=e9.2.1)/\(e9.2.1<(List.length d9.1))/\(I64 (d9.2+(1:Int)))/\(∃ d10:(List Int)×Int,((True/\True/\True/\True/\e9.2.1=e9.2.1/\True/\e9.2.2.1=e9.2.2.1/\(d9.2+(1:Int))=d10.2/\True)/\((hk=hk/\cs=cs/\f=f/\(([]:List SV)=[]))/\(True/\(([]:List SV)=[]))/\(m=m)/\(e9.1=e9.1/\(([]:List SV)=[]))/\(True/\(([]:List SV)=[]))/\((sT d9.1 e9.2.1 (Hl (gD d9.1 e9.2.1 0) ((gD d9.1 d9.2 0)+(1:Int))))=d10.1/\false=false)/\(e9.2.2.2.1=e9.2.2.2.1/\((hk=hk/\cs=cs/\f=f/\(([]:List SV)=[]))/\fi=fi/\True/\True/\True/\True/\True/\True/\True/\True/\True/\True/\True/\cs=cs/\(lI cs)=(lI cs)/\True/\True/\fi=fi/\True/\(hk=hk/\cs=cs/\f=f/\(([]:List SV)=[]))/\fi=fi/\(((([]:List SV)=[]))/\(True/\True/\(([]:List SV)=[])))/\True/\True/\True/\True/\True/\True/\True/\True/\True/\True/\True/\True/\True/\True/\True/\True/\True/\True/\True/\True/\True/\True/\True/\True/\True/\True/\True/\True/\True/\True/\True/\True/\True/\True/\True/\True/\True/\True/\True/\True/\True/\True/\True/\True/\True/\True/\True/\True/\True/\True/\True/\(([]:List SV)=[])))/\(hk=hk/\cs=cs/\f=f/\(([]:List SV)=[]))/\(fi=fi/\(([]:List SV)=[]))/\(vals=vals/\(True/\(([]:List SV)=[])))/\((pj8 e9).2.2=(pj8 e9).2.2/\(True/\True/\True/\True/\(pj4 e9).1=(pj4 e9).1/\True/\True/\True/\(lI cs)=(lI cs)/\(pj4 e9).2.1=(pj4 e9).2.1/\(pj4 e9).2.2.1=(pj4 e9).2.2.1/\(pj4 e9).2.2.2.1=(pj4 e9).2.2.2.1/\True/\(hk=hk/\cs=cs/\f=f/\(([]:List SV)=[]))/\fi=fi/\(pj8 e9).1=(pj8 e9).1/\(pj8 e9).2.1=(pj8 e9).2.1/\True/\True/\True/\(([]:List SV)=[])))/\True))/\q9 d10)) /\
     ((((decide ((gD d9.1 d9.2 0) > (0:Int)))&&(!(gq.aget (.i .i64) m e9.2.1 false)))&&(decide ((gD cs e9.2.1 (0,(0,false))).1 > (gD cs d9.2 (0,(0,false))).1)))=false ->
      (I64 (d9.2+(1:Int)))/\(∃ d11:(List Int)×Int,((True/\True/\True/\True/\e9.2.1=e9.2.1/\True/\e9.2.2.1=e9.2.2.1/\(d9.2+(1:Int))=d11.2/\True)/\((hk=hk/\cs=cs/\f=f/\(([]:List SV)=[]))/\(True/\(([]:List SV)=[]))/\(m=m)/\(e9.1=e9.1/\(([]:List SV)=[]))/\(True/\(([]:List SV)=[]))/\(d9.1=d11.1/\false=false)/\(e9.2.2.2.1=e9.2.2.2.1/\((hk=hk/\cs=cs/\f=f/\(([]:List SV)=[]))/\fi=fi/\True/\True/\True/\True/\True/\True/\True/\True/\True/\True/\True/\cs=cs/\(lI cs)=(lI cs)/\True/\True/\fi=fi/\True/\(hk=hk/\cs=cs/\f=f/\(([]:List SV)=[]))/\fi=fi/\(((([]:List SV)=[]))/\(True/\True/\(([]:List SV)=[])))/\True/\True/\True/\True/\True/\True/\True/\True/\True/\True/\True/\True/\True/\True/\True/\True/\True/\True/\True/\True/\True/\True/\True/\True/\True/\True/\True/\True/\True/\True/\True/\True/\True/\True/\True/\True/\True/\True/\True/\True/\True/\True/\True/\True/\True/\True/\True/\True/\True/\True/\True/\(([]:List SV)=[])))/\(hk=hk/\cs=cs/\f=f/\(([]:List SV)=[]))/\(fi=fi/\(([]:List SV)=[]))/\(vals=vals/\(True/\(([]:List SV)=[])))/\((pj8 e9).2.2=(pj8 e9).2.2/\(True/\True/\True/\True/\(pj4 e9).1=(pj4 e9).1/\True/\True/\True/\(lI cs)=(lI cs)/\(pj4 e9).2.1=(pj4 e9).2.1/\(pj4 e9).2.2.1=(pj4 e9).2.2.1/\(pj4 e9).2.2.2.1=(pj4 e9).2.2.2.1/\True/\(hk=hk/\cs=cs/\f=f/\(([]:List SV)=[]))/\fi=fi/\(pj8 e9).1=(pj8 e9).1/\(pj8 e9).2.1=(pj8 e9).2.1/\True/\True/\True/\(([]:List SV)=[])))/\True))/\q9 d11))) /\
    ((decide (d9.2<e9.2.2.1))=false ->
     (0<=e9.2.1)/\(e9.2.1<(List.length d9.1))/\(pj8 e9).2.2=w6/\e9.2.2.2.1=w2/\((!true)=true ->
      e9.2.2.2.1=w2/\(vals=vals/\(True/\(([]:List SV)=[]))/\(Hl e9.1 (gD d9.1 e9.2.1 0))=(PW (nmC cs) (woM m) cs.length fi.toNat cs.length)/\(m=m))) /\
     ((!true)=false ->
      (I64 ((pj4 e9).2.1+(1:Int)))/\(∃ d12:Int×Int×(List Int),((True/\True/\True/\(lI cs)=(pj4 e5).1/\((pj4 e9).2.1+(1:Int))=d12.1/\True)/\((hk=e5.1/\cs=e5.2.1/\f=e5.2.2.1/\(([]:List SV)=[]))/\(fi=e5.2.2.2.1/\(([]:List SV)=[]))/\((pj4 (W5 e5)).1=e9.2.2.2.1/\((hk=(pj4 e5).2.1/\cs=(pj4 e5).2.2.1/\f=(pj4 e5).2.2.2.1/\(([]:List SV)=[]))/\fi=(pj8 e5).1/\True/\True/\True/\True/\True/\True/\True/\True/\True/\True/\True/\cs=(pj4 (pj8 e5)).2.1/\(lI cs)=(pj4 (pj8 e5)).2.2.1/\True/\True/\fi=(pj4 (pj8 e5)).2.2.2.1/\True/\(hk=(W5 e5).1/\cs=(W5 e5).2.1/\f=(W5 e5).2.2.1/\(([]:List SV)=[]))/\fi=(W5 e5).2.2.2.1/\(((([]:List SV)=[]))/\(True/\True/\(([]:List SV)=[])))/\True/\True/\True/\True/\True/\True/\True/\True/\True/\True/\True/\True/\True/\True/\True/\True/\True/\True/\True/\True/\True/\True/\True/\True/\True/\True/\True/\True/\True/\True/\True/\True/\True/\True/\True/\True/\True/\True/\True/\True/\True/\True/\True/\True/\True/\True/\True/\True/\True/\True/\True/\(([]:List SV)=[])))/\(m=(pj8 e5).2.1)/\(hk=(pj8 e5).2.2.1/\cs=(pj8 e5).2.2.2.1/\f=(pj4 (pj8 e5)).1/\(([]:List SV)=[]))/\(True/\(([]:List SV)=[]))/\((Hl e9.1 (gD d9.1 e9.2.1 0))=d12.2.1/\(([]:List SV)=[]))/\(True/\(([]:List SV)=[]))/\(d9.1=d12.2.2/\false=false)/\((pj4 (W5 e5)).2=vals/\(True/\(([]:List SV)=[])))/\True))/\q5 d12)))) d90) /\
  ((decide (d5.1<(pj4 e5).1))=false ->
   (pj4 (W5 e5)).1=w2/\((pj4 (W5 e5)).2=vals/\(True/\(([]:List SV)=[]))/\d5.2.1=(PW (nmC cs) (woM m) cs.length fi.toNat cs.length)/\((pj8 e5).2.1=m)))) d50
def ZB:Cx:=⟨[],[],6,[],0,[],[],[],[],false,[],[],[],[]⟩
def Zz:List (Nat×LoopAnn):=[]
def Zp:Cx:=⟨[],[(78,J1)],20,[],0,[],[],[],[],false,[],[],[],[]⟩
def Zq:List (Nat×LoopAnn):=[(0,⟨Int×(List (Int×Int×Bool))×Int×Int×Int×Int×(List (Int×Int×Bool))×Int×Int×(List (Int×Bool))×Int×(List (Int×Int×Bool))×Int×(List (Int×Int×Bool))×Int×Int×Int×(List (Int×Int×Bool))×Int×Int×LpD×(List Value),Int×Int×(List Int),[0,1,2,8,9],λe x=>[.dd 2000000 .yv,.box 2200002 0,.box 2200003 0,.val (.i .i64) e.2.2.2.2.1,.val (.i .i64) x.1],λe x=>[(2200002,.slot 1,.cells [.val (.i .i64) e.1,.val (.list (.pair (.i .i64) (.pair (.i .i64) .bo))) e.2.1,.val (.i .i64) e.2.2.1] (some 119)),(2200003,.slot 2,.cells [.val (.i .i64) e.2.2.2.1] (some 3)),(2000000,.key 2000000,.lpf [.agg [.val (.i .i64) e.2.2.2.2.2.1,.val (.list (.pair (.i .i64) (.pair (.i .i64) .bo))) e.2.2.2.2.2.2.1,.val (.i .i64) e.2.2.2.2.2.2.2.1],.val (.i .i64) e.2.2.2.2.2.2.2.2.1,.map 0,.box 3 0,.any,.box 5 0,.box 6 0,.box 7 0,.any,.any,.any,.box 3 0,.box 3 1,.val (.list (.pair (.i .i64) (.pair (.i .i64) .bo))) e.2.2.2.2.2.2.2.2.2.2.2.2.2.1,.val (.i .i64) e.2.2.2.2.2.2.2.2.2.2.2.2.2.2.1,.lst 15,.lst 15,.val (.i .i64) e.2.2.2.2.2.2.2.2.2.2.2.2.2.2.2.1,.any,.agg [.val (.i .i64) e.2.2.2.2.2.2.2.2.2.2.2.2.2.2.2.2.1,.val (.list (.pair (.i .i64) (.pair (.i .i64) .bo))) e.2.2.2.2.2.2.2.2.2.2.2.2.2.2.2.2.2.1,.val (.i .i64) e.2.2.2.2.2.2.2.2.2.2.2.2.2.2.2.2.2.2.1],.val (.i .i64) e.2.2.2.2.2.2.2.2.2.2.2.2.2.2.2.2.2.2.2.1,.fn 154 [] [.box 2200002 0,.box 2200003 0],.any,.any,.any,.any,.any,.any,.any,.any,.any,.any,.any,.any,.any,.any,.any,.any,.any,.any,.any,.any,.any,.any,.any,.any,.any,.any,.any,.any,.any,.any,.any,.any,.any,.any,.any,.any,.any,.any,.any,.any,.any,.any,.any,.any,.any,.any,.any,.any,.any,.any,.any] e.2.2.2.2.2.2.2.2.2.2.2.2.2.2.2.2.2.2.2.2.1 .rdy),(0,.key 0,.map (.i .i64) .bo e.2.2.2.2.2.2.2.2.2.1),(3,.key 3,.cells [.val (.i .i64) e.2.2.2.2.2.2.2.2.2.2.1,.val (.list (.pair (.i .i64) (.pair (.i .i64) .bo))) e.2.2.2.2.2.2.2.2.2.2.2.1,.val (.i .i64) e.2.2.2.2.2.2.2.2.2.2.2.2.1] (some 119)),(5,.key 5,.cells [.map 0] (some 122)),(6,.key 6,.cells [.val (.i .i64) x.2.1] (some 3)),(7,.key 7,.cells [.lst 15] (some 27)),(15,.cell 7 0,.lst 3 (.i .i64) x.2.2 false),(4000000,.key 4000000,.stk [.map 0] e.2.2.2.2.2.2.2.2.2.2.2.2.2.2.2.2.2.2.2.2.2)]⟩)]
def KK:Cx:=⟨[(3,(.i .i64))],[],73,[],0,[(138,An ZB (λ_=>Zz) Z1i [.tmp 4] 6)],[],[],[],false,[],[(154,Z1l Zp Zq Z1y 20)],[],[]⟩
def KZ (m:List (Int×Bool)) (hk:Int) (cs:List (Int×Int×Bool)) (f:Int) (fi:Int) (vals:List Value):List (Nat×LoopAnn):=[(2,⟨Int×Int×Int×LpD×Int×Int×Bool×Int×Int×Int×(List Value),(List Int)×Int,[3,5,6,7,8,23,24,25],λe x=>[.box 3 0,.box 5 0,.box 6 0,.box 7 0,.val (.i .i64) e.2.1,.lst 15,.val (.i .i64) e.2.2.1,.val (.i .i64) x.2],λe x=>[(3,.slot 3,.cells [.val (.i .i64) hk,.val (.list (.pair (.i .i64) (.pair (.i .i64) .bo))) cs,.val (.i .i64) f] (some 119)),(5,.slot 5,.cells [.map 0] (some 122)),(0,.cell 5 0,.map (.i .i64) .bo m),(6,.slot 6,.cells [.val (.i .i64) e.1] (some 3)),(7,.slot 7,.cells [.lst 15] (some 27)),(15,.cell 7 0,.lst 3 (.i .i64) x.1 false),(2000000,.key 2000000,.lpf [.agg [.val (.i .i64) hk,.val (.list (.pair (.i .i64) (.pair (.i .i64) .bo))) cs,.val (.i .i64) f],.val (.i .i64) fi,.map 0,.box 3 0,.any,.box 5 0,.box 6 0,.box 7 0,.any,.any,.any,.box 3 0,.box 3 1,.val (.list (.pair (.i .i64) (.pair (.i .i64) .bo))) cs,.val (.i .i64) (((List.length cs):Nat):Int),.lst 15,.lst 15,.val (.i .i64) fi,.any,.agg [.val (.i .i64) hk,.val (.list (.pair (.i .i64) (.pair (.i .i64) .bo))) cs,.val (.i .i64) f],.val (.i .i64) fi,.fn 154 [] [.box 2200002 0,.box 2200003 0],.any,.any,.any,.any,.any,.any,.any,.any,.any,.any,.any,.any,.any,.any,.any,.any,.any,.any,.any,.any,.any,.any,.any,.any,.any,.any,.any,.any,.any,.any,.any,.any,.any,.any,.any,.any,.any,.any,.any,.any,.any,.any,.any,.any,.any,.any,.any,.any,.any,.any,.any] e.2.2.2.1 .busy),(2200002,.key 2200002,.cells [.val (.i .i64) hk,.val (.list (.pair (.i .i64) (.pair (.i .i64) .bo))) cs,.val (.i .i64) f] (some 119)),(2200003,.key 2200003,.cells [.val (.i .i64) fi] (some 3)),(4000000,.key 4000000,.stk [.map 0] vals),(200000099999,.key 200000099999,.stk [.dd 2000000 .yv,.box 2200002 0,.box 2200003 0,.any,.val (.i .i64) e.2.2.2.2.1,.any,.any,.any,.val (.i .i64) (((List.length cs):Nat):Int),.val (.i .i64) e.2.2.2.2.2.1,.val .bo e.2.2.2.2.2.2.1,.val (.i .i64) e.2.2.2.2.2.2.2.1,.dd 2000000 .yv,.agg [.val (.i .i64) hk,.val (.list (.pair (.i .i64) (.pair (.i .i64) .bo))) cs,.val (.i .i64) f],.val (.i .i64) fi,.val (.i .i64) e.2.2.2.2.2.2.2.2.1,.val (.i .i64) e.2.2.2.2.2.2.2.2.2.1,.any,.any,.any] e.2.2.2.2.2.2.2.2.2.2)]⟩)]
theorem G_ (m:List (Int×Bool)) (a:(Int×(List (Int×Int×Bool))×Int)×Int):(∀ vals,gwp KK (KZ m a.1.1 a.1.2.1 a.1.2.2 a.2 vals) Z15 0 (OI vals [.cell 6 false 1] (Kj m a) (.i .i64) .bo (YF m a)) (Nh 73 2 (.i .i64) .bo m vals (AL.can Kf a)))=JU m a.1.1 a.1.2.1 a.1.2.2 a.2:=by kernel_rfl
abbrev GW:Prop:=XOk Tryz.prog 107 W_
theorem Dx (h:∀ (m:List (Int×Bool)) (hk:Int) (cs:List (Int×Int×Bool)) (f:Int) (fi:Int),(0<=fi/\fi<cs.length/\cs.length<=1000)->JU m hk cs f fi):XOk Tryz.prog 107 W_ :=
 S1 Om mixed Kg rfl (C:=KK) ⟨.nil,(XsOk.cons (Y2 Ix mixed (C:=ZB) ⟨.nil,XsOk.nil,ItsOk.nil,YlOk.nil,IysOk.nil,XfOk.nil⟩ (λ_=>Zz)) XsOk.nil),ItsOk.nil,YlOk.nil,(IysOk.cons (CZ Ik mixed (C:=Zp) ⟨(.cons XO .nil),XsOk.nil,ItsOk.nil,YlOk.nil,IysOk.nil,XfOk.nil⟩ Zq) IysOk.nil),XfOk.nil⟩ (L:=λm (a:(Int×(List (Int×Int×Bool))×Int)×Int) vals=>KZ m a.1.1 a.1.2.1 a.1.2.2 a.2 vals) (V:=λm (a:(Int×(List (Int×Int×Bool))×Int)×Int)=>JU m a.1.1 a.1.2.1 a.1.2.2 a.2) G_ λm a hp=>h m a.1.1 a.1.2.1 a.1.2.2 a.2 hp
set_option maxHeartbeats 1000000 in
theorem G1:GW:=Dx λm hk cs f fi h=>by
 obtain⟨h1,h2,h3⟩:=h;unfold JU;(try delta lI gD sT I64 W5 pj8 pj4);intro vals;obtain⟨a,rfl⟩:=xy h1;have ha:a<cs.length:=by omega
 have kn:0<cs.length:=by omega
 have az:cs≠[]:=xB.1 kn;repeat (first|(refine And.intro (by first|omega|(simp;omega)|rfl|trivial) ?_))
 intro w1;repeat (first|refine⟨trivial,?_⟩|refine⟨rfl,?_⟩)
 intro w2;refine⟨(hk,cs,f,(a:Int),(cs.length:Int),hk,cs,f,(a:Int),m,hk,cs,f,cs,(cs.length:Int),(a:Int),hk,cs,f,(a:Int),w2,vals),(0,0,(List.replicate cs.length 0).set a 1),by and_intros<;>first|rfl|trivial,?_⟩;refine⟨λd=>∃ k:Nat,k<=cs.length/\d=((k:Int),PW (nmC cs) (woM m) cs.length a k,UR (nmC cs) (woM m) cs.length a k),λd=>cs.length-d.1.toNat,⟨0,by omega,rfl⟩,?_⟩;rintro _ ⟨k,bp,rfl⟩;dsimp only;refine⟨λc=>?_,λc=>?_⟩
 .have ah:k<cs.length:=by have:=zo c;omega
  have uY:Int.tmod ((a:Int)+(k:Int)) (cs.length:Int)=((arP cs.length a k:Nat):Int):=by rw[Int.tmod_eq_emod_of_nonneg (by omega)];rfl
  have dJ:=BG kn a k;have dp:=(CL ha k bp (nm:=nmC cs) (wo:=woM m)).1;rw[uY];refine⟨⟨az,h3,by omega,by omega,by omega,by omega⟩,?_⟩;repeat (first|refine⟨trivial,?_⟩|refine⟨rfl,?_⟩)
  intro w6;generalize hA:arP cs.length a k=A at *
  refine⟨(PW (nmC cs) (woM m) cs.length a k,(A:Int),((UR (nmC cs) (woM m) cs.length a k).length:Int),w2,(k:Int),(k:Int),true,(k:Int),(k:Int),(A:Int),w6),(UR (nmC cs) (woM m) cs.length a k,0),?_,?_⟩
  .and_intros<;>first|rfl|trivial|exact c
  refine⟨λd=>∃ b:Nat,b<=cs.length/\d=(inR (nmC cs) (woM m) A (UR (nmC cs) (woM m) cs.length a k) b,(b:Int)),λd=>cs.length-d.2.toNat,⟨0,by omega,rfl⟩,?_⟩;rintro _ ⟨b,br,rfl⟩;dsimp only;obtain⟨il,ib⟩:=Q8e (nm:=nmC cs) (wo:=woM m) (m:=b) ha ah br;rw[hA] at il ib;refine⟨λc2=>?_,λc2=>?_⟩
  .have oW:b<cs.length:=by have:=zo c2;omega
   have pH:=A9 (nm:=nmC cs) (wo:=woM m) (at_:=A) (r:=UR (nmC cs) (woM m) cs.length a k) (m:=b);generalize inR (nmC cs) (woM m) A (UR (nmC cs) (woM m) cs.length a k) b=r at *
   have nj:=ib b;simp only[zB];have aj:(((decide (r.getD b 0 > 0)&&!(gq.aget (.i .i64) m (A:Int) false))&&decide ((cs.getD A (0,(0,false))).1 > (cs.getD b (0,(0,false))).1))=true)<->(0<r.getD b 0/\woM m A=false/\nmC cs b<nmC cs A):=by
    simp only[z8,zC,Bool.not_eq_true',gt_iff_lt];unfold woM nmC X2;constructor
    .rintro⟨⟨p,q⟩,s⟩;exact⟨p,q,s⟩
    .rintro⟨p,q,s⟩;exact⟨⟨p,q⟩,s⟩
   repeat (first|(refine And.intro (by first|omega|rfl|trivial|(intro _;omega)) ?_))
   refine⟨λc3=>?_,λc3=>?_⟩
   .have c4:=aj.1 c3;rw[z7 c4] at pH;repeat (first|(refine And.intro (by first|omega|(rw[Qq];omega)|rfl|trivial) ?_))
    refine⟨(r.set A (Hl (r.getD A 0) (r.getD b 0+1)),(b:Int)+1),by and_intros<;>first|rfl|trivial,⟨b+1,oW,by rw[pH];rfl⟩,by dsimp only;omega⟩
   .have c4:¬ (0<r.getD b 0/\woM m A=false/\nmC cs b<nmC cs A):=λc4=>by
     rw[aj.2 c4] at c3;cases c3
    rw[z1 c4] at pH;repeat (first|(refine And.intro (by first|omega|(rw[Qq];omega)|rfl|trivial) ?_))
    refine⟨(r,(b:Int)+1),by and_intros<;>first|rfl|trivial,⟨b+1,oW,by rw[pH];rfl⟩,by dsimp only;omega⟩
  .have bB:b=cs.length:=by have:=zq c2;omega
   subst bB;have er:inR (nmC cs) (woM m) A (UR (nmC cs) (woM m) cs.length a k) cs.length=UR (nmC cs) (woM m) cs.length a (k+1):=by rw[<-hA];rfl
   have em:PW (nmC cs) (woM m) cs.length a (k+1)=Hl (PW (nmC cs) (woM m) cs.length a k) ((UR (nmC cs) (woM m) cs.length a (k+1)).getD A 0):=by rw[<-hA];rfl
   simp only[zB];rw[er] at il |-;rw[<-em];repeat (first|(refine And.intro (by first|omega|rfl|trivial) ?_))
   refine⟨λc3=>by simp at c3,λ_=>?_⟩;refine⟨by rw[Qq];omega,((k:Int)+1,PW (nmC cs) (woM m) cs.length a (k+1),UR (nmC cs) (woM m) cs.length a (k+1)),by and_intros<;>first|rfl|trivial,⟨k+1,ah,rfl⟩,by dsimp only;omega⟩
 .have av:k=cs.length:=by have:=zq c;omega
  subst av;rw[zB];and_intros<;>first|rfl|trivial
def KD:AL (Int×(List (Int×Int×Bool))×Int):=(.one (.agg (.cons (.k (.i .i64)) (.cons (.k (.list (.pair (.i .i64) (.pair (.i .i64) .bo)))) (.one (.k (.i .i64)))))))
def G3 (m:List (Int×Bool)) (a:Int×(List (Int×Int×Bool))×Int):Prop:=a.2.1.length<=1000
def K9 (m:List (Int×Bool)) (a:Int×(List (Int×Int×Bool))×Int):SV:=.val (.i .i64) (Xt (nmC a.2.1) (woM m) a.2.1.length a.2.1.length)
def YE (m:List (Int×Bool)) (a:Int×(List (Int×Int×Bool))×Int) (m2:List (Int×Bool)):Prop:=m2=m
def WX:XSp:=Fg Nd 1 (.i .i64) .bo (Z0e KD G3 K9 YE)
def JX (m:List (Int×Bool)) (hk:Int) (cs:List (Int×Int×Bool)) (f:Int):Prop:=∀ vals:List Value,
 ∃ (e3:Unit) (d30:(List (Int×Bool))×Int×Int),((True/\True/\(0:Int)=d30.2.1/\(lI cs)=(lI cs)/\(0:Int)=d30.2.2/\True)/\((m=d30.1)/\(hk=hk/\cs=cs/\f=f/\(([]:List SV)=[]))/\(vals=vals/\(True/\(([]:List SV)=[])))/\True)) /\
 LoopP (λ(d3:(List (Int×Bool))×Int×Int) (q3:((List (Int×Bool))×Int×Int)->Prop) =>
  ((decide (d3.2.2<(lI cs)))=true ->
   ((!(gq.aget (.i .i64) d3.1 d3.2.2 false))=true ->
    (0<=d3.2.2/\d3.2.2<cs.length/\cs.length<=1000)/\(∀ m4:List (Int×Bool),(m4=d3.1)->(I64 (d3.2.2+(1:Int)))/\(∃ d5:(List (Int×Bool))×Int×Int,((True/\True/\(Hl d3.2.1 (PW (nmC cs) (woM d3.1) cs.length d3.2.2.toNat cs.length))=d5.2.1/\(lI cs)=(lI cs)/\(d3.2.2+(1:Int))=d5.2.2/\True)/\((m4=d5.1)/\(hk=hk/\cs=cs/\f=f/\(([]:List SV)=[]))/\(vals=vals/\(True/\(([]:List SV)=[])))/\True))/\q3 d5))) /\
   ((!(gq.aget (.i .i64) d3.1 d3.2.2 false))=false ->
    (I64 (d3.2.2+(1:Int)))/\(∃ d6:(List (Int×Bool))×Int×Int,((True/\True/\d3.2.1=d6.2.1/\(lI cs)=(lI cs)/\(d3.2.2+(1:Int))=d6.2.2/\True)/\((d3.1=d6.1)/\(hk=hk/\cs=cs/\f=f/\(([]:List SV)=[]))/\(vals=vals/\(True/\(([]:List SV)=[])))/\True))/\q3 d6))) /\
  ((decide (d3.2.2<(lI cs)))=false ->
   (vals=vals/\(True/\(([]:List SV)=[]))/\d3.2.1=(Xt (nmC cs) (woM m) cs.length cs.length)/\(d3.1=m)))) d30
def KL:Cx:=⟨[],[],25,[],0,[(107,W_)],[],[],[],false,[],[],[],[]⟩
def KS (m:List (Int×Bool)) (hk:Int) (cs:List (Int×Int×Bool)) (f:Int) (vals:List Value):List (Nat×LoopAnn):=[(0,⟨Unit,(List (Int×Bool))×Int×Int,[1,2,4,9,10],λe x=>[.map 0,.box 2 0,.val (.i .i64) x.2.1,.val (.i .i64) (((List.length cs):Nat):Int),.val (.i .i64) x.2.2],λe x=>[(0,.slot 1,.map (.i .i64) .bo x.1),(2,.slot 2,.cells [.val (.i .i64) hk,.val (.list (.pair (.i .i64) (.pair (.i .i64) .bo))) cs,.val (.i .i64) f] (some 119)),(4000000,.key 4000000,.stk [.map 0] vals)]⟩)]
theorem GQ (m:List (Int×Bool)) (a:Int×(List (Int×Int×Bool))×Int):(∀ vals,gwp KL (KS m a.1 a.2.1 a.2.2 vals) c63 0 (OI vals [.tmp 4] (K9 m a) (.i .i64) .bo (YE m a)) (Nh 25 1 (.i .i64) .bo m vals (AL.can KD a)))=JX m a.1 a.2.1 a.2.2:=by kernel_rfl
abbrev GC:Prop:=XOk Tryz.prog 63 WX
theorem GR (h:∀ (m:List (Int×Bool)) (hk:Int) (cs:List (Int×Int×Bool)) (f:Int),(cs.length<=1000)->JX m hk cs f):XOk Tryz.prog 63 WX :=
 S1 Q5f mixed Kg rfl (C:=KL) ⟨.nil,(XsOk.cons G1 XsOk.nil),ItsOk.nil,YlOk.nil,IysOk.nil,XfOk.nil⟩ (L:=λm (a:Int×(List (Int×Int×Bool))×Int) vals=>KS m a.1 a.2.1 a.2.2 vals) (V:=λm (a:Int×(List (Int×Int×Bool))×Int)=>JX m a.1 a.2.1 a.2.2) GQ λm a hp=>h m a.1 a.2.1 a.2.2 hp
theorem G4:GC:=GR λm hk cs f h=>by
 unfold JX;(try delta lI gD sT I64 W5 pj8 pj4);intro vals;refine⟨(),(m,0,0),by and_intros<;>first|rfl|trivial,?_⟩;refine⟨λd=>∃ k:Nat,k<=cs.length/\d=(m,Xt (nmC cs) (woM m) cs.length k,(k:Int)),λd=>cs.length-d.2.2.toNat,⟨0,by omega,rfl⟩,?_⟩;rintro _ ⟨k,bp,rfl⟩;dsimp only;refine⟨λc=>?_,λc=>?_⟩
 .have ah:k<cs.length:=by have:=zo c;omega
  refine⟨λc2=>?_,λc2=>?_⟩
  .have hw:woM m k=false:=by
    show gq.aget (.i .i64) m (k:Int) false=false;simpa using c2
   refine⟨⟨by omega,by omega,h⟩,λm4 hm=>?_⟩;subst hm;have e:Xt (nmC cs) (woM m4) cs.length (k+1)=Hl (Xt (nmC cs) (woM m4) cs.length k) (PW (nmC cs) (woM m4) cs.length k cs.length):=by show (if woM m4 k=true then _ else _)=_;rw[hw,z1 (by decide)]
   refine⟨by rw[Qq];omega,(m4,Xt (nmC cs) (woM m4) cs.length (k+1),(k:Int)+1),?_,⟨k+1,ah,rfl⟩,by dsimp only;omega⟩;rw[zB,e];and_intros<;>first|rfl|trivial
  .have hw:woM m k=true:=by
    show gq.aget (.i .i64) m (k:Int) false=true;simpa using c2
   have e:Xt (nmC cs) (woM m) cs.length (k+1)=Xt (nmC cs) (woM m) cs.length k:=by show (if woM m k=true then _ else _)=_;rw[z7 hw]
   refine⟨by rw[Qq];omega,(m,Xt (nmC cs) (woM m) cs.length (k+1),(k:Int)+1),?_,⟨k+1,ah,rfl⟩,by dsimp only;omega⟩;rw[e];and_intros<;>first|rfl|trivial
 .have av:k=cs.length:=by have:=zq c;omega
  subst av;and_intros<;>first|rfl|trivial
def MG:AL (Int×List (Int×Int×Bool)):=(.one (.agg (.cons (.k (.i .i64)) (.one (.k (.list (.pair (.i .i64) (.pair (.i .i64) .bo))))))))
def Pv (d:Int×List (Int×Int×Bool)):Prop:=d.2.length<=1000
def Na (d:Int×List (Int×Int×Bool)):SV:=.tup [.lst 0,.val (.i .i64) (QR d.1 d.2)]
def Nb (d:Int×List (Int×Int×Bool)):List OB:=[.lst 3 (.i .i64) (SF d.1 d.2) ((SF d.1 d.2).isEmpty)]
def Um:CSp:=VU MG Pv Na Nb
abbrev Wi (cs:List (Int×Int×Bool)):=(Xt (nmC cs) (woM ([]:List (Int×Bool))) cs.length cs.length)
abbrev Mi (hk:Int) (cs:List (Int×Int×Bool)):=(((SF hk cs)=[]/\(SF hk cs).isEmpty=true)/\True)
def Yb (hk:Int) (cs:List (Int×Int×Bool)):Prop :=
 ∀ w1:List Value,∀ w2:List Value,(True)/\((!(inI hk 1 24))=true ->
  w2=w2/\w1=w1/\((True/\(3:Int)=(QR hk cs)/\(([]:List SV)=[]))/\(Mi hk cs))) /\
 ((!(inI hk 1 24))=false ->
  (((decide ((lI cs) > (60:Int)))=true ->
   w2=w2/\w1=w1/\((True/\(5:Int)=(QR hk cs)/\(([]:List SV)=[]))/\(Mi hk cs))) /\
  ((decide ((lI cs) > (60:Int)))=false ->
   (1<=hk/\hk<=24/\cs.length<=1000000)/\((!(!cs.isEmpty&&!(cs.any λc=>!Zg hk c)))=true ->
    w2=w2/\w1=w1/\((True/\(2:Int)=(QR hk cs)/\(([]:List SV)=[]))/\(Mi hk cs))) /\
   ((!(!cs.isEmpty&&!(cs.any λc=>!Zg hk c)))=false ->
    w2=w2/\∃ (e5:Int×(List (Int×Int×Bool))×Int×Int×Int×(List (Int×Int×Bool))×Int×(List (Int×Int×Bool))×Int×Int×(List (Int×Int×Bool))×Int×(List (Int×Int×Bool))×Int×Int×(List (Int×Int×Bool))×(List Value)) (d50:(List (Int×Bool))×Int),((True/\True/\True/\True/\cs=(pj4 e5).2.2.2.1/\(lI cs)=(pj8 e5).1/\(0:Int)=d50.2/\True)/\((hk=e5.1/\cs=e5.2.1/\(([]:List SV)=[]))/\((0:Int)=e5.2.2.1/\True/\(0:Int)=e5.2.2.2.1/\(([]:List SV)=[]))/\(hk=(pj4 e5).1/\cs=(pj4 e5).2.1/\hk=(pj4 e5).2.2.1/\(([]:List SV)=[]))/\(([]:List (Int×Bool))=d50.1)/\((W5 e5)=w1/\((hk=(pj8 e5).2.1/\cs=(pj8 e5).2.2.1/\(([]:List SV)=[]))/\True/\True/\(0:Int)=(pj4 (pj8 e5)).2.1/\True/\True/\True/\True/\True/\(hk=(pj4 (pj8 e5)).2.2.1/\cs=(pj4 (pj8 e5)).2.2.2.1/\(([]:List SV)=[]))/\True/\True/\True/\True/\True/\True/\True/\True/\True/\True/\True/\True/\True/\True/\True/\True/\True/\True/\True/\True/\True/\True/\True/\True/\True/\True/\True/\True/\True/\True/\True/\True/\True/\True/\True/\True/\True/\True/\True/\(([]:List SV)=[])))/\(hk=(pj8 e5).2.2.2.1/\cs=(pj4 (pj8 e5)).1/\(([]:List SV)=[]))/\True)) /\
    LoopP (λ(d5:(List (Int×Bool))×Int) (q5:((List (Int×Bool))×Int)->Prop) =>
     ((decide (d5.2<(pj8 e5).1))=true ->
      (0<=d5.2)/\(d5.2<(List.length (pj4 e5).2.2.2.1))/\(I64 (d5.2+(1:Int)))/\(∃ d6:(List (Int×Bool))×Int,((True/\True/\True/\True/\(pj4 e5).2.2.2.1=(pj4 e5).2.2.2.1/\(pj8 e5).1=(pj8 e5).1/\(d5.2+(1:Int))=d6.2/\True)/\((e5.1=e5.1/\e5.2.1=e5.2.1/\(([]:List SV)=[]))/\(e5.2.2.1=e5.2.2.1/\True/\e5.2.2.2.1=e5.2.2.2.1/\(([]:List SV)=[]))/\((pj4 e5).1=(pj4 e5).1/\(pj4 e5).2.1=(pj4 e5).2.1/\(pj4 e5).2.2.1=(pj4 e5).2.2.1/\(([]:List SV)=[]))/\((Uo (.i .i64) d5.1 (gD (pj4 e5).2.2.2.1 d5.2 (0,(0,false))).1 true)=d6.1)/\((W5 e5)=(W5 e5)/\(((pj8 e5).2.1=(pj8 e5).2.1/\(pj8 e5).2.2.1=(pj8 e5).2.2.1/\(([]:List SV)=[]))/\True/\True/\(pj4 (pj8 e5)).2.1=(pj4 (pj8 e5)).2.1/\True/\True/\True/\True/\True/\((pj4 (pj8 e5)).2.2.1=(pj4 (pj8 e5)).2.2.1/\(pj4 (pj8 e5)).2.2.2.1=(pj4 (pj8 e5)).2.2.2.1/\(([]:List SV)=[]))/\True/\True/\True/\True/\True/\True/\True/\True/\True/\True/\True/\True/\True/\True/\True/\True/\True/\True/\True/\True/\True/\True/\True/\True/\True/\True/\True/\True/\True/\True/\True/\True/\True/\True/\True/\True/\True/\True/\True/\(([]:List SV)=[])))/\((pj8 e5).2.2.2.1=(pj8 e5).2.2.2.1/\(pj4 (pj8 e5)).1=(pj4 (pj8 e5)).1/\(([]:List SV)=[]))/\True))/\q5 d6)) /\
     ((decide (d5.2<(pj8 e5).1))=false ->
      ((gq.aget (.i .i64) d5.1 (-1:Int) false)=true ->
       (W5 e5)=w1/\((True/\(9:Int)=(QR hk cs)/\(([]:List SV)=[]))/\(Mi hk cs))) /\
      ((gq.aget (.i .i64) d5.1 (-1:Int) false)=false ->
       ((decide ((lI d5.1)<(lI e5.2.1)))=true ->
        (W5 e5)=w1/\((True/\(6:Int)=(QR hk cs)/\(([]:List SV)=[]))/\(Mi hk cs))) /\
       ((decide ((lI d5.1)<(lI e5.2.1)))=false ->
        (W5 e5)=w1/\((pj4 e5).2.1.length<=1000)/\(∀ m7:List (Int×Bool),(m7=([]:List (Int×Bool)))->∃ (di:Unit) (d110:(List Int)×(List (Int×Bool))×Int),((True/\True/\True/\True/\(Xt (nmC (pj4 e5).2.1) (woM ([]:List (Int×Bool))) (pj4 e5).2.1.length (pj4 e5).2.1.length)=(Wi cs)/\(lI (pj4 (pj8 e5)).1)=(lI cs)/\(0:Int)=d110.2.2/\True)/\(((pj8 e5).2.2.2.1=hk/\(pj4 (pj8 e5)).1=cs/\(([]:List SV)=[]))/\(d110.1=[]/\(List.isEmpty d110.1)=true)/\((pj4 e5).1=hk/\(pj4 e5).2.1=cs/\(pj4 e5).2.2.1=hk/\(([]:List SV)=[]))/\(m7=d110.2.1)/\True)) /\
        LoopP (λ(d11:(List Int)×(List (Int×Bool))×Int) (pI:((List Int)×(List (Int×Bool))×Int)->Prop) =>
         ((decide (d11.2.2<(lI cs)))=true ->
          (cs.length<=1000)/\(∀ m12:List (Int×Bool),(m12=(Uo (.i .i64) d11.2.1 d11.2.2 true))->((decide ((Xt (nmC cs) (woM (Uo (.i .i64) d11.2.1 d11.2.2 true)) cs.length cs.length)<(Wi cs)))=true ->
           (I64 (d11.2.2+(1:Int)))/\(∃ d13:(List Int)×(List (Int×Bool))×Int,((True/\True/\True/\True/\(Wi cs)=(Wi cs)/\(lI cs)=(lI cs)/\(d11.2.2+(1:Int))=d13.2.2/\True)/\((hk=hk/\cs=cs/\(([]:List SV)=[]))/\(d11.1=d13.1/\(List.isEmpty d11.1)=(List.isEmpty d13.1))/\(hk=hk/\cs=cs/\hk=hk/\(([]:List SV)=[]))/\((Q0e (.i .i64) m12 d11.2.2)=d13.2.1)/\True))/\pI d13)) /\
          ((decide ((Xt (nmC cs) (woM (Uo (.i .i64) d11.2.1 d11.2.2 true)) cs.length cs.length)<(Wi cs)))=false ->
           (((List.length d11.1)+(List.length [d11.2.2]))*8<=70368744177664)/\(I64 ((lI (d11.1++[d11.2.2]))+(Wi cs)))/\((((lI (d11.1++[d11.2.2]))+(Wi cs))==(lI cs))=true ->
            ((True/\(0:Int)=(QR hk cs)/\(([]:List SV)=[]))/\(((d11.1++[d11.2.2])=(SF hk cs)/\false=(SF hk cs).isEmpty)/\True))) /\
           ((((lI (d11.1++[d11.2.2]))+(Wi cs))==(lI cs))=false ->
            (I64 (d11.2.2+(1:Int)))/\(∃ d14:(List Int)×(List (Int×Bool))×Int,((True/\True/\True/\True/\(Wi cs)=(Wi cs)/\(lI cs)=(lI cs)/\(d11.2.2+(1:Int))=d14.2.2/\True)/\((hk=hk/\cs=cs/\(([]:List SV)=[]))/\((d11.1++[d11.2.2])=d14.1/\false=(List.isEmpty d14.1))/\(hk=hk/\cs=cs/\hk=hk/\(([]:List SV)=[]))/\(m12=d14.2.1)/\True))/\pI d14))))) /\
         ((decide (d11.2.2<(lI cs)))=false ->
          ((True/\(0:Int)=(QR hk cs)/\(([]:List SV)=[]))/\((d11.1=(SF hk cs)/\(List.isEmpty d11.1)=(SF hk cs).isEmpty)/\True)))) d110))))) d50))))
def JJ:Cx:=⟨[(1000018,(.pair (.i .i64) .bo))],[(87,QA),(86,QF)],43,[3000015],0,[(103,Ym)],[],[],[],false,[],[],[15],[]⟩
def JL:List (Nat×LoopAnn):=[(0,⟨Int×(List (Int×Int×Bool))×Int×Int×Int×(List (Int×Int×Bool))×Int×(List (Int×Int×Bool))×Int×Int×(List (Int×Int×Bool))×Int×(List (Int×Int×Bool))×Int×Int×(List (Int×Int×Bool))×(List Value),(List (Int×Bool))×Int,[1,2,4,6,20,21,22],λe x=>[.box 1100001 0,.box 1100002 0,.box 1100004 0,.map 1100018,.val (.list (.pair (.i .i64) (.pair (.i .i64) .bo))) e.2.2.2.2.2.2.2.1,.val (.i .i64) e.2.2.2.2.2.2.2.2.1,.val (.i .i64) x.2],λe x=>[(1100001,.slot 1,.cells [.val (.i .i64) e.1,.val (.list (.pair (.i .i64) (.pair (.i .i64) .bo))) e.2.1] (some 24)),(1100002,.slot 2,.cells [.val (.i .i64) e.2.2.1,.nilS,.val (.i .i64) e.2.2.2.1] (some 119)),(1100004,.slot 4,.cells [.val (.i .i64) e.2.2.2.2.1,.val (.list (.pair (.i .i64) (.pair (.i .i64) .bo))) e.2.2.2.2.2.1,.val (.i .i64) e.2.2.2.2.2.2.1] (some 119)),(1100018,.slot 6,.map (.i .i64) .bo x.1),(1099999,.key 1099999,.stk [.agg [.val (.i .i64) e.2.2.2.2.2.2.2.2.2.1,.val (.list (.pair (.i .i64) (.pair (.i .i64) .bo))) e.2.2.2.2.2.2.2.2.2.2.1],.box 1 0,.nilS,.val (.i .i64) e.2.2.2.2.2.2.2.2.2.2.2.2.2.1,.any,.any,.any,.any,.any,.agg [.val (.i .i64) e.2.2.2.2.2.2.2.2.2.2.2.2.2.2.1,.val (.list (.pair (.i .i64) (.pair (.i .i64) .bo))) e.2.2.2.2.2.2.2.2.2.2.2.2.2.2.2.1],.any,.any,.any,.any,.any,.any,.any,.any,.any,.any,.any,.any,.any,.any,.any,.any,.any,.any,.any,.any,.any,.any,.any,.any,.any,.any,.any,.any,.any,.any,.any,.any,.any,.any,.any,.any,.any,.any,.any] e.2.2.2.2.2.2.2.2.2.2.2.2.2.2.2.2),(1,.key 1,.cells [.val (.i .i64) e.2.2.2.2.2.2.2.2.2.2.2.1,.val (.list (.pair (.i .i64) (.pair (.i .i64) .bo))) e.2.2.2.2.2.2.2.2.2.2.2.2.1] (some 24))]⟩)]
def MY:Cx:=⟨[(3,(.i .i64)),(1000016,(.pair (.i .i64) .bo))],[],49,[3000014],0,[(62,An JJ (λ_=>JL) c62 [.cell 2 true 3,.tmp 3] 43),(63,WX)],[],[],[],false,[],[],[14],[]⟩
def To (hk:Int) (cs:List (Int×Int×Bool)):List (Nat×LoopAnn):=[(0,⟨Unit,(List Int)×(List (Int×Bool))×Int,[1,2,4,5,6,22,23],λe x=>[.box 1 0,.lst 38,.box 4 0,.map 16,.val (.i .i64) (Xt (nmC cs) (woM ([]:List (Int×Bool))) cs.length cs.length),.val (.i .i64) (((List.length cs):Nat):Int),.val (.i .i64) x.2.2],λe x=>[(1,.slot 1,.cells [.val (.i .i64) hk,.val (.list (.pair (.i .i64) (.pair (.i .i64) .bo))) cs] (some 24)),(38,.slot 2,.lst 3 (.i .i64) x.1 (List.isEmpty x.1)),(4,.slot 4,.cells [.val (.i .i64) hk,.val (.list (.pair (.i .i64) (.pair (.i .i64) .bo))) cs,.val (.i .i64) hk] (some 119)),(16,.slot 5,.map (.i .i64) .bo x.2.1)]⟩)]
theorem Tl (d:Int×List (Int×Int×Bool)):gwp (MY) (To d.1 d.2) c17 0 (UO [.tmp 2,.tmp 3] (Na d) (Nb d)) (Zd 49 (AL.can MG d))=Yb d.1 d.2:=by kernel_rfl
abbrev TG:Prop:=OkC Tryz.prog 17 Um
theorem TC (h:∀ (hk:Int) (cs:List (Int×Int×Bool)),(cs.length<=1000)->Yb hk cs):OkC Tryz.prog 17 Um :=
 Zv Q66 mixed (C:=MY) (V:=λ(d:Int×List (Int×Int×Bool))=>Yb d.1 d.2) ⟨.nil,(XsOk.cons (Y2 Q1n mixed (C:=JJ) ⟨(.cons QW (.cons Zc .nil)),(XsOk.cons Yc XsOk.nil),ItsOk.nil,YlOk.nil,IysOk.nil,XfOk.nil⟩ (λ_=>JL)) (XsOk.cons G4 XsOk.nil)),ItsOk.nil,YlOk.nil,IysOk.nil,XfOk.nil⟩ (Tl) λd hp=>h d.1 d.2 hp
set_option maxHeartbeats 1000000 in
theorem T1:TG:=TC λhk cs h=>by
 have eu:∀ e:Int,QR hk cs=e->e≠0->(e=QR hk cs)/\SF hk cs=[]/\(SF hk cs).isEmpty=true:=λe h1 h2=>by
  have:SF hk cs=[]:=by unfold SF;rw[z1 (by omega)]
  exact⟨h1.symm,this,by rw[this];rfl⟩
 have bB:∀ e:Int,Qv hk cs=e->e≠0->QR hk cs=e:=λe h1 h2=>by unfold QR;rw[z7 (by omega)];exact h1
 unfold Yb;(try delta Wi Mi);(try delta lI gD sT I64 W5 pj8 pj4);intro w1 w2;repeat (first|refine⟨trivial,?_⟩|refine⟨rfl,?_⟩)
 refine⟨λc1=>?_,λc1=>?_⟩
 .repeat (first|refine⟨trivial,?_⟩|refine⟨rfl,?_⟩)
  have e:Qv hk cs=3:=by unfold Qv;rw[z7 c1]
  obtain⟨u,v,w⟩:=eu 3 (bB 3 e (by decide)) (by decide);and_intros<;>first|rfl|trivial|assumption
 repeat (first|refine⟨trivial,?_⟩|refine⟨rfl,?_⟩)
 refine⟨λc2=>?_,λc2=>?_⟩
 .have c2:60<cs.length:=by have:=zo c2;omega
  have e:Qv hk cs=5:=by unfold Qv;rw[z1 (by rw[c1];decide),z7 c2]
  obtain⟨u,v,w⟩:=eu 5 (bB 5 e (by decide)) (by decide);and_intros<;>first|rfl|trivial|assumption
 have c2:cs.length<=60:=by have:=zq c2;omega
 obtain⟨i1,i2⟩:=BK c1;repeat (first|refine⟨trivial,?_⟩|refine⟨rfl,?_⟩)
 refine⟨⟨i1,i2,by omega⟩,λc3=>?_,λc3=>?_⟩
 .obtain⟨u,v,w⟩:=eu 2 (bB 2 (Sp c1 c2 c3) (by decide)) (by decide);and_intros<;>first|rfl|trivial|assumption
 obtain⟨be,az,ai⟩:=PC c1 c2 c3;repeat (first|refine⟨trivial,?_⟩|refine⟨rfl,?_⟩)
 refine⟨(hk,cs,0,0,hk,cs,hk,cs,(cs.length:Int),hk,cs,hk,cs,0,hk,cs,w1),([],0),by and_intros<;>first|rfl|trivial,?_⟩;refine⟨λd=>∃ k:Nat,k<=cs.length/\d.2=(k:Int)/\SeenI (cs.map (·.1)) d.1 k,λd=>cs.length-d.2.toNat,⟨0,by omega,rfl,SeenI.nil _⟩,?_⟩;rintro⟨mm,_⟩ ⟨k,bp,rfl,hS⟩;dsimp only at hS |-;refine⟨λc=>?_,λc=>?_⟩
 .have ah:k<cs.length:=by have:=zo c;omega
  have hp:=hS.put (by simpa using ah);have eg:(cs.map (·.1)).getD k 0=(cs.getD k (0,(0,false))).1:=by
   rw[Qg (by simpa using ah),Qg ah,xw]
  rw[eg] at hp;simp only[zB];exact⟨by omega,by omega,by rw[Qq];omega,(Uo (.i .i64) mm (cs.getD k (0,(0,false))).1 true,(k:Int)+1),by and_intros<;>first|rfl|trivial,⟨k+1,ah,rfl,hp⟩,by dsimp only;omega⟩
 .have av:k=cs.length:=by have:=zq c;omega
  subst av;have hl:(cs.map (·.1)).length=cs.length:=xS ..;rw[<-hl] at hS;obtain⟨f1,f2⟩:=hS.full;rw[hl] at f2;refine⟨λc4=>?_,λc4=>?_⟩
  .rw[f1] at c4;have e:QR hk cs=9:=by unfold QR;rw[z1 (by omega),z7 (zo c4)]
   obtain⟨u,v,w⟩:=eu 9 e (by decide);and_intros<;>first|rfl|trivial|assumption
  rw[f1] at c4;have c4:=zq c4;refine⟨λc5=>?_,λc5=>?_⟩
  .rw[f2] at c5;have e:QR hk cs=6:=by unfold QR;rw[z1 (by omega),z1 c4,z1 (zo c5)]
   obtain⟨u,v,w⟩:=eu 6 e (by decide);and_intros<;>first|rfl|trivial|assumption
  rw[f2] at c5;have fv:(cs.map (·.1)).Nodup:=Decidable.not_not.1 (zq c5);have en:QR hk cs=0:=by unfold QR;rw[z1 (by omega),z1 c4,z7 fv]
  have em:SF hk cs=mvK (nmC cs) cs.length cs.length:=by unfold SF;rw[z7 en]
  rw[en,em];have lh:Xt (nmC cs) (woM ([]:List (Int×Bool))) cs.length cs.length=VM (nmC cs) cs.length:=rfl;rw[lh];obtain⟨b1,b2,_⟩:=On (nmC cs) (λ_=>false) cs.length;have b1:0<=VM (nmC cs) cs.length:=b1;have b2:VM (nmC cs) cs.length<=cs.length:=b2;clear lh hS f1 f2;repeat (first|refine⟨trivial,?_⟩|refine⟨rfl,?_⟩)
  refine⟨h,λm7 uZ=>?_⟩;subst uZ;refine⟨(),([],[],0),by and_intros<;>first|rfl|trivial,?_⟩;refine⟨λd=>∃ k:Nat,k<=cs.length/\d=(mvK (nmC cs) cs.length k,(mvK (nmC cs) cs.length k).map (λx=>(x,true)),(k:Int))/\(((mvK (nmC cs) cs.length k).length:Int)+VM (nmC cs) cs.length≠cs.length\/VM (nmC cs) cs.length=cs.length),λd=>cs.length-d.2.2.toNat,⟨0,by omega,rfl,?_⟩,?_⟩
  .by_cases q:VM (nmC cs) cs.length=cs.length
   .exact .inr q
   .left;show ((([]:List Int).length:Nat):Int)+_≠_;simpa using q
  rintro _ ⟨k,bp,rfl,hq⟩;dsimp only;have mO:(k:Int)∉mvK (nmC cs) cs.length k:=λhm=>by have:=Aw _ _ _ _ hm;omega
  have dM:=Oy mO;have hlen:=FE (nmC cs) cs.length k;have lj:mvK (nmC cs) cs.length (k+1)=if ((mvK (nmC cs) cs.length k).length:Int)+VM (nmC cs) cs.length=cs.length then mvK (nmC cs) cs.length k else if Xt (nmC cs) (woL (mvK (nmC cs) cs.length k++[(k:Int)])) cs.length cs.length<VM (nmC cs) cs.length then mvK (nmC cs) cs.length k else mvK (nmC cs) cs.length k++[(k:Int)]:=rfl
  refine⟨λc=>?_,λc=>?_⟩
  .have ah:k<cs.length:=by have:=zo c;omega
   have u6:woL (mvK (nmC cs) cs.length k++[(k:Int)]) k=true:=x5 (xA _ (zh.2 rfl));obtain⟨_,_,b3⟩:=On (nmC cs) (woL (mvK (nmC cs) cs.length k++[(k:Int)])) cs.length;have b3:=b3 k ah u6;refine⟨h,λm12 oX=>?_⟩;rw[dM] at oX;subst oX;rw[dM,Q6f,Ow mO];refine⟨λc6=>?_,λc6=>?_⟩
   .have c6:=zo c6;have es:mvK (nmC cs) cs.length (k+1)=mvK (nmC cs) cs.length k:=by
     rw[lj,z7 c6,ite_self]
    refine⟨by rw[Qq];omega,(mvK (nmC cs) cs.length (k+1),(mvK (nmC cs) cs.length (k+1)).map (λx=>(x,true)),(k:Int)+1),?_,⟨k+1,ah,rfl,by rw[es];exact hq⟩,by dsimp only;omega⟩;rw[es];and_intros<;>first|rfl|trivial
   .have c6:=zq c6;have u7:((mvK (nmC cs) cs.length k).length:Int)+VM (nmC cs) cs.length≠cs.length:=by
     rcases hq with hq|hq
     .exact hq
     .omega
    have es:mvK (nmC cs) cs.length (k+1)=mvK (nmC cs) cs.length k++[(k:Int)]:=by rw[lj,z1 u7,z1 c6]
    have b9:(mvK (nmC cs) cs.length k++[(k:Int)]).length=(mvK (nmC cs) cs.length k).length+1:=by simp
    have eX:(mvK (nmC cs) cs.length k++[(k:Int)]).isEmpty=false:=by simp
    rw[<-es] at b9 eX |-;refine⟨by simp;omega,by rw[Qq];omega,λc7=>?_,λc7=>?_⟩
    .have c7:((mvK (nmC cs) cs.length (k+1)).length:Int)+VM (nmC cs) cs.length=cs.length:=by simpa using c7
     have bk:=E3 c7 (cs.length-(k+1));rw[show k+1+(cs.length-(k+1))=cs.length by omega] at bk;rw[bk];and_intros<;>first|rfl|trivial|exact eX.symm
    .have c7:((mvK (nmC cs) cs.length (k+1)).length:Int)+VM (nmC cs) cs.length≠cs.length:=by simpa using c7
     refine⟨by rw[Qq];omega,(mvK (nmC cs) cs.length (k+1),(mvK (nmC cs) cs.length (k+1)).map (λx=>(x,true)),(k:Int)+1),?_,⟨k+1,ah,rfl,.inl c7⟩,by dsimp only;omega⟩;and_intros<;>first|rfl|trivial|exact eX.symm
  .have av:k=cs.length:=by have:=zq c;omega
   subst av;and_intros<;>first|rfl|trivial
end Go.Proofs.Tryz
namespace Go.Proofs
open Go.Shelf
def Tryz.q1w:Go.Shelf.Ren:=⟨fun|189=>120|125=>141|257=>147|128=>163|129=>164|294=>167|295=>168|296=>169|297=>170|298=>171|299=>172|216=>173|300=>174|301=>175|328=>190|329=>186|330=>187|331=>191|332=>192|215=>111|343=>197|n=>n,fun|28=>27|3=>3|46=>90|0=>0|51=>77|53=>216|4=>4|183=>220|182=>219|131=>199|5=>5|9=>9|218=>241|222=>245|228=>251|229=>252|n=>n,fun|n=>n⟩
theorem Tryz.lays189:Go.Proofs.Lays.n189 Tryz.prog Tryz.q1w:={
 mixed:=by kernel_rfl
 f125:=Tryz.func141.trans (congrArg some (by kernel_rfl))
 f128:=Tryz.func163.trans (congrArg some (by kernel_rfl))
 f129:=Tryz.func164.trans (congrArg some (by kernel_rfl))
 f189:=Tryz.func120.trans (congrArg some (by kernel_rfl))
 f215:=Tryz.func111.trans (congrArg some (by kernel_rfl))
 f216:=Tryz.func173.trans (congrArg some (by kernel_rfl))
 f257:=Tryz.func147.trans (congrArg some (by kernel_rfl))
 f294:=Tryz.func167.trans (congrArg some (by kernel_rfl))
 f295:=Tryz.func168.trans (congrArg some (by kernel_rfl))
 f296:=Tryz.func169.trans (congrArg some (by kernel_rfl))
 f297:=Tryz.func170.trans (congrArg some (by kernel_rfl))
 f298:=Tryz.func171.trans (congrArg some (by kernel_rfl))
 f299:=Tryz.func172.trans (congrArg some (by kernel_rfl))
 f300:=Tryz.func174.trans (congrArg some (by kernel_rfl))
 f301:=Tryz.func175.trans (congrArg some (by kernel_rfl))
 f328:=Tryz.func190.trans (congrArg some (by kernel_rfl))
 f329:=Tryz.func186.trans (congrArg some (by kernel_rfl))
 f330:=Tryz.func187.trans (congrArg some (by kernel_rfl))
 f331:=Tryz.func191.trans (congrArg some (by kernel_rfl))
 f332:=Tryz.func192.trans (congrArg some (by kernel_rfl))
 f343:=Tryz.func197.trans (congrArg some (by kernel_rfl))
 t0:=Tryz.underlying0
 a0:=Tryz.isAgg0
 z0:=Tryz.sizeOf0
 v0:=Tryz.zeroValue0
 t3:=Tryz.underlying3
 a3:=Tryz.isAgg3
 z3:=Tryz.sizeOf3
 v3:=Tryz.zeroValue3
 t4:=Tryz.underlying4
 a4:=Tryz.isAgg4
 z4:=Tryz.sizeOf4
 v4:=Tryz.zeroValue4
 t5:=Tryz.underlying5
 a5:=Tryz.isAgg5
 z5:=Tryz.sizeOf5
 v5:=Tryz.zeroValue5
 t9:=Tryz.underlying9
 a9:=Tryz.isAgg9
 z9:=Tryz.sizeOf9
 v9:=Tryz.zeroValue9
 t28:=Tryz.underlying27
 a28:=Tryz.isAgg27
 z28:=Tryz.sizeOf27
 v28:=Tryz.zeroValue27
 t46:=Tryz.underlying90
 a46:=Tryz.isAgg90
 z46:=Tryz.sizeOf90
 v46:=Tryz.zeroValue90
 t51:=Tryz.underlying77
 a51:=Tryz.isAgg77
 z51:=Tryz.sizeOf77
 v51:=Tryz.zeroValue77
 t53:=Tryz.underlying216
 a53:=Tryz.isAgg216
 z53:=Tryz.sizeOf216
 v53:=Tryz.zeroValue216
 t131:=Tryz.underlying199
 a131:=Tryz.isAgg199
 z131:=Tryz.sizeOf199
 v131:=Tryz.zeroValue199
 t182:=Tryz.underlying219
 a182:=Tryz.isAgg219
 z182:=Tryz.sizeOf219
 v182:=Tryz.zeroValue219
 t183:=Tryz.underlying220
 a183:=Tryz.isAgg220
 z183:=Tryz.sizeOf220
 v183:=Tryz.zeroValue220
 t218:=Tryz.underlying241
 a218:=Tryz.isAgg241
 z218:=Tryz.sizeOf241
 v218:=Tryz.zeroValue241
 t222:=Tryz.underlying245
 a222:=Tryz.isAgg245
 z222:=Tryz.sizeOf245
 v222:=Tryz.zeroValue245
 t228:=Tryz.underlying251
 a228:=Tryz.isAgg251
 z228:=Tryz.sizeOf251
 v228:=Tryz.zeroValue251
 t229:=Tryz.underlying252
 a229:=Tryz.isAgg252
 z229:=Tryz.sizeOf252
 v229:=Tryz.zeroValue252}
def Tryz.q1t:Go.Shelf.Ren:=⟨fun|6=>109|15=>141|14=>140|28=>163|29=>164|20=>155|21=>156|22=>157|23=>158|24=>159|25=>160|26=>161|27=>162|46=>185|47=>186|48=>187|49=>188|50=>189|57=>196|n=>n,fun|22=>22|24=>87|25=>128|3=>3|39=>90|0=>0|53=>77|55=>216|4=>4|46=>220|45=>219|50=>199|5=>5|9=>9|66=>241|70=>245|76=>251|77=>252|n=>n,fun|n=>n⟩
theorem Tryz.laysSortF:Go.Proofs.SlLaysF0.n6 Tryz.prog Tryz.q1t:={
 mixed:=by kernel_rfl
 f6:=⟨Tryz.f109.name,by decide,Tryz.func109.trans (congrArg some (by kernel_rfl))⟩
 f14:=⟨Tryz.f140.name,by decide,Tryz.func140.trans (congrArg some (by kernel_rfl))⟩
 f15:=Tryz.func141.trans (congrArg some (by kernel_rfl))
 f20:=⟨Tryz.f155.name,by decide,Tryz.func155.trans (congrArg some (by kernel_rfl))⟩
 f21:=⟨Tryz.f156.name,by decide,Tryz.func156.trans (congrArg some (by kernel_rfl))⟩
 f22:=⟨Tryz.f157.name,by decide,Tryz.func157.trans (congrArg some (by kernel_rfl))⟩
 f23:=⟨Tryz.f158.name,by decide,Tryz.func158.trans (congrArg some (by kernel_rfl))⟩
 f24:=⟨Tryz.f159.name,by decide,Tryz.func159.trans (congrArg some (by kernel_rfl))⟩
 f25:=⟨Tryz.f160.name,by decide,Tryz.func160.trans (congrArg some (by kernel_rfl))⟩
 f26:=⟨Tryz.f161.name,by decide,Tryz.func161.trans (congrArg some (by kernel_rfl))⟩
 f27:=⟨Tryz.f162.name,by decide,Tryz.func162.trans (congrArg some (by kernel_rfl))⟩
 f28:=Tryz.func163.trans (congrArg some (by kernel_rfl))
 f29:=Tryz.func164.trans (congrArg some (by kernel_rfl))
 f46:=⟨Tryz.f185.name,by decide,Tryz.func185.trans (congrArg some (by kernel_rfl))⟩
 f47:=Tryz.func186.trans (congrArg some (by kernel_rfl))
 f48:=Tryz.func187.trans (congrArg some (by kernel_rfl))
 f49:=⟨Tryz.f188.name,by decide,Tryz.func188.trans (congrArg some (by kernel_rfl))⟩
 f50:=⟨Tryz.f189.name,by decide,Tryz.func189.trans (congrArg some (by kernel_rfl))⟩
 f57:=⟨Tryz.f196.name,by decide,Tryz.func196.trans (congrArg some (by kernel_rfl))⟩
 t0:=Tryz.underlying0
 a0:=Tryz.isAgg0
 z0:=Tryz.sizeOf0
 v0:=Tryz.zeroValue0
 t3:=Tryz.underlying3
 a3:=Tryz.isAgg3
 z3:=Tryz.sizeOf3
 v3:=Tryz.zeroValue3
 t4:=Tryz.underlying4
 a4:=Tryz.isAgg4
 z4:=Tryz.sizeOf4
 v4:=Tryz.zeroValue4
 t5:=Tryz.underlying5
 a5:=Tryz.isAgg5
 z5:=Tryz.sizeOf5
 v5:=Tryz.zeroValue5
 t9:=Tryz.underlying9
 a9:=Tryz.isAgg9
 z9:=Tryz.sizeOf9
 v9:=Tryz.zeroValue9
 t22:=Tryz.underlying22
 a22:=Tryz.isAgg22
 z22:=Tryz.sizeOf22
 v22:=Tryz.zeroValue22
 t25:=Tryz.underlying128
 a25:=Tryz.isAgg128
 z25:=Tryz.sizeOf128
 v25:=Tryz.zeroValue128
 t39:=Tryz.underlying90
 a39:=Tryz.isAgg90
 z39:=Tryz.sizeOf90
 v39:=Tryz.zeroValue90
 t45:=Tryz.underlying219
 a45:=Tryz.isAgg219
 z45:=Tryz.sizeOf219
 v45:=Tryz.zeroValue219
 t46:=Tryz.underlying220
 a46:=Tryz.isAgg220
 z46:=Tryz.sizeOf220
 v46:=Tryz.zeroValue220
 t50:=Tryz.underlying199
 a50:=Tryz.isAgg199
 z50:=Tryz.sizeOf199
 v50:=Tryz.zeroValue199
 t53:=Tryz.underlying77
 a53:=Tryz.isAgg77
 z53:=Tryz.sizeOf77
 v53:=Tryz.zeroValue77
 t55:=Tryz.underlying216
 a55:=Tryz.isAgg216
 z55:=Tryz.sizeOf216
 v55:=Tryz.zeroValue216
 t66:=Tryz.underlying241
 a66:=Tryz.isAgg241
 z66:=Tryz.sizeOf241
 v66:=Tryz.zeroValue241
 t70:=Tryz.underlying245
 a70:=Tryz.isAgg245
 z70:=Tryz.sizeOf245
 v70:=Tryz.zeroValue245
 t76:=Tryz.underlying251
 a76:=Tryz.isAgg251
 z76:=Tryz.sizeOf251
 v76:=Tryz.zeroValue251
 t77:=Tryz.underlying252
 a77:=Tryz.isAgg252
 z77:=Tryz.sizeOf252
 v77:=Tryz.zeroValue252}
def Tryz.q1y:Go.Shelf.Ren:=⟨fun|5=>67|7=>111|n=>n,fun|22=>3|3=>3|4=>4|n=>n,fun|n=>n⟩
theorem Tryz.laysCmp:Go.Proofs.SlLaysC2.n5 Tryz.prog Tryz.q1y:={
 mixed:=by kernel_rfl
 f5:=⟨Tryz.f67.name,by decide,Tryz.func67.trans (congrArg some (by kernel_rfl))⟩
 f7:=⟨Tryz.f111.name,by decide,Tryz.func111.trans (congrArg some (by kernel_rfl))⟩
 t3:=Tryz.underlying3
 a3:=Tryz.isAgg3
 z3:=Tryz.sizeOf3
 v3:=Tryz.zeroValue3
 t4:=Tryz.underlying4
 a4:=Tryz.isAgg4
 z4:=Tryz.sizeOf4
 v4:=Tryz.zeroValue4
 t22:=Tryz.underlying3
 a22:=Tryz.isAgg3
 z22:=Tryz.sizeOf3
 v22:=Tryz.zeroValue3}
end Go.Proofs
namespace Go.V
open Go
theorem Q0f {P:Program}{U:Heap}:Ret P U (.val .bo true) [] (.bool true) U :=
 ⟨⟨.refl _,Dead.refl _⟩,λ_=>rfl,X1,λj b hj=>by simp at hj,λj j' i hj=>by simp at hj,by simp[SR,KC]⟩
theorem Q0b {P:Program}{f:Nat}(h:∀ (U:Heap) (K:Value->Heap->Prop),K (.bool true) U->VCalled P f [] U K):OkC P f (VU (.nil:AL Unit) (λ_=>True) (λ_=>.val .bo true) (λ_=>[])):=by
 intro ap dM U args vs c v bs aB hs hv b_ hc;unfold VU at hs;split at hs
 .rename_i d hd;obtain⟨rfl,rfl,rfl⟩:=(by simpa using hs:True=c/\SV.val .bo true=v/\[]=bs);have:vs=[]:=by
   cases args with
   |nil=>simpa [SRs] using aB
   |cons a l=>simp[AL.dec] at hd
  subst this;refine⟨h U _ Q0f,λ_ _=>h U _ ⟨rfl,?_⟩⟩;unfold BQ;cases U;simp only[List.length_nil,zU,List.getElem?_nil,Option.bind_none,Heap.mk.injEq,and_true];funext i;split
  .rfl
  .rename_i wf hi;exact wf i (by simpa using hi)
 .cases hs
end Go.V
namespace Go.V
open Go Go.RowKit
theorem Fv {ρ:Plc}{n:Nat}{args:List Value}{ax:Array Value}(ha:args.all QM=true) (hL:LRel ρ n args ax.toList):ax=args.toArray:=by
 apply Array.ext';apply x3;intro i;cases hi:ax.toList[i]? with
 |none =>have:=List.getElem?_eq_none_iff.1 hi;rw[<-hL.1] at this;rw[zr (by simpa using this)]
 |some c =>have ah:=(zg.1 hi).1;rw[<-hL.1] at ah;have h1:=hL.2 i args[i] c (z6 ah) hi;rw[Y9 (zf.1 ha _ (zp ah)) h1];simp[z6 ah]
theorem Kn {α:Type}[Inhabited α] (enc:α->Value) (blk:Nat):∀ (ys:List α) (w:World) (off:Nat),Go.Sort.putRow enc w blk off ys.toArray=w.setCells blk off (ys.map enc)
 |[],w,off=>by
  simp only[List.map_nil,World.setCells];refine Go.Sort.mapBlock_id _ _ _ λc _ _ _=>?_;apply Array.ext_getElem?;intro k;simp only[Go.Sort.putCells,Array.getElem?_mapIdx];cases h:c[k]? with
  |none=>rfl
  |some x=>rw[x6,z1 (by simp)]
 |y::ys,w,off=>by
  rw[zG,World.setCells,<-Kn enc blk ys,Go.Sort.setCell_eq];unfold Go.Sort.putRow;rw[Go.Sort.mapBlock_mapBlock];refine Go.Sort.mapBlock_congr _ _ _ _ λc _ _ _=>?_;apply Array.ext_getElem?;intro k;simp only[Go.Sort.putCells,Array.getElem?_mapIdx,Array.getElem?_setIfInBounds,List.size_toArray,zS];by_cases hk:off=k
  .subst hk;rw[z7 rfl];by_cases hc:off<c.size
   .rw[z7 hc,x7 hc,x6,x6,z7 (by omega),z1 (by omega),wh];simp
   .rw[z1 hc,Array.getElem?_eq_none (by omega)];rfl
  .rw[z1 hk];cases h:c[k]? with
   |none=>rfl
   |some x =>
    simp only[x6,xi];by_cases h1:off+1<=k/\k<off+1+ys.length
    .rw[z7 h1,z7 (by omega)];have e:k-off=(k-(off+1))+1:=by omega
     rw[e];simp
    .rw[z1 h1,z1 (by omega)]
theorem Lp {h:Heap}:∀ (xs:List Int),Rows (KC h (.i .i64)) xs (xs.map (Value.int .i64))
 |[]=>.nil
 |x::xs=>.cons (c:=[.int .i64 x]) rfl (Lp xs)
theorem Bp {h:Heap}:∀ {xs:List Int}{cs:List Value},Rows (KC h (.i .i64)) xs cs->cs=xs.map (Value.int .i64)
 |[],_,.nil=>rfl
 |x::xs,_,.cons hc ht=>by have hc:_=[Value.int .i64 x]:=hc;rw[hc,Bp ht];rfl
theorem L0 {ρ:Plc}{n:Nat}:∀ (xs:List Int),LRel ρ n (xs.map (Value.int .i64)) (xs.map (Value.int .i64))
 |[]=>LRel.nil _ _
 |x::xs=>LRel.cons (.int _ _) (L0 xs)
theorem Q1y {h:Heap}(ys:List Int) {c:List Value}(hl:ys.length<=c.length):Rows (KC h (.i .i64)) ys ((Yi c 0 (ys.map (Value.int .i64))).take (ys.length*(Kind.i .i64).size)):=by
 have b9:(ys.map (Value.int .i64)).length=ys.length:=by rw[xS]
 rw[VJ (by omega),b9];simp only[Kind.size,wG,wk,xk];rw[List.take_append_of_le_length (by omega),zN (by omega)];exact Lp _
theorem VCalled.of_same {P:Program}{f:FuncId}{args:List Value}{U:Heap}{K:Value->Heap->Prop}(he:ZI P f) (ha:args.all QM=true)
  (h:∀ w,Calls P f args.toArray w λe w'=>e=.returned (.tuple #[])/\w'=w) (hK:K (.tuple #[]) U):VCalled P f args U K:=by
 intro ρ w ax hH hL;obtain rfl:=Fv ha hL;refine .inl ⟨λw=>W9 he _ w,(h w).mono λe w' ⟨h1,h2⟩=>?_⟩;subst h2;exact⟨_,h1,.tuple #[],ρ,U,hK,.tuple _ _ rfl (λi h1 _=>by simp at h1),hH,Ext.refl _ _ _⟩
theorem VCalled.q2m {P:Program}{f:FuncId}{i cap ty:Nat}{xs:List Int}{c:List Value}{t:Bool}{U:Heap}{K:Value->Heap->Prop}(g:List Int->List Int) (hg:(g xs).length=xs.length) (he:ZI P f)
  (h:∀ (blk off cap:Nat) (w:World),Go.Sort.Holds (Value.int .i64) w blk off xs.toArray->blk<w.heap.size->Calls P f #[.slice (some ⟨blk,off,none⟩) xs.length cap] w λe w'=>e=.returned (.tuple #[])/\∃ n os,w'=Go.Sort.grow (Go.Sort.putRow (Value.int .i64) (Go.Sort.ahead w n) blk off (g xs).toArray) os)
  (hb:U.get i=some (.cells c ⟨1,ty⟩ true t)) (h0:0<xs.length) (cu:xs.length<=cap) (hl:cap<=c.length) (hr:c.take xs.length=xs.map (Value.int .i64))
  (hK:K (.tuple #[]) (U.upd i (.cells (Yi c 0 ((g xs).map (Value.int .i64))) ⟨1,ty⟩ true t))):VCalled P f [.slice (some ⟨i,0,none⟩) xs.length cap] U K:=by
 intro ρ w ax hH hL;obtain⟨p,hp,hB⟩:=hH.live i _ hb;have dC:=hB;obtain⟨h1,h2,h3,⟨C,e,fr,h4,gJ⟩,h5,h6⟩:=hB;have aC:ax.size=1:=by have:=hL.1;simpa using this.symm
 obtain⟨u,rfl⟩:∃ u,ax=#[u]:=⟨ax[0],by
  apply Array.ext (by simpa using aC);intro j oc dN;obtain rfl:j=0:=by simp at dN;omega
  rfl⟩
 have hu:=hL.2 0 _ u rfl rfl;cases hu with
 |sl _ _ _ _ a aw hi aQ =>
  obtain⟨q1,q2,⟨_,q5⟩|⟨o',rfl,q3,q4⟩⟩:=aQ p hp
  .omega
  have hz:p.esz.sz=1:=by rw[h1]
  have bg:xs.length=0\/o'=0:=by omega
  have gI:Go.Sort.Holds (Value.int .i64) w p.blk (p.shift+o') xs.toArray:=λj hj=>by
   simp only[List.size_toArray] at hj;obtain rfl:o'=0:=by omega
   have oY:c[j]?=some (.int .i64 xs[j]):=by
    have e1:(c.take xs.length)[j]?=(xs.map (Value.int .i64))[j]?:=by rw[hr]
    rw[zP,z7 hj,zY,z6 hj] at e1;exact e1
   obtain⟨u,rv,ij⟩:=h5 j _ oY;cases ij;refine⟨?_,(h6 rfl).2 j (by have:=(zg.1 oY).1;omega)⟩;rw[zU,rv];simp[hj]
  refine .inl ⟨λw=>W9 he _ w,(h p.blk (p.shift+o') aw w gI (hH.lt i p hp)).mono λe w' ⟨gP,n,os,eX⟩=>?_⟩;subst eX;have hlen:((g xs).map (Value.int .i64)).length=xs.length:=by rw[xS,hg]
  obtain⟨k1,k2⟩:=hH.store hp hb (o:=0) (L0 (g xs)) (by omega);have hw:Go.Sort.putRow (Value.int .i64) w p.blk (p.shift+o') (g xs).toArray=w.setCells p.blk (p.shift+0) ((g xs).map (Value.int .i64)):=by
   rw[Kn];rcases bg with h0|h0
   .have:g xs=[]:=zQ.1 (by omega);rw[this];rfl
   .rw[h0]
  rw[Go.Sort.putRow_ahead,hw];have hold:∀ k,k<(w.setCells p.blk (p.shift+0) ((g xs).map (Value.int .i64))).heap.size->(Go.Sort.grow (Go.Sort.ahead (w.setCells p.blk (p.shift+0) ((g xs).map (Value.int .i64))) n) os).heap[k]?=(w.setCells p.blk (p.shift+0) ((g xs).map (Value.int .i64))).heap[k]?:=λk hk =>
   Go.Sort.heap_grow_old _ os (by simpa using hk)
  have aG:(w.setCells p.blk (p.shift+0) ((g xs).map (Value.int .i64))).heap.size<=(Go.Sort.grow (Go.Sort.ahead (w.setCells p.blk (p.shift+0) ((g xs).map (Value.int .i64))) n) os).heap.size:=by simp
  refine⟨_,gP,.tuple #[],ρ,_,hK,.tuple _ _ rfl (λi h1 _=>by simp at h1),k1.world aG (λi p hp=>hold _ (k1.lt i p hp)) (λg cs hg=>hold _ (k1.tab.lt hg)),k2.trans ⟨rfl,rfl,rfl,aG,λB hB _=>hold B hB,λ_ _ h=>h,ze _,λ_ _ _ h=>h⟩⟩
theorem Q1s {P:Program}{ρ0:Go.Shelf.Ren}{f ty:Nat}{ap:Ap}(L:Go.Proofs.Lays.n189 P ρ0) (he:ZI P f) (hf:ρ0.f 189=f) {al:AL Unit}(qy:al=.nil) {pre:List Int->Bool->Unit->Prop}(hp:∀ xs nl d,pre xs nl d->(nl=false->0<xs.length)/\xs.length<=1000000) :
  XOk P f (Fb ap (Fq ty (.i .i64) al pre (λ_ _ _=>.tup []) (λxs _ _=>xs.mergeSort λx y=>decide (x<=y)))):=by
 subst hf;subst qy;intro B F pl tb s env U d args vs K R hG ha hx hK;unfold Fb at hx;split at hx
 .rename_i a args;split at hx
  .rename_i o a7;cases iA:((Qf s.own o).ret&&Z4b a (Qf s.own o)) with
   |false=>rw[iA] at hx;exact hx.elim
   |true =>
   rw[iA] at hx;simp only[zm] at hx;simp only[z8] at iA;obtain⟨l8,dS⟩:=iA;split at hx
   .rename_i c v b' bM;cases cK:(v.ret 0&&b'.ret) with
    |false=>rw[cK] at hx;exact hx.elim
    |true =>
    rw[cK] at hx;obtain⟨hc,hx⟩:=hx;simp only[SRs] at ha;obtain⟨u,us,rfl,pJ,dO⟩:=ha;have ao:=OB.q1z l8;have aq:=hG.obj o;unfold Fq at bM;split at bM
    .rename_i gB k' ry nl aJ;split at bM
     .rename_i e;subst e;split at bM
      .rename_i xs dd h1 h2;obtain⟨rfl,rfl,rfl⟩:=(by simpa using bM:pre xs nl dd=c/\SV.tup []=v/\OB.lst gB (.i .i64) (xs.mergeSort λx y=>decide (x<=y)) nl=b');unfold UC at h1;split at h1
       .rename_i e;subst e;have h1:xs=ry:=(osj h1).symm;subst h1;have aB:args=[]:=by
         cases args with
         |nil=>rfl
         |cons b l=>simp[BM,Z5b,H3,AL.dec] at h2
        subst aB;have dO:us=[]:=dO;subst dO;rw[aJ] at dS;have hu:u=pl o:=by
         unfold Z32 at a7;split at a7
         .obtain rfl:=osj a7;exact pJ.1
         .cases dS
         .cases a7
        subst hu;have hlen:=hp _ _ _ hc;rw[aJ] at aq;rcases aq with⟨rfl,rfl,h3⟩|⟨rfl,i,cap,c,t,h3,h4,h5,h6,h7⟩
        .rw[h3];refine VCalled.of_same he rfl (λw=>Go.Proofs.Any.slices_Sort_int_none L none 0 w) ?_
         .refine hK _ _ B F pl tb (.tuple #[]) U hx (GBase.of hG.bf (Dead.refl _)) (hG.writeF o (.lst gB (.i .i64) (([]:List Int).mergeSort λx y=>decide (x<=y)) true) hG.le ao (λ_ _ _ _ _=>rfl) (.inl ⟨rfl,by simp,h3⟩)).1 ?_;simp only[SR,SRs];exact⟨[],rfl,rfl⟩
        .rw[h3];have bn:F.get i=none:=hG.fresh o i ao (by rw[h3];rfl);have a_:∀ j i',j≠o->(Qf s.own j).live=true->Oid (pl j) i'->i'≠i:=λj i' hj hl hi e=>by
          subst e;exact hG.sep j o i' hj hl ao hi (by rw[h3];rfl)
         have sA:cap<=c.length:=by simpa [Kind.size] using h6
         have rz:c.take xs.length=xs.map (Value.int .i64):=by have:=Bp h7;simpa [Kind.size] using this
         refine VCalled.q2m (λxs=>xs.mergeSort λx y=>decide (x<=y)) (List.length_mergeSort _) he (λblk off cap w hH hb=>Go.Proofs.Any.slices_Sort_int L blk off cap xs w hH hb (by omega)) h5 (hlen.1 rfl) h4 sA rz ?_;refine hK _ _ B F pl tb (.tuple #[]) _ hx (GBase.of hG.bf (Dead.upd _ _ _ (by rw[h5];rfl))) (hG.writeF o (.lst gB (.i .i64) (xs.mergeSort λx y=>decide (x<=y)) false) (hG.le.upd bn _) ao (λj i' hj hl hi=>Heap.q0b _ _ (a_ j i' hj hl hi)) (.inr ⟨rfl,i,cap,_,t,by rw[h3,List.length_mergeSort],by rw[List.length_mergeSort];exact h4,Heap.q0c _ _ (U.lt h5),by rw[Xb];exact h6,?_⟩)).1 ?_
         .exact Q1y _ (by rw[List.length_mergeSort];exact x4 h4 sA)
         .simp only[SR,SRs];exact⟨[],rfl,rfl⟩
       .cases h1
      .cases bM
     .cases bM
    .cases bM
   .exact hx.elim
  .exact hx.elim
 .exact hx.elim
def Oe (g:Nat) (x:XSp):XSp:=λd args s K=>match args with
 |[a,.fn g' [] []]=>bif Nat.beq g' g then x d [a,.fn g [] []] s K else False
 |_=>False
def SN {α:Type}[Inhabited α] (cf:α->α->Int) (xs:List α):List α:=(Go.Sort.pdq (Go.Proofs.ltOf cf) xs.toArray 0 xs.length (Go.Lib.bitLen xs.length) true true).toList
theorem AS {α:Type}{enc:α->List Value}{k:Nat}(hk:∀ x,(enc x).length=k) (h0:0<k):∀ (xs:List α) (t:Nat),t<xs.length*k->((xs.map enc).flatten)[t]?=(xs[t / k]?).bind λx=>(enc x)[t % k]?
 |[],t,h=>by simp at h
 |x::xs,t,h=>by
  rw[zG,List.flatten_cons];rcases zn t k with c|c
  .rw[xg (by rw[hk];exact c),Nat.div_eq_of_lt c,xu c];rfl
  .rw[xm (by rw[hk];exact c),hk,AS hk h0 xs (t-k) (by rw[zS,zO,xJ] at h;omega)];have e1:t / k=(t-k) / k+1:=by rw[Nat.div_eq_sub_div h0 c]
   have e2:t % k=(t-k) % k:=Nat.mod_eq_sub_mod c;rw[e1,e2,List.getElem?_cons_succ]
theorem Mk {α:Type}{enc:α->List Value}{k:Nat}(hk:∀ x,(enc x).length=k) (xs:List α):((xs.map enc).flatten).length=xs.length*k:=by
 induction xs with
 |nil=>simp
 |cons x xs ih=>rw[zG,List.flatten_cons,zJ,hk,ih,zS,zO];omega
theorem AX {α:Type}[Inhabited α] {enc:α->List Value}{k:Nat}(hk:∀ x,(enc x).length=k) (h0:0<k) (xs:List α):Go.Sort.flatK enc k xs.toArray=((xs.map enc).flatten).toArray:=by
 apply Array.ext
 .simp[Mk hk]
 intro t h1 h2;have ht:t<xs.length*k:=by simpa using h1
 have hd:t / k<xs.length:=Nat.div_lt_of_lt_mul (by rw[wa];exact ht);have hm:t % k<k:=w5 _ h0;have e:=AS hk h0 xs t ht;have jC:t % k<(enc xs[t / k]).length:=by rw[hk];exact hm
 have u9:t<((xs.map enc).flatten).length:=by rw[Mk hk];exact ht
 rw[z6 hd,xt,z6 jC,z6 u9] at e;have e:=osj e;have g:=Go.Sort.get_flatK enc k xs.toArray t (by simpa using ht);rw[getElem!_pos (Go.Sort.flatK enc k xs.toArray) t h1,getElem!_pos xs.toArray (t / k) (by simpa using hd)] at g;have e4:xs.toArray[t / k]'(by simpa using hd)=xs[t / k]:=rfl;rw[e4,getElem!_pos (enc xs[t / k]) (t % k) jC,<-e] at g;exact g
theorem Kind.q1n:∀ {k:Kind},k.flat=true->∀ x:k.T,(Mw k x).length=k.size
 |.i _,_,_|.bo,_,_|.st,_,_=>rfl
 |.list _,h,_=>by cases h
 |.pair a b,h,x=>by simp only[Kind.flat,z8] at h;simp only[Mw,Kind.size,zJ,Kind.q1n h.1,Kind.q1n h.2]
theorem RK:∀ {k:Kind},k.flat=true->∀ x:k.T,∀ v∈Mw k x,v.oneCell'=true
 |.i _,_,_,v,h|.bo,_,_,v,h|.st,_,_,v,h=>by simp only[Mw,zh] at h;subst h;rfl
 |.list _,h,_,_,_=>by cases h
 |.pair a b,h,x,v,hv=>by
  simp only[Kind.flat,z8] at h;simp only[Mw,zF] at hv;rcases hv with hv|hv
  .exact RK h.1 _ _ hv
  .exact RK h.2 _ _ hv
theorem Rf {ρ:Plc}{n:Nat}:∀ {vs:List Value},vs.all QM=true->LRel ρ n vs vs
 |[],_=>LRel.nil _ _
 |v::vs,h=>by simp only[zZ,z8] at h;exact LRel.cons (XF h.1) (Rf h.2)
theorem Bc {k:Kind}(h:k.flat=true):∀ xs:List k.T,((xs.map (Mw k)).flatten).all QM=true
 |[]=>rfl
 |x::xs=>by rw[zG,List.flatten_cons,List.all_append,No h,Bc h xs];rfl
theorem VCalled.q2k {P:Program}{f g:FuncId}{i cap len k ty:Nat}{vs vs':List Value}{c:List Value}{t:Bool}{U:Heap}{K:Value->Heap->Prop}(hg:vs'.length=vs.length) (he:ZI P f)
  (h:∀ (blk off cap:Nat) (w:World),Go.Sort.Holds id w blk off vs.toArray->blk<w.heap.size->Calls P f #[.slice (some ⟨blk,off,none⟩) len cap,.func (.func g) #[] #[]] w λe w'=>e=.returned (.tuple #[])/\∃ n os,w'=Go.Sort.grow (Go.Sort.putRow id (Go.Sort.ahead w n) blk off vs'.toArray) os)
  (hb:U.get i=some (.cells c ⟨k,ty⟩ true t)) (h0:0<len) (mL:vs.length=len*k) (cu:len<=cap) (hl:cap*k<=c.length) (hr:c.take (len*k)=vs) (iL:vs.all QM=true) (cQ:vs'.all QM=true)
  (hK:K (.tuple #[]) (U.upd i (.cells (Yi c 0 vs') ⟨k,ty⟩ true t))):VCalled P f [.slice (some ⟨i,0,none⟩) len cap,.func (.func g) #[] #[]] U K:=by
 intro ρ w ax hH hL;obtain⟨p,hp,hB⟩:=hH.live i _ hb;obtain⟨h1,h2,h3,⟨C,e,fr,h4,gJ⟩,h5,h6⟩:=hB;obtain⟨u,u2,rfl⟩:∃ u u2,ax=#[u,u2]:=⟨ax[0]'(by have:=hL.1;simp at this;omega),ax[1]'(by have:=hL.1;simp at this;omega),by
  have aC:ax.size=2:=by have:=hL.1;simpa using this.symm
  apply Array.ext (by simpa using aC);intro j oc dN;rcases (show j=0\/j=1 by simp at dN;omega) with rfl|rfl<;>rfl⟩
 have hu:=hL.2 0 _ u rfl rfl;have ij:=hL.2 1 _ u2 rfl rfl;obtain rfl:u2=.func (.func g) #[] #[]:=by
  cases ij with
  |func fn fs gs cs ds hf hc _ _ =>have e1:gs=#[]:=Array.eq_empty_of_size_eq_zero (by simpa using hf.symm);have e2:ds=#[]:=Array.eq_empty_of_size_eq_zero (by simpa using hc.symm);rw[e1,e2]
 cases hu with
 |sl _ _ _ _ a aw hi aQ =>
  obtain⟨q1,q2,⟨_,q5⟩|⟨o',rfl,q3,q4⟩⟩:=aQ p hp
  .omega
  have r7:len*k<=cap*k:=zx _ cu;have gI:Go.Sort.Holds id w p.blk (p.shift+o') vs.toArray:=λj hj=>by
   simp only[List.size_toArray] at hj;obtain rfl:o'=0:=by omega
   have oY:c[j]?=some vs[j]:=by
    have e1:(c.take (len*k))[j]?=vs[j]?:=by rw[hr]
    rw[zP,z7 (by omega),z6 hj] at e1;exact e1
   obtain⟨u,rv,ij⟩:=h5 j _ oY;obtain rfl:=Y9 (zf.1 iL _ (zp hj)) ij;refine⟨?_,(h6 rfl).2 j (by have:=(zg.1 oY).1;omega)⟩;rw[zU,rv];simp[hj]
  refine .inl ⟨λw=>W9 he _ w,(h p.blk (p.shift+o') aw w gI (hH.lt i p hp)).mono λe w' ⟨gP,n,os,eX⟩=>?_⟩;subst eX;obtain⟨k1,k2⟩:=hH.store hp hb (o:=0) (Rf cQ) (by omega);have hw:Go.Sort.putRow id w p.blk (p.shift+o') vs'.toArray=w.setCells p.blk (p.shift+0) vs':=by
   obtain rfl:o'=0:=by omega
   have:=Kn (id:Value->Value) p.blk vs' w (p.shift+0);rw[List.map_id] at this;exact this
  rw[Go.Sort.putRow_ahead,hw];have hold:∀ k,k<(w.setCells p.blk (p.shift+0) vs').heap.size->(Go.Sort.grow (Go.Sort.ahead (w.setCells p.blk (p.shift+0) vs') n) os).heap[k]?=(w.setCells p.blk (p.shift+0) vs').heap[k]?:=λk hk =>
   Go.Sort.heap_grow_old _ os (by simpa using hk)
  have aG:(w.setCells p.blk (p.shift+0) vs').heap.size<=(Go.Sort.grow (Go.Sort.ahead (w.setCells p.blk (p.shift+0) vs') n) os).heap.size:=by simp
  refine⟨_,gP,.tuple #[],ρ,_,hK,.tuple _ _ rfl (λi h1 _=>by simp at h1),k1.world aG (λi p hp=>hold _ (k1.lt i p hp)) (λg cs hg=>hold _ (k1.tab.lt hg)),k2.trans ⟨rfl,rfl,rfl,aG,λB hB _=>hold B hB,λ_ _ h=>h,ze _,λ_ _ _ h=>h⟩⟩
theorem Ln {α:Type}[Inhabited α] {cf:α->α->Int}(hO:Go.Sort.SWO (Go.Proofs.ltOf cf)) (xs:List α):(SN cf xs).Perm xs/\(SN cf xs).length=xs.length/\∀ i j,i<j->j<xs.length->Go.Proofs.ltOf cf ((SN cf xs)[j]?.getD default) ((SN cf xs)[i]?.getD default)=false:=by
 obtain⟨⟨h1,_,h2⟩,h3⟩:=Go.Sort.pdq_sorts (Go.Proofs.ltOf cf) hO xs.toArray 0 xs.length (Go.Lib.bitLen xs.length) true true (Nat.zero_le _) (ze _) (Or.inl rfl);have hl:(SN cf xs).length=xs.length:=by unfold SN;rw[Array.length_toList,h1];rfl
 refine⟨?_,hl,λi j bN hj=>?_⟩
 .have e1:(xs.toArray.extract 0 xs.length).toList=xs:=by simp
  have e2:((Go.Sort.pdq (Go.Proofs.ltOf cf) xs.toArray 0 xs.length (Go.Lib.bitLen xs.length) true true).extract 0 xs.length).toList=SN cf xs:=by
   have:xs.length=(Go.Sort.pdq (Go.Proofs.ltOf cf) xs.toArray 0 xs.length (Go.Lib.bitLen xs.length) true true).size:=by rw[h1];rfl
   unfold SN;rw[Array.toList_extract];rw[List.extract_eq_take_drop,x8,zN (by rw[Array.length_toList];omega)]
  rw[e1,e2] at h2;exact h2
 .have:=h3 i j (Nat.zero_le _) bN hj;have g:∀ t,((Go.Sort.pdq (Go.Proofs.ltOf cf) xs.toArray 0 xs.length (Go.Lib.bitLen xs.length) true true)[t]!)=(SN cf xs)[t]?.getD default:=λt=>by
   unfold SN;rw[Array.getElem?_toList];by_cases ht:t<(Go.Sort.pdq (Go.Proofs.ltOf cf) xs.toArray 0 xs.length (Go.Lib.bitLen xs.length) true true).size
   .rw[getElem!_pos (Go.Sort.pdq (Go.Proofs.ltOf cf) xs.toArray 0 xs.length (Go.Lib.bitLen xs.length) true true) t ht,x7 ht];rfl
   .rw[getElem!_neg (Go.Sort.pdq (Go.Proofs.ltOf cf) xs.toArray 0 xs.length (Go.Lib.bitLen xs.length) true true) t ht,Array.getElem?_eq_none (by omega)];rfl
  rw[g,g] at this;exact this
theorem Q1r {h:Heap}{k:Kind}(hk:k.flat=true) (ys:List k.T) {c:List Value}(hl:ys.length*k.size<=c.length):Rows (KC h k) ys ((Yi c 0 ((ys.map (Mw k)).flatten)).take (ys.length*k.size)):=by have b9:((ys.map (Mw k)).flatten).length=ys.length*k.size:=Mk (Kind.q1n hk) ys;rw[VJ (by omega),b9];simp only[wk,xk];rw[List.take_append_of_le_length (by omega),zN (by omega)];exact Rows.ofEnc hk ys
theorem Oi {P:Program}{ρ0:Go.Shelf.Ren}{f ty g:Nat}{k:Kind}[Inhabited k.T] {ap:Ap}(L:Go.Proofs.SlLaysF0.n6 P ρ0) (he:ZI P f) (hf:ρ0.f 6=f) (hk:k.flat=true)
  (aE:∀ w,(isAgg (ρ0.t 24)).run P w=.ok true w) (zE:∀ w,(Go.sizeOf (ρ0.t 24)).run P w=.ok k.size w) (cf:k.T->k.T->Int) (hO:Go.Sort.SWO (Go.Proofs.ltOf cf)) (eg:∀ args w,(callFunc g args).run P w=.ok (.enter g args) w)
  (rA:∀ (x y:k.T) (W:World),Calls P g #[.agg (Mw k x).toArray,.agg (Mw k y).toArray] W λe w'=>e=.returned (.int .i64 (cf x y))/\∃ q rB,w'=Go.Sort.grow (W.drewN q) rB)
  {D:Type}{al:AL D}{pre:List k.T->Bool->D->Prop}(hp:∀ xs nl d,pre xs nl d->nl=false/\0<xs.length/\xs.length<=1000000) :
  XOk P f (Oe g (Fb ap (Fq ty k al pre (λ_ _ _=>.tup []) (λxs _ _=>SN cf xs)))):=by
 subst hf;intro B F pl tb s env U d args vs K R hG ha hx hK;unfold Oe at hx;split at hx
 rotate_left
 .exact hx.elim
 rename_i a g';cases rC:Nat.beq g' g with
 |false=>rw[rC] at hx;exact hx.elim
 |true =>
 rw[rC] at hx;simp only[zm] at hx;obtain rfl:g'=g:=zV rC;unfold Fb at hx;split at hx
 .rename_i a1 sB oZ;obtain⟨rfl,rfl⟩:=zX oZ;split at hx
  .rename_i o a7;cases iA:((Qf s.own o).ret&&Z4b a (Qf s.own o)) with
   |false=>rw[iA] at hx;exact hx.elim
   |true =>
   rw[iA] at hx;simp only[zm] at hx;simp only[z8] at iA;obtain⟨l8,dS⟩:=iA;split at hx
   .rename_i c v b' bM;cases cK:(v.ret 0&&b'.ret) with
    |false=>rw[cK] at hx;exact hx.elim
    |true =>
    rw[cK] at hx;obtain⟨hc,hx⟩:=hx;simp only[SRs,SR] at ha;obtain⟨u,us,rfl,pJ,u2,vV,rfl,⟨fs,ds,rfl,rfl,rfl⟩,rfl⟩:=ha;have ao:=OB.q1z l8;have aq:=hG.obj o;unfold Fq at bM;split at bM
    .rename_i gB k' ry nl aJ;split at bM
     .rename_i e;subst e;split at bM
      .rename_i xs dd h1 h2;obtain⟨rfl,rfl,rfl⟩:=(by simpa using bM:pre xs nl dd=c/\SV.tup []=v/\OB.lst gB k (SN cf xs) nl=b');unfold UC at h1;split at h1
       .rename_i e;subst e;have h1:xs=ry:=(osj h1).symm;subst h1;rw[aJ] at dS;have hu:u=pl o:=by
         unfold Z32 at a7;split at a7
         .obtain rfl:=osj a7;simp only[SR] at pJ;exact pJ.1
         .cases dS
         .cases a7
        subst hu;obtain⟨jO,bc,iI⟩:=hp _ _ _ hc;subst jO;rw[aJ] at aq;obtain⟨p1,p2,p3⟩:=Ln hO xs;rcases aq with⟨hf,_⟩|⟨_,i,cap,c,t,h3,h4,h5,h6,h7⟩
        .cases hf
        .rw[h3];have bn:F.get i=none:=hG.fresh o i ao (by rw[h3];rfl);have a_:∀ j i',j≠o->(Qf s.own j).live=true->Oid (pl j) i'->i'≠i:=λj i' hj hl hi e=>by
          subst e;exact hG.sep j o i' hj hl ao hi (by rw[h3];rfl)
         have rz:c.take (xs.length*k'.size)=(xs.map (Mw k')).flatten:=Rows.enc hk h7;have bh:=Kind.q1n hk;have bM:=k'.size_pos;refine VCalled.q2k (k:=k'.size) (g:=g') (vs:=(xs.map (Mw k')).flatten) (vs':=((SN cf xs).map (Mw k')).flatten) (by rw[Mk bh,Mk bh,p2]) he (λblk off cap w hH hb=>?_) h5 bc (Mk bh xs) h4 h6 rz (Bc hk xs) (Bc hk _) ?_
         .have hh:Go.Sort.HoldsK (Mw k') k'.size w blk off xs.toArray:=by
           unfold Go.Sort.HoldsK;rw[AX bh bM];exact hH
          have:=Go.Proofs.AnyQ.slices_SortFunc_eq L k'.size aE zE (Mw k') bh (RK hk) cf hO g' #[] blk off cap xs.toArray w eg (λm os dk _ x y=>rA x y _) hh hb (by simp;omega);refine this.mono λe w' ⟨gP,n,os,eX⟩=>⟨gP,n,os,?_⟩;rw[eX];unfold Go.Proofs.sortWorldK Go.Sort.putRowK;have e3:Go.Sort.pdq (Go.Proofs.ltOf cf) xs.toArray 0 xs.toArray.size (Go.Lib.bitLen xs.toArray.size) true true=(SN cf xs).toArray:=by unfold SN;simp
          rw[e3,AX bh bM]
         refine hK _ _ B F pl tb (.tuple #[]) _ hx (GBase.of hG.bf (Dead.upd _ _ _ (by rw[h5];rfl))) (hG.writeF o (.lst gB k' (SN cf xs) false) (hG.le.upd bn _) ao (λj i' hj hl hi=>Heap.q0b _ _ (a_ j i' hj hl hi)) (.inr ⟨rfl,i,cap,_,t,by rw[h3,p2],by rw[p2];exact h4,Heap.q0c _ _ (U.lt h5),by rw[Xb];exact h6,?_⟩)).1 ?_
         .exact Q1r hk _ (by rw[p2];exact x4 (zx _ h4) h6)
         .simp only[SR,SRs];exact⟨[],rfl,rfl⟩
       .cases h1
      .cases bM
     .cases bM
    .cases bM
   .exact hx.elim
  .exact hx.elim
 .exact hx.elim
end Go.V
namespace Go.Proofs.Tryz
open Go Go.V Go.Proofs
abbrev q4 {A B C D E:Type}(x:A×B×C×D×E):E:=x.2.2.2.2
def KT:AL (Int×Int):=(.cons (.k (.i .i64)) (.one (.k (.i .i64))))
def Gv (d:Int×Int):Prop:=True
def Kp (d:Int×Int):SV:=.val (.i .i64) (Ff d.1 d.2)
def Kt (d:Int×Int):List OB:=[]
def Y6:CSp:=VU KT Gv Kp Kt
def JY (a:Int) (b:Int):Prop :=
 (True)/\(True)/\(false=true ->
  (false=true ->
   ((0:Int)=(Ff a b)/\(True))) /\
  (false=false ->
   ((-1:Int)=(Ff a b)/\(True)))) /\
 (false=false ->
  (false=true ->
   ((1:Int)=(Ff a b)/\(True))) /\
  (false=false ->
   ((decide (a<b))=true ->
    ((-1:Int)=(Ff a b)/\(True))) /\
   ((decide (a<b))=false ->
    ((decide (a > b))=true ->
     ((1:Int)=(Ff a b)/\(True))) /\
    ((decide (a > b))=false ->
     ((0:Int)=(Ff a b)/\(True))))))
def V1:Cx:=⟨[],[(111,Kk)],20,[],0,[],[],[],[],false,[],[],[],[]⟩
def Gz (a:Int) (b:Int):List (Nat×LoopAnn):=[]
theorem D6 (d:Int×Int):gwp (V1) (Gz d.1 d.2) c67 0 (UO [.tmp 4] (Kp d) (Kt d)) (Zd 20 (AL.can KT d))=JY d.1 d.2:=by kernel_rfl
abbrev GO:Prop:=OkC Tryz.prog 67 Y6
theorem D7 (h:∀ (a:Int) (b:Int),(True)->JY a b):OkC Tryz.prog 67 Y6 :=
 Zv Q61 mixed (C:=V1) (V:=λ(d:Int×Int)=>JY d.1 d.2) ⟨(.cons BU .nil),XsOk.nil,ItsOk.nil,YlOk.nil,IysOk.nil,XfOk.nil⟩ (D6) λd hp=>h d.1 d.2 hp
theorem D9:GO:=D7 λa b _=>by
 unfold JY;(try delta lI gD sT I64 W5 pj8 pj4);simp only[zC,x_,true_and,and_true,eq_self_iff_true,exists_eq_left',exists_const,zC,x_,z_,bne_iff_ne,ne_eq,wq,bne_eq_false_iff_eq,Bool.not_eq_true',xR,w4,Bool.not_eq_false,zB,Int.ofNat_lt,gt_iff_lt,ge_iff_le,forall_eq,true_implies,false_implies,zD,Bool.or_self,Bool.and_self,xZ,Bool.false_or,Bool.or_true,Bool.true_or,Bool.and_false,Bool.false_and,xT,Bool.true_and,xY,Bool.not_false,implies_true,forall_const,decide_false,decide_true,not_false_eq_true,not_true_eq_false];unfold Ff;refine⟨λh=>?_,λh=>⟨λh2=>?_,λh2=>?_⟩⟩
 .rw[z7 h]
 .rw[z1 h,z7 h2]
 .rw[z1 h,z1 h2]
def M5:AL ((Int×Int×Bool)×Int×Int×Bool):=(.cons (.agg (.cons (.k (.i .i64)) (.cons (.k (.i .i64)) (.one (.k .bo))))) (.one (.agg (.cons (.k (.i .i64)) (.cons (.k (.i .i64)) (.one (.k .bo)))))))
def BR (d:(Int×Int×Bool)×Int×Int×Bool):Prop:=True
def UB (d:(Int×Int×Bool)×Int×Int×Bool):SV:=.val (.i .i64) (Ff d.1.1 d.2.1)
def Uy (d:(Int×Int×Bool)×Int×Int×Bool):List OB:=[]
def Y8:CSp:=VU M5 BR UB Uy
def Wz (cn:Int) (cr:Int) (ct:Bool) (dn:Int) (dr:Int) (dt:Bool):Prop :=
 (True)/\((Ff cn dn)=(Ff cn dn)/\(True))
def Nk:Cx:=⟨[],[(67,Y6)],10,[],0,[],[],[],[],false,[],[],[],[]⟩
def HR (cn:Int) (cr:Int) (ct:Bool) (dn:Int) (dr:Int) (dt:Bool):List (Nat×LoopAnn):=[]
theorem PG (d:(Int×Int×Bool)×Int×Int×Bool):gwp (Nk) (HR d.1.1 d.1.2.1 d.1.2.2 d.2.1 d.2.2.1 d.2.2.2) c66 0 (UO [.tmp 4] (UB d) (Uy d)) (Zd 10 (AL.can M5 d))=Wz d.1.1 d.1.2.1 d.1.2.2 d.2.1 d.2.2.1 d.2.2.2:=by kernel_rfl
abbrev PR:Prop:=OkC Tryz.prog 66 Y8
theorem HP (h:∀ (cn:Int) (cr:Int) (ct:Bool) (dn:Int) (dr:Int) (dt:Bool),(True)->Wz cn cr ct dn dr dt):OkC Tryz.prog 66 Y8 :=
 Zv Q6x mixed (C:=Nk) (V:=λ(d:(Int×Int×Bool)×Int×Int×Bool)=>Wz d.1.1 d.1.2.1 d.1.2.2 d.2.1 d.2.2.1 d.2.2.2) ⟨(.cons D9 .nil),XsOk.nil,ItsOk.nil,YlOk.nil,IysOk.nil,XfOk.nil⟩ (PG) λd hp=>h d.1.1 d.1.2.1 d.1.2.2 d.2.1 d.2.2.1 d.2.2.2 hp
theorem Pp:PR:=HP λcn cr ct dn dr dt _=>by unfold Wz;exact(by and_intros<;>first|rfl|trivial|simp)
def Z06 (c d:Int×Int×Bool):Int:=Go.Lib.compareInt c.1 d.1
abbrev Q7t (xs:List (Int×Int×Bool)):List (Int×Int×Bool):=SN Z06 xs
theorem S8 (x y:Int×Int×Bool):Go.Proofs.ltOf Z06 x y=decide (x.1<y.1):=by
 unfold Go.Proofs.ltOf Z06 Go.Lib.compareInt;by_cases h1:x.1<y.1
 .simp[h1]
 .by_cases h2:y.1<x.1<;>simp[h1,h2]
theorem Al:Go.Sort.SWO (Go.Proofs.ltOf Z06) where
 irrefl x:=by rw[S8];simp
 trans x y z h1 h2:=by rw[S8] at *;simp at *;omega
 ntrans x y z h1 h2:=by rw[S8] at *;simp at *;omega
open Go.Shelf Go.RowKit Go.Lib Go.Sort in
set_option maxHeartbeats 1000000 in
theorem ER (x y:Int×Int×Bool) (W:World):Calls Tryz.prog 66 #[.agg #[.int .i64 x.1,.int .i64 x.2.1,.bool x.2.2],.agg #[.int .i64 y.1,.int .i64 y.2.1,.bool y.2.2]] W λe w'=>e=.returned (.int .i64 (Go.Lib.compareInt x.1 y.1))/\∃ q rB,w'=Go.Sort.grow (W.drewN q) rB:=by
 have mz:=λW'=>AnyG.cmp_Compare_int Tryz.laysCmp x.1 y.1 W';change ∀ W',Calls Tryz.prog 67 _ _ _ at mz;generalize Lib.compareInt x.1 y.1=r at mz |-
 go_enter Tryz.func66,Tryz.ntmps66
 go_wp2_with (go_at_call 67;refine (mz _).mono ?_;rintro e w' ⟨rfl,rfl⟩)
 go_ret
 exact⟨rfl,0,_,by rw[alloc_eq_grow,alloc_eq_grow,grow_grow];rfl⟩
theorem Q67 {cs:List Wn}(hn:(cs.map (·.1)).Nodup):Q7t cs=FB CT cs 0 cs.length:=by
 obtain⟨p1,p2,p3⟩:=Ln Al cs;have hp:=GM (f:=CT) (a:=0) (ze cs.length);have hs:=SX (f:=CT) (λx y h h2=>by rw[Bi] at h h2;omega) (λx y z h1 h2 h3=>by rw[Bi] at h1 h2 h3;omega) cs;have hk:∀ {a b:Wn},a∈cs->b∈cs->a.1=b.1->a=b:=λ{a b} ha hb e=>by obtain⟨i,hi,rfl⟩:=List.getElem_of_mem ha;obtain⟨j,hj,rfl⟩:=List.getElem_of_mem hb;have:i=j:=(List.getElem_inj (h₀:=by simpa using hi) (h₁:=by simpa using hj) hn).1 (by rw[xw,xw];exact e);subst this;rfl
 refine List.Perm.eq_of_pairwise (le:=λa b:Wn=>a.1<=b.1) (λa b ha hb h1 h2=>hk (p1.mem_iff.1 ha) (hp.mem_iff.1 hb) (by omega)) (List.pairwise_iff_getElem.2 λi j hi hj bN=>?_) (hs.imp λh=>by rw[Bi] at h;omega) (p1.trans hp.symm);have:=p3 i j bN (by rw[<-p2];exact hj);rw[S8,z6 hj,z6 hi] at this;have:=zq this;simp only[Option.getD_some] at this;omega
def Jk:AL (((Int×Int×Bool)×(Int×Int×Bool)->Prop)×((Int×Int×Bool)×(Int×Int×Bool)->Int)):=(.one (.fn [(.pair (.i .i64) (.pair (.i .i64) .bo)),(.pair (.i .i64) (.pair (.i .i64) .bo))] (.i .i64)))
def Jd (xs:List (Int×Int×Bool)) (nl:Bool) (d:((Int×Int×Bool)×(Int×Int×Bool)->Prop)×((Int×Int×Bool)×(Int×Int×Bool)->Int)):Prop:=nl=false/\0<xs.length/\xs.length<=1000000
def J8 (xs:List (Int×Int×Bool)) (nl:Bool) (d:((Int×Int×Bool)×(Int×Int×Bool)->Prop)×((Int×Int×Bool)×(Int×Int×Bool)->Int)):SV:=.tup []
def ZW (xs:List (Int×Int×Bool)) (nl:Bool) (d:((Int×Int×Bool)×(Int×Int×Bool)->Prop)×((Int×Int×Bool)×(Int×Int×Bool)->Int)):List (Int×Int×Bool):=(Q7t xs)
def Z7:XSp:=Oe 66 (Fb (gap [(66,Y8)] 3) (Fq 87 (.pair (.i .i64) (.pair (.i .i64) .bo)) Jk Jd J8 ZW))
abbrev Jl:Prop:=XOk Tryz.prog 109 Z7
theorem Ja:Jl:=Oi (k:=.pair (.i .i64) (.pair (.i .i64) .bo)) Tryz.laysSortF fun109.enterable rfl rfl Tryz.isAgg87 Tryz.sizeOf87 Z06 Al (enters_of Tryz.func66 (by kernel_rfl) rfl) (λx y W=>ER x y W) λ_ _ _ h=>h
def GN:AL (Int×List (Int×Int×Bool)):=(.one (.agg (.cons (.k (.i .i64)) (.one (.k (.list (.pair (.i .i64) (.pair (.i .i64) .bo))))))))
def Tu (d:Int×List (Int×Int×Bool)):Prop:=d.2.length<=1000
def ML (d:Int×List (Int×Int×Bool)):SV:=.tup [.agg [.val (.i .i64) (Nw d.1 d.2),.lst 0],.val (.i .i64) (QR d.1 d.2)]
def MM (d:Int×List (Int×Int×Bool)):List OB:=[.lst 87 (.pair (.i .i64) (.pair (.i .i64) .bo)) (WA d.1 d.2) ((WA d.1 d.2).isEmpty)]
def M1:CSp:=VU GN Tu ML MM
abbrev YY :=(((([]:List SV)=[]))/\(True/\(([]:List SV)=[])))
abbrev Sc :=(YY/\(((([]:List SV)=[]))/\((([]:List SV)=[])))/\True/\True/\True/\True/\YY/\True/\True/\True/\True/\True/\(([]:List SV)=[]))
abbrev Mb (hk:Int) (cs:List (Int×Int×Bool)):=(((WA hk cs)=[]/\(WA hk cs).isEmpty=true)/\True)
abbrev Mm (hk:Int) (cs:List (Int×Int×Bool)):=((0:Int)=(Nw hk cs)/\True/\(([]:List SV)=[]))
abbrev Rw :=(True/\YY/\True/\True/\True/\True/\YY/\True/\True/\True/\True/\True/\True/\(([]:List SV)=[]))
abbrev Sz :=(YY/\True/\True/\YY/\True/\(([]:List SV)=[]))
def YL (hk:Int) (cs:List (Int×Int×Bool)):Prop :=
 ∀ w1:List Value,∀ w2:List Value,(True)/\((!(inI hk 1 24))=true ->
  w2=w2/\w1=w1/\(((Mm hk cs)/\(3:Int)=(QR hk cs)/\(([]:List SV)=[]))/\(Mb hk cs))) /\
 ((!(inI hk 1 24))=false ->
  (((decide ((lI cs) > (60:Int)))=true ->
   w2=w2/\w1=w1/\(((Mm hk cs)/\(5:Int)=(QR hk cs)/\(([]:List SV)=[]))/\(Mb hk cs))) /\
  ((decide ((lI cs) > (60:Int)))=false ->
   (1<=hk/\hk<=24/\cs.length<=1000000)/\((!(!cs.isEmpty&&!(cs.any λc=>!Zg hk c)))=true ->
    w2=w2/\w1=w1/\(((Mm hk cs)/\(2:Int)=(QR hk cs)/\(([]:List SV)=[]))/\(Mb hk cs))) /\
   ((!(!cs.isEmpty&&!(cs.any λc=>!Zg hk c)))=false ->
    w2=w2/\∃ (e5:Int×(List (Int×Int×Bool))×Int×Int×Int×(List (Int×Int×Bool))×Int×(List (Int×Int×Bool))×Int×Int×(List (Int×Int×Bool))×Int×(List (Int×Int×Bool))×Int×Int×Int×(List (Int×Int×Bool))×(List Value)) (d50:(List (Int×Bool))×Int),((True/\True/\True/\True/\cs=(q4 e5).2.2.2.1/\(lI cs)=(q4 (q4 e5)).1/\(0:Int)=d50.2/\True)/\((hk=e5.1/\cs=e5.2.1/\(([]:List SV)=[]))/\((0:Int)=e5.2.2.1/\True/\(0:Int)=e5.2.2.2.1/\(([]:List SV)=[]))/\(hk=(q4 e5).1/\cs=(q4 e5).2.1/\hk=(q4 e5).2.2.1/\(([]:List SV)=[]))/\(([]:List (Int×Bool))=d50.1)/\((q4 (q4 (q4 (q4 e5)))).2=w1/\((hk=(q4 (q4 e5)).2.1/\cs=(q4 (q4 e5)).2.2.1/\(([]:List SV)=[]))/\True/\True/\(0:Int)=(q4 (q4 (q4 e5))).2.2.1/\True/\True/\True/\True/\(hk=(q4 (q4 (q4 e5))).2.2.2.1/\cs=(q4 (q4 (q4 (q4 e5)))).1/\(([]:List SV)=[]))/\True/\True/\True/\True/\True/\True/\True/\True/\True/\True/\True/\True/\True/\True/\True/\True/\True/\True/\True/\True/\True/\True/\True/\True/\True/\(([]:List SV)=[])))/\(hk=(q4 (q4 e5)).2.2.2.1/\cs=(q4 (q4 (q4 e5))).1/\(([]:List SV)=[]))/\((0:Int)=(q4 (q4 (q4 e5))).2.1/\True/\(([]:List SV)=[]))/\True)) /\
    LoopP (λ(d5:(List (Int×Bool))×Int) (q5:((List (Int×Bool))×Int)->Prop) =>
     ((decide (d5.2<(q4 (q4 e5)).1))=true ->
      (0<=d5.2)/\(d5.2<(List.length (q4 e5).2.2.2.1))/\(I64 (d5.2+(1:Int)))/\(∃ d6:(List (Int×Bool))×Int,((True/\True/\True/\True/\(q4 e5).2.2.2.1=(q4 e5).2.2.2.1/\(q4 (q4 e5)).1=(q4 (q4 e5)).1/\(d5.2+(1:Int))=d6.2/\True)/\((e5.1=e5.1/\e5.2.1=e5.2.1/\(([]:List SV)=[]))/\(e5.2.2.1=e5.2.2.1/\True/\e5.2.2.2.1=e5.2.2.2.1/\(([]:List SV)=[]))/\((q4 e5).1=(q4 e5).1/\(q4 e5).2.1=(q4 e5).2.1/\(q4 e5).2.2.1=(q4 e5).2.2.1/\(([]:List SV)=[]))/\((Uo (.i .i64) d5.1 (gD (q4 e5).2.2.2.1 d5.2 (0,(0,false))).1 true)=d6.1)/\((q4 (q4 (q4 (q4 e5)))).2=(q4 (q4 (q4 (q4 e5)))).2/\(((q4 (q4 e5)).2.1=(q4 (q4 e5)).2.1/\(q4 (q4 e5)).2.2.1=(q4 (q4 e5)).2.2.1/\(([]:List SV)=[]))/\True/\True/\(q4 (q4 (q4 e5))).2.2.1=(q4 (q4 (q4 e5))).2.2.1/\True/\True/\True/\True/\((q4 (q4 (q4 e5))).2.2.2.1=(q4 (q4 (q4 e5))).2.2.2.1/\(q4 (q4 (q4 (q4 e5)))).1=(q4 (q4 (q4 (q4 e5)))).1/\(([]:List SV)=[]))/\True/\True/\True/\True/\True/\True/\True/\True/\True/\True/\True/\True/\True/\True/\True/\True/\True/\True/\True/\True/\True/\True/\True/\True/\True/\(([]:List SV)=[])))/\((q4 (q4 e5)).2.2.2.1=(q4 (q4 e5)).2.2.2.1/\(q4 (q4 (q4 e5))).1=(q4 (q4 (q4 e5))).1/\(([]:List SV)=[]))/\((q4 (q4 (q4 e5))).2.1=(q4 (q4 (q4 e5))).2.1/\True/\(([]:List SV)=[]))/\True))/\q5 d6)) /\
     ((decide (d5.2<(q4 (q4 e5)).1))=false ->
      ((gq.aget (.i .i64) d5.1 (-1:Int) false)=true ->
       (q4 (q4 (q4 (q4 e5)))).2=w1/\(((Mm hk cs)/\(9:Int)=(QR hk cs)/\(([]:List SV)=[]))/\(Mb hk cs))) /\
      ((gq.aget (.i .i64) d5.1 (-1:Int) false)=false ->
       ((decide ((lI d5.1)<(lI e5.2.1)))=true ->
        (q4 (q4 (q4 (q4 e5)))).2=w1/\(((Mm hk cs)/\(6:Int)=(QR hk cs)/\(([]:List SV)=[]))/\(Mb hk cs))) /\
       ((decide ((lI d5.1)<(lI e5.2.1)))=false ->
        (q4 (q4 (q4 (q4 e5)))).2=w1/\∀ w7:List Value,w7=w7/\∀ w8:List Value,∀ w9:List Value,∀ jk:List Value,∀ h_:LpD,∃ (au:(List (Int×Int×Bool))×Int×Int×(List (Int×Int×Bool))×Int×(List (Int×Int×Bool))×Int×Int×Int×(List (Int×Int×Bool))×Int×Int×Int×(List (Int×Int×Bool))×Int×Int×Int×(List (Int×Int×Bool))×Int×(List (Int×Int×Bool))×Int×Int×Int×(List (Int×Int×Bool))×Int×Int×Int×(List (Int×Int×Bool))×(List (Int×Int×Bool))×(List Value)×(List Value)×(List Value)×LpD) (d150:Int×(List (Int×Int×Bool))),((True/\(q4 (q4 (q4 e5))).1=au.1/\(lI (q4 (q4 (q4 e5))).1)=au.2.1/\(0:Int)=d150.1/\True)/\(((q4 (q4 (q4 (q4 (q4 (q4 (q4 au))))))).2.1=w8/\(((q4 (q4 e5)).2.1=au.2.2.1/\(q4 (q4 e5)).2.2.1=au.2.2.2.1/\(([]:List SV)=[]))/\True/\True/\(q4 (q4 (q4 e5))).2.2.1=(q4 au).2.2.2.1/\True/\(0:Int)=(q4 (q4 au)).2.2.2.1/\True/\(((q4 e5).1=(q4 (q4 (q4 au))).1/\(q4 e5).2.1=(q4 (q4 (q4 au))).2.1/\(q4 e5).2.2.1=(q4 (q4 (q4 au))).2.2.1/\(([]:List SV)=[]))/\(0:Int)=(q4 (q4 (q4 au))).2.2.2.1/\(([]:List SV)=[]))/\((q4 (q4 (q4 e5))).2.2.2.1=(q4 (q4 (q4 (q4 au)))).1/\(q4 (q4 (q4 (q4 e5)))).1=(q4 (q4 (q4 (q4 au)))).2.1/\(([]:List SV)=[]))/\(((q4 e5).1=(q4 (q4 (q4 (q4 au)))).2.2.1/\(q4 e5).2.1=(q4 (q4 (q4 (q4 au)))).2.2.2.1/\(q4 e5).2.2.1=(q4 (q4 (q4 (q4 (q4 au))))).1/\(([]:List SV)=[]))/\(0:Int)=(q4 (q4 (q4 (q4 (q4 au))))).2.1/\(([]:List SV)=[]))/\((q4 e5).1=(q4 (q4 (q4 (q4 (q4 au))))).2.2.1/\(q4 e5).2.1=(q4 (q4 (q4 (q4 (q4 au))))).2.2.2.1/\(q4 e5).2.2.1=(q4 (q4 (q4 (q4 (q4 (q4 au)))))).1/\(([]:List SV)=[]))/\(0:Int)=(q4 (q4 (q4 (q4 (q4 (q4 au)))))).2.1/\(0:Int)=(q4 (q4 (q4 (q4 (q4 (q4 au)))))).2.2.1/\True/\True/\True/\True/\(q4 (q4 (q4 e5))).1=(q4 (q4 (q4 (q4 (q4 (q4 au)))))).2.2.2.1/\YY/\True/\True/\True/\True/\True/\True/\True/\True/\True/\True/\True/\True/\True/\True/\True/\(([]:List SV)=[])))/\((q4 (q4 e5)).2.2.2.1=(q4 au).1/\(q4 (q4 (q4 e5))).1=(q4 au).2.1/\(([]:List SV)=[]))/\((q4 (q4 (q4 e5))).2.1=(q4 au).2.2.1/\True/\(([]:List SV)=[]))/\((q4 e5).1=(q4 (q4 au)).1/\(q4 e5).2.1=(q4 (q4 au)).2.1/\(q4 e5).2.2.1=(q4 (q4 au)).2.2.1/\(([]:List SV)=[]))/\((q4 (q4 (q4 e5))).1=(q4 (q4 (q4 (q4 (q4 (q4 (q4 au))))))).1/\(([]:List SV)=[]))/\((q4 (q4 (q4 (q4 (q4 (q4 (q4 au))))))).2.2.1=w9/\Sc)/\((q4 (q4 (q4 (q4 (q4 (q4 (q4 au))))))).2.2.2.1=jk/\Sz)/\((q4 (q4 (q4 (q4 (q4 (q4 (q4 (q4 au))))))))=h_/\Rw)/\(True/\(([]:List SV)=[]))/\(d150.2=[]/\(List.isEmpty d150.2)=true)/\True)) /\
        LoopP (λ(d15:Int×(List (Int×Int×Bool))) (j7:(Int×(List (Int×Int×Bool)))->Prop) =>
         ((decide (d15.1<au.2.1))=true ->
          (0<=d15.1)/\(d15.1<(List.length au.1))/\(q4 (q4 (q4 (q4 (q4 (q4 (q4 (q4 au))))))))=h_/\∀ sC:List Value,(((List.length d15.2)+(List.length [((gD au.1 d15.1 (0,(0,false))).1,((gD au.1 d15.1 (0,(0,false))).2.1,(gD au.1 d15.1 (0,(0,false))).2.2))]))*24<=70368744177664)/\sC=sC/\(q4 (q4 (q4 (q4 (q4 (q4 (q4 (q4 au))))))))=h_/\((!true)=true ->
           (q4 (q4 (q4 (q4 (q4 (q4 (q4 (q4 au))))))))=h_/\(q4 (q4 (q4 (q4 (q4 (q4 (q4 au))))))).2.2.2.1=jk/\(q4 (q4 (q4 (q4 (q4 (q4 (q4 au))))))).2.2.1=w9/\(false=false/\0<(d15.2++[((gD au.1 d15.1 (0,(0,false))).1,((gD au.1 d15.1 (0,(0,false))).2.1,(gD au.1 d15.1 (0,(0,false))).2.2))]).length/\(d15.2++[((gD au.1 d15.1 (0,(0,false))).1,((gD au.1 d15.1 (0,(0,false))).2.1,(gD au.1 d15.1 (0,(0,false))).2.2))]).length<=1000000)/\(q4 (q4 (q4 (q4 (q4 (q4 (q4 au))))))).2.1=w8/\∃ (o3:Int) (d170:(List (Int×Int×Bool))×Int),((True/\True/\(lI (Q7t (d15.2++[((gD au.1 d15.1 (0,(0,false))).1,((gD au.1 d15.1 (0,(0,false))).2.1,(gD au.1 d15.1 (0,(0,false))).2.2))])))=o3/\(0:Int)=d170.2/\True)/\(((q4 au).1=hk/\True/\(([]:List SV)=[]))/\((Q7t (d15.2++[((gD au.1 d15.1 (0,(0,false))).1,((gD au.1 d15.1 (0,(0,false))).2.1,(gD au.1 d15.1 (0,(0,false))).2.2))]))=d170.1/\false=(List.isEmpty d170.1))/\((q4 au).2.2.1=(0:Int)/\True/\(([]:List SV)=[]))/\True)) /\
           LoopP (λ(d17:(List (Int×Int×Bool))×Int) (u_:((List (Int×Int×Bool))×Int)->Prop) =>
            ((decide (d17.2<o3))=true ->
             (0<=d17.2)/\(d17.2<(List.length d17.1))/\(I64 (d17.2+(1:Int)))/\(∃ d18:(List (Int×Int×Bool))×Int,((True/\True/\o3=o3/\(d17.2+(1:Int))=d18.2/\True)/\((hk=hk/\True/\(([]:List SV)=[]))/\((sT d17.1 d17.2 ((gD d17.1 d17.2 (0,(0,false))).1,((gD d17.1 d17.2 (0,(0,false))).2.1,false)))=d18.1/\(List.isEmpty d17.1)=(List.isEmpty d18.1))/\((0:Int)=(0:Int)/\True/\(([]:List SV)=[]))/\True))/\u_ d18)) /\
            ((decide (d17.2<o3))=false ->
             (((hk=(Nw hk cs)/\True/\(([]:List SV)=[]))/\(0:Int)=(QR hk cs)/\(([]:List SV)=[]))/\((d17.1=(WA hk cs)/\(List.isEmpty d17.1)=(WA hk cs).isEmpty)/\True)))) d170) /\
          ((!true)=false ->
           (I64 (d15.1+(1:Int)))/\(∃ d19:Int×(List (Int×Int×Bool)),((True/\au.1=au.1/\au.2.1=au.2.1/\(d15.1+(1:Int))=d19.1/\True)/\(((q4 (q4 (q4 (q4 (q4 (q4 (q4 au))))))).2.1=(q4 (q4 (q4 (q4 (q4 (q4 (q4 au))))))).2.1/\((au.2.2.1=au.2.2.1/\au.2.2.2.1=au.2.2.2.1/\(([]:List SV)=[]))/\True/\True/\(q4 au).2.2.2.1=(q4 au).2.2.2.1/\True/\(q4 (q4 au)).2.2.2.1=(q4 (q4 au)).2.2.2.1/\True/\(((q4 (q4 (q4 au))).1=(q4 (q4 (q4 au))).1/\(q4 (q4 (q4 au))).2.1=(q4 (q4 (q4 au))).2.1/\(q4 (q4 (q4 au))).2.2.1=(q4 (q4 (q4 au))).2.2.1/\(([]:List SV)=[]))/\(q4 (q4 (q4 au))).2.2.2.1=(q4 (q4 (q4 au))).2.2.2.1/\(([]:List SV)=[]))/\((q4 (q4 (q4 (q4 au)))).1=(q4 (q4 (q4 (q4 au)))).1/\(q4 (q4 (q4 (q4 au)))).2.1=(q4 (q4 (q4 (q4 au)))).2.1/\(([]:List SV)=[]))/\(((q4 (q4 (q4 (q4 au)))).2.2.1=(q4 (q4 (q4 (q4 au)))).2.2.1/\(q4 (q4 (q4 (q4 au)))).2.2.2.1=(q4 (q4 (q4 (q4 au)))).2.2.2.1/\(q4 (q4 (q4 (q4 (q4 au))))).1=(q4 (q4 (q4 (q4 (q4 au))))).1/\(([]:List SV)=[]))/\(q4 (q4 (q4 (q4 (q4 au))))).2.1=(q4 (q4 (q4 (q4 (q4 au))))).2.1/\(([]:List SV)=[]))/\((q4 (q4 (q4 (q4 (q4 au))))).2.2.1=(q4 (q4 (q4 (q4 (q4 au))))).2.2.1/\(q4 (q4 (q4 (q4 (q4 au))))).2.2.2.1=(q4 (q4 (q4 (q4 (q4 au))))).2.2.2.1/\(q4 (q4 (q4 (q4 (q4 (q4 au)))))).1=(q4 (q4 (q4 (q4 (q4 (q4 au)))))).1/\(([]:List SV)=[]))/\(q4 (q4 (q4 (q4 (q4 (q4 au)))))).2.1=(q4 (q4 (q4 (q4 (q4 (q4 au)))))).2.1/\(q4 (q4 (q4 (q4 (q4 (q4 au)))))).2.2.1=(q4 (q4 (q4 (q4 (q4 (q4 au)))))).2.2.1/\True/\True/\True/\True/\(q4 (q4 (q4 (q4 (q4 (q4 au)))))).2.2.2.1=(q4 (q4 (q4 (q4 (q4 (q4 au)))))).2.2.2.1/\YY/\True/\True/\True/\True/\True/\True/\True/\True/\True/\True/\True/\True/\True/\True/\True/\(([]:List SV)=[])))/\((q4 au).1=(q4 au).1/\(q4 au).2.1=(q4 au).2.1/\(([]:List SV)=[]))/\((q4 au).2.2.1=(q4 au).2.2.1/\True/\(([]:List SV)=[]))/\((q4 (q4 au)).1=(q4 (q4 au)).1/\(q4 (q4 au)).2.1=(q4 (q4 au)).2.1/\(q4 (q4 au)).2.2.1=(q4 (q4 au)).2.2.1/\(([]:List SV)=[]))/\((q4 (q4 (q4 (q4 (q4 (q4 (q4 au))))))).1=(q4 (q4 (q4 (q4 (q4 (q4 (q4 au))))))).1/\(([]:List SV)=[]))/\((q4 (q4 (q4 (q4 (q4 (q4 (q4 au))))))).2.2.1=(q4 (q4 (q4 (q4 (q4 (q4 (q4 au))))))).2.2.1/\Sc)/\((q4 (q4 (q4 (q4 (q4 (q4 (q4 au))))))).2.2.2.1=(q4 (q4 (q4 (q4 (q4 (q4 (q4 au))))))).2.2.2.1/\Sz)/\((q4 (q4 (q4 (q4 (q4 (q4 (q4 (q4 au))))))))=(q4 (q4 (q4 (q4 (q4 (q4 (q4 (q4 au))))))))/\Rw)/\(True/\(([]:List SV)=[]))/\((d15.2++[((gD au.1 d15.1 (0,(0,false))).1,((gD au.1 d15.1 (0,(0,false))).2.1,(gD au.1 d15.1 (0,(0,false))).2.2))])=d19.2/\false=(List.isEmpty d19.2))/\True))/\j7 d19))) /\
         ((decide (d15.1<au.2.1))=false ->
          (q4 (q4 (q4 (q4 (q4 (q4 (q4 (q4 au))))))))=h_/\(q4 (q4 (q4 (q4 (q4 (q4 (q4 au))))))).2.2.2.1=jk/\(q4 (q4 (q4 (q4 (q4 (q4 (q4 au))))))).2.2.1=w9/\((List.isEmpty d15.2)=false/\0<d15.2.length/\d15.2.length<=1000000)/\(q4 (q4 (q4 (q4 (q4 (q4 (q4 au))))))).2.1=w8/\∃ (o4:Int) (d220:(List (Int×Int×Bool))×Int),((True/\True/\(lI (Q7t d15.2))=o4/\(0:Int)=d220.2/\True)/\(((q4 au).1=hk/\True/\(([]:List SV)=[]))/\((Q7t d15.2)=d220.1/\(List.isEmpty d15.2)=(List.isEmpty d220.1))/\((q4 au).2.2.1=(0:Int)/\True/\(([]:List SV)=[]))/\True)) /\
          LoopP (λ(d22:(List (Int×Int×Bool))×Int) (vd:((List (Int×Int×Bool))×Int)->Prop) =>
           ((decide (d22.2<o4))=true ->
            (0<=d22.2)/\(d22.2<(List.length d22.1))/\(I64 (d22.2+(1:Int)))/\(∃ d23:(List (Int×Int×Bool))×Int,((True/\True/\o4=o4/\(d22.2+(1:Int))=d23.2/\True)/\((hk=hk/\True/\(([]:List SV)=[]))/\((sT d22.1 d22.2 ((gD d22.1 d22.2 (0,(0,false))).1,((gD d22.1 d22.2 (0,(0,false))).2.1,false)))=d23.1/\(List.isEmpty d22.1)=(List.isEmpty d23.1))/\((0:Int)=(0:Int)/\True/\(([]:List SV)=[]))/\True))/\vd d23)) /\
           ((decide (d22.2<o4))=false ->
            (((hk=(Nw hk cs)/\True/\(([]:List SV)=[]))/\(0:Int)=(QR hk cs)/\(([]:List SV)=[]))/\((d22.1=(WA hk cs)/\(List.isEmpty d22.1)=(WA hk cs).isEmpty)/\True)))) d220)) d150)))) d50))))
def X0:Cx:=⟨[(1000018,(.pair (.i .i64) .bo))],[(87,QA),(86,QF)],43,[3000015],0,[(103,Ym)],[],[],[],false,[],[],[15],[]⟩
def JS:List (Nat×LoopAnn):=[(0,⟨Int×(List (Int×Int×Bool))×Int×Int×Int×(List (Int×Int×Bool))×Int×(List (Int×Int×Bool))×Int×Int×(List (Int×Int×Bool))×Int×(List (Int×Int×Bool))×Int×Int×Int×(List (Int×Int×Bool))×(List Value),(List (Int×Bool))×Int,[1,2,4,6,20,21,22],λe x=>[.box 1000001 0,.box 1000002 0,.box 1000004 0,.map 1000018,.val (.list (.pair (.i .i64) (.pair (.i .i64) .bo))) e.2.2.2.2.2.2.2.1,.val (.i .i64) e.2.2.2.2.2.2.2.2.1,.val (.i .i64) x.2],λe x=>[(1000001,.slot 1,.cells [.val (.i .i64) e.1,.val (.list (.pair (.i .i64) (.pair (.i .i64) .bo))) e.2.1] (some 24)),(1000002,.slot 2,.cells [.val (.i .i64) e.2.2.1,.nilS,.val (.i .i64) e.2.2.2.1] (some 119)),(1000004,.slot 4,.cells [.val (.i .i64) e.2.2.2.2.1,.val (.list (.pair (.i .i64) (.pair (.i .i64) .bo))) e.2.2.2.2.2.1,.val (.i .i64) e.2.2.2.2.2.2.1] (some 119)),(1000018,.slot 6,.map (.i .i64) .bo x.1),(999999,.key 999999,.stk [.agg [.val (.i .i64) e.2.2.2.2.2.2.2.2.2.1,.val (.list (.pair (.i .i64) (.pair (.i .i64) .bo))) e.2.2.2.2.2.2.2.2.2.2.1],.box 1 0,.box 2 0,.val (.i .i64) e.2.2.2.2.2.2.2.2.2.2.2.2.2.2.1,.any,.any,.any,.any,.agg [.val (.i .i64) e.2.2.2.2.2.2.2.2.2.2.2.2.2.2.2.1,.val (.list (.pair (.i .i64) (.pair (.i .i64) .bo))) e.2.2.2.2.2.2.2.2.2.2.2.2.2.2.2.2.1],.any,.any,.any,.any,.any,.any,.any,.any,.any,.any,.any,.any,.any,.any,.any,.any,.any,.any,.any,.any,.any,.any,.any,.any,.any] e.2.2.2.2.2.2.2.2.2.2.2.2.2.2.2.2.2),(1,.key 1,.cells [.val (.i .i64) e.2.2.2.2.2.2.2.2.2.2.2.1,.val (.list (.pair (.i .i64) (.pair (.i .i64) .bo))) e.2.2.2.2.2.2.2.2.2.2.2.2.1] (some 24)),(2,.key 2,.cells [.val (.i .i64) e.2.2.2.2.2.2.2.2.2.2.2.2.2.1,.nilS] (some 24))]⟩)]
def QB:Cx:=⟨[],[],4,[],0,[],[],[],[],false,[],[],[],[]⟩
def QD:List (Nat×LoopAnn):=[]
def Q4:Cx:=⟨[],[],16,[],0,[],[],[],[],false,[],[],[],[]⟩
def Q3:List (Nat×LoopAnn):=[(0,⟨(List (Int×Int×Bool))×Int×Int×(List (Int×Int×Bool))×Int×(List (Int×Int×Bool))×Int×Int×Int×(List (Int×Int×Bool))×Int×Int×Int×(List (Int×Int×Bool))×Int×Int×Int×(List (Int×Int×Bool))×Int×(List (Int×Int×Bool))×Int×Int×Int×(List (Int×Int×Bool))×Int×Int×Int×(List (Int×Int×Bool))×(List (Int×Int×Bool))×(List Value)×(List Value)×(List Value)×LpD,Int×(List (Int×Int×Bool)),[0,5,6,7],λe x=>[.dd 20000080002500000 .yv,.val (.list (.pair (.i .i64) (.pair (.i .i64) .bo))) e.1,.val (.i .i64) e.2.1,.val (.i .i64) x.1],λe x=>[(1999999,.key 1999999,.stk [.agg [.val (.i .i64) e.2.2.1,.val (.list (.pair (.i .i64) (.pair (.i .i64) .bo))) e.2.2.2.1],.box 1 0,.box 2 0,.val (.i .i64) e.2.2.2.2.2.2.2.1,.box 4 0,.val (.i .i64) e.2.2.2.2.2.2.2.2.2.2.2.1,.any,.tup [.agg [.val (.i .i64) e.2.2.2.2.2.2.2.2.2.2.2.2.1,.val (.list (.pair (.i .i64) (.pair (.i .i64) .bo))) e.2.2.2.2.2.2.2.2.2.2.2.2.2.1,.val (.i .i64) e.2.2.2.2.2.2.2.2.2.2.2.2.2.2.1],.val (.i .i64) e.2.2.2.2.2.2.2.2.2.2.2.2.2.2.2.1],.agg [.val (.i .i64) e.2.2.2.2.2.2.2.2.2.2.2.2.2.2.2.2.1,.val (.list (.pair (.i .i64) (.pair (.i .i64) .bo))) e.2.2.2.2.2.2.2.2.2.2.2.2.2.2.2.2.2.1],.tup [.agg [.val (.i .i64) e.2.2.2.2.2.2.2.2.2.2.2.2.2.2.2.2.2.2.1,.val (.list (.pair (.i .i64) (.pair (.i .i64) .bo))) e.2.2.2.2.2.2.2.2.2.2.2.2.2.2.2.2.2.2.2.1,.val (.i .i64) e.2.2.2.2.2.2.2.2.2.2.2.2.2.2.2.2.2.2.2.2.1],.val (.i .i64) e.2.2.2.2.2.2.2.2.2.2.2.2.2.2.2.2.2.2.2.2.2.1],.agg [.val (.i .i64) e.2.2.2.2.2.2.2.2.2.2.2.2.2.2.2.2.2.2.2.2.2.2.1,.val (.list (.pair (.i .i64) (.pair (.i .i64) .bo))) e.2.2.2.2.2.2.2.2.2.2.2.2.2.2.2.2.2.2.2.2.2.2.2.1,.val (.i .i64) e.2.2.2.2.2.2.2.2.2.2.2.2.2.2.2.2.2.2.2.2.2.2.2.2.1],.val (.i .i64) e.2.2.2.2.2.2.2.2.2.2.2.2.2.2.2.2.2.2.2.2.2.2.2.2.2.1,.val (.i .i64) e.2.2.2.2.2.2.2.2.2.2.2.2.2.2.2.2.2.2.2.2.2.2.2.2.2.2.1,.any,.any,.any,.box 1 1,.val (.list (.pair (.i .i64) (.pair (.i .i64) .bo))) e.2.2.2.2.2.2.2.2.2.2.2.2.2.2.2.2.2.2.2.2.2.2.2.2.2.2.2.1,.fn 110 [] [.box 1900001 0],.any,.any,.any,.any,.any,.any,.any,.any,.any,.any,.any,.any,.any,.any,.any] e.2.2.2.2.2.2.2.2.2.2.2.2.2.2.2.2.2.2.2.2.2.2.2.2.2.2.2.2.2.1),(1,.key 1,.cells [.val (.i .i64) e.2.2.2.2.1,.val (.list (.pair (.i .i64) (.pair (.i .i64) .bo))) e.2.2.2.2.2.1] (some 24)),(2,.key 2,.cells [.val (.i .i64) e.2.2.2.2.2.2.1,.nilS] (some 24)),(4,.key 4,.cells [.val (.i .i64) e.2.2.2.2.2.2.2.2.1,.val (.list (.pair (.i .i64) (.pair (.i .i64) .bo))) e.2.2.2.2.2.2.2.2.2.1,.val (.i .i64) e.2.2.2.2.2.2.2.2.2.2.1] (some 119)),(1900001,.key 1900001,.cells [.val (.list (.pair (.i .i64) (.pair (.i .i64) .bo))) e.2.2.2.2.2.2.2.2.2.2.2.2.2.2.2.2.2.2.2.2.2.2.2.2.2.2.2.2.1] (some 22)),(200000799999,.key 200000799999,.stk [.fn 110 [] [.box 1900001 0],.fn 66 [] [],.any,.any,.nilS,.any,.fn 110 [] [.box 1900001 0],.any,.any,.any,.any,.any] e.2.2.2.2.2.2.2.2.2.2.2.2.2.2.2.2.2.2.2.2.2.2.2.2.2.2.2.2.2.2.1),(20000080000499999,.key 20000080000499999,.stk [.fn 110 [] [.box 1900001 0],.any,.nilS,.fn 110 [] [.box 1900001 0],.any] e.2.2.2.2.2.2.2.2.2.2.2.2.2.2.2.2.2.2.2.2.2.2.2.2.2.2.2.2.2.2.2.1),(20000080002500000,.key 20000080002500000,.lpf [.nilS,.fn 110 [] [.box 1900001 0],.box 20000080000500002 0,.any,.nilS,.any,.fn 110 [] [.box 1900001 0],.any,.any,.any,.any,.any,.any] e.2.2.2.2.2.2.2.2.2.2.2.2.2.2.2.2.2.2.2.2.2.2.2.2.2.2.2.2.2.2.2.2 .rdy),(20000080000500002,.key 20000080000500002,.cells [.lst 20000080000500011] (some 22)),(20000080000500011,.cell 20000080000500002 0,.lst 87 (.pair (.i .i64) (.pair (.i .i64) .bo)) x.2 (List.isEmpty x.2))]⟩)]
def Q7:Cx:=⟨[(87,(.pair (.i .i64) (.pair (.i .i64) .bo)))],[],13,[],0,[],[],[],[],false,[],[(110,Z1l Q4 Q3 Z1m 16)],[],[]⟩
def Q8:List (Nat×LoopAnn):=[]
def Qn:Cx:=⟨[],[],5,[],0,[(139,An Q7 (λ_=>Q8) Z18 [.tmp 4] 13)],[],[],[],false,[],[],[],[]⟩
def Qm:List (Nat×LoopAnn):=[]
def Z5:Cx:=⟨[],[(66,Y8)],12,[],0,[(108,An Qn (λ_=>Qm) Z21 [.tmp 2] 5),(109,Z7)],[],[],[],false,[],[],[],[]⟩
def Z6:List (Nat×LoopAnn):=[]
def D4:Cx:=⟨[],[],34,[3000013],0,[(62,An X0 (λ_=>JS) c62 [.cell 2 true 3,.tmp 3] 43),(65,An QB (λ_=>QD) c65 [.tmp 2] 4),(64,An Z5 (λ_=>Z6) c64 [.tmp 4] 12)],[],[],[],false,[],[],[13],[]⟩
def RL (hk:Int) (cs:List (Int×Int×Bool)):List (Nat×LoopAnn):=[(0,⟨Int,(List (Int×Int×Bool))×Int,[1,2,23,24],λe x=>[.box 1 0,.box 2 0,.val (.i .i64) e,.val (.i .i64) x.2],λe x=>[(1,.slot 1,.cells [.val (.i .i64) hk,.lst 20000080000500011] (some 24)),(20000080000500011,.cell 1 1,.lst 87 (.pair (.i .i64) (.pair (.i .i64) .bo)) x.1 (List.isEmpty x.1)),(2,.slot 2,.cells [.val (.i .i64) (0:Int),.nilS] (some 24))]⟩)]
theorem Sk (d:Int×List (Int×Int×Bool)):gwp (D4) (RL d.1 d.2) c18 0 (UO [.cell 2 true 2,.tmp 3] (ML d) (MM d)) (Zd 34 (AL.can GN d))=YL d.1 d.2:=by kernel_rfl
abbrev Rs:Prop:=OkC Tryz.prog 18 M1
theorem Ru (h:∀ (hk:Int) (cs:List (Int×Int×Bool)),(cs.length<=1000)->YL hk cs):OkC Tryz.prog 18 M1 :=
 Zv Q5s mixed (C:=D4) (V:=λ(d:Int×List (Int×Int×Bool))=>YL d.1 d.2) ⟨.nil,(XsOk.cons (Y2 Q1n mixed (C:=X0) ⟨(.cons QW (.cons Zc .nil)),(XsOk.cons Yc XsOk.nil),ItsOk.nil,YlOk.nil,IysOk.nil,XfOk.nil⟩ (λ_=>JS)) (XsOk.cons (Y2 Q59 mixed (C:=QB) ⟨.nil,XsOk.nil,ItsOk.nil,YlOk.nil,IysOk.nil,XfOk.nil⟩ (λ_=>QD)) (XsOk.cons (Y2 Q60 mixed (C:=Z5) ⟨(.cons Pp .nil),(XsOk.cons (Y2 Ox mixed (C:=Qn) ⟨.nil,(XsOk.cons (Y2 OJ mixed (C:=Q7) ⟨.nil,XsOk.nil,ItsOk.nil,YlOk.nil,(IysOk.cons (CZ IK mixed (C:=Q4) ⟨.nil,XsOk.nil,ItsOk.nil,YlOk.nil,IysOk.nil,XfOk.nil⟩ Q3) IysOk.nil),XfOk.nil⟩ (λ_=>Q8)) XsOk.nil),ItsOk.nil,YlOk.nil,IysOk.nil,XfOk.nil⟩ (λ_=>Qm)) (XsOk.cons Ja XsOk.nil)),ItsOk.nil,YlOk.nil,IysOk.nil,XfOk.nil⟩ (λ_=>Z6)) XsOk.nil))),ItsOk.nil,YlOk.nil,IysOk.nil,XfOk.nil⟩ (Sk) λd hp=>h d.1 d.2 hp
end Go.Proofs.Tryz
namespace Go.Proofs.Tryz
open Go Go.V Go.Proofs
set_option maxHeartbeats 2000000 in
theorem SC:Rs:=Ru λhk cs h=>by
 have eu:∀ e:Int,QR hk cs=e->e≠0->0=Nw hk cs/\(e=QR hk cs)/\WA hk cs=[]/\(WA hk cs).isEmpty=true:=λe h1 h2=>by
  have:WA hk cs=[]:=by unfold WA;rw[z1 (by omega)]
  exact⟨by unfold Nw;rw[z1 (by omega)],h1.symm,this,by rw[this];rfl⟩
 have bB:∀ e:Int,Qv hk cs=e->e≠0->QR hk cs=e:=λe h1 h2=>by unfold QR;rw[z7 (by omega)];exact h1
 unfold YL
 (try delta YY Sc Mb Mm Rw Sz q4)
 (try delta lI gD sT I64 W5 pj8 pj4)
 intro w1 w2;repeat (first|refine⟨trivial,?_⟩|refine⟨rfl,?_⟩)
 refine⟨λc1=>?_,λc1=>?_⟩
 .have e:Qv hk cs=3:=by unfold Qv;rw[z7 c1]
  obtain⟨t,u,v,w⟩:=eu 3 (bB 3 e (by decide)) (by decide);and_intros<;>first|rfl|trivial|assumption
 repeat (first|refine⟨trivial,?_⟩|refine⟨rfl,?_⟩)
 refine⟨λc2=>?_,λc2=>?_⟩
 .have c2:60<cs.length:=by have:=zo c2;omega
  have e:Qv hk cs=5:=by unfold Qv;rw[z1 (by rw[c1];decide),z7 c2]
  obtain⟨t,u,v,w⟩:=eu 5 (bB 5 e (by decide)) (by decide);and_intros<;>first|rfl|trivial|assumption
 have c2:cs.length<=60:=by have:=zq c2;omega
 obtain⟨i1,i2⟩:=BK c1;repeat (first|refine⟨trivial,?_⟩|refine⟨rfl,?_⟩)
 refine⟨⟨i1,i2,by omega⟩,λc3=>?_,λc3=>?_⟩
 .obtain⟨t,u,v,w⟩:=eu 2 (bB 2 (Sp c1 c2 c3) (by decide)) (by decide);and_intros<;>first|rfl|trivial|assumption
 obtain⟨be,b3,ai⟩:=PC c1 c2 c3;repeat (first|refine⟨trivial,?_⟩|refine⟨rfl,?_⟩)
 refine⟨(hk,cs,0,0,hk,cs,hk,cs,(cs.length:Int),hk,cs,hk,cs,0,0,hk,cs,w1),([],0),by and_intros<;>first|rfl|trivial,?_⟩;refine⟨λd=>∃ k:Nat,k<=cs.length/\d.2=(k:Int)/\SeenI (cs.map (·.1)) d.1 k,λd=>cs.length-d.2.toNat,⟨0,by omega,rfl,SeenI.nil _⟩,?_⟩;rintro⟨mm,_⟩ ⟨k,bp,rfl,hS⟩;dsimp only at hS |-;refine⟨λc=>?_,λc=>?_⟩
 .have ah:k<cs.length:=by have:=zo c;omega
  have hp:=hS.put (by simpa using ah);have eg:(cs.map (·.1)).getD k 0=(cs.getD k (0,(0,false))).1:=by
   rw[Qg (by simpa using ah),Qg ah,xw]
  rw[eg] at hp;simp only[zB];exact⟨by omega,by omega,by rw[Qq];omega,(Uo (.i .i64) mm (cs.getD k (0,(0,false))).1 true,(k:Int)+1),by and_intros<;>first|rfl|trivial,⟨k+1,ah,rfl,hp⟩,by dsimp only;omega⟩
 .have av:k=cs.length:=by have:=zq c;omega
  subst av;have hl:(cs.map (·.1)).length=cs.length:=xS ..;rw[<-hl] at hS;obtain⟨f1,f2⟩:=hS.full;rw[hl] at f2;refine⟨λc4=>?_,λc4=>?_⟩
  .rw[f1] at c4;have e:QR hk cs=9:=by unfold QR;rw[z1 (by omega),z7 (zo c4)]
   obtain⟨t,u,v,w⟩:=eu 9 e (by decide);and_intros<;>first|rfl|trivial|assumption
  rw[f1] at c4;have c4:=zq c4;refine⟨λc5=>?_,λc5=>?_⟩
  .rw[f2] at c5;have e:QR hk cs=6:=by unfold QR;rw[z1 (by omega),z1 c4,z1 (zo c5)]
   obtain⟨t,u,v,w⟩:=eu 6 e (by decide);and_intros<;>first|rfl|trivial|assumption
  rw[f2] at c5;have fv:(cs.map (·.1)).Nodup:=Decidable.not_not.1 (zq c5);have en:QR hk cs=0:=by unfold QR;rw[z1 (by omega),z1 c4,z7 fv]
  have em:WA hk cs=IU cs:=by unfold WA;rw[z7 en]
  have eh:Nw hk cs=hk:=by unfold Nw;rw[z7 en]
  rw[en,em,eh];clear hS f1 f2;repeat (first|refine⟨trivial,?_⟩|refine⟨rfl,?_⟩)
  intro w7;repeat (first|refine⟨trivial,?_⟩|refine⟨rfl,?_⟩)
  intro w8 w9 jk h_;refine⟨(cs,(cs.length:Int),hk,cs,hk,cs,0,0,hk,cs,hk,0,hk,cs,hk,0,hk,cs,hk,cs,hk,0,hk,cs,hk,0,0,cs,cs,w8,w9,jk,h_),(0,[]),by and_intros<;>first|rfl|trivial,?_⟩;refine⟨λd=>∃ k:Nat,k<=cs.length/\d=((k:Int),cs.take k),λd=>cs.length-d.1.toNat,⟨0,by omega,rfl⟩,?_⟩;rintro _ ⟨k,bp,rfl⟩;refine⟨λc=>?_,λc=>?_⟩
  .have ah:k<cs.length:=by have:=zo c;dsimp only at this;omega
   refine⟨by show (0:Int)<=(k:Int);omega,by show (k:Int)<(cs.length:Int);omega,rfl,?_⟩;intro ve;refine⟨by show ((cs.take k).length+1)*24<=70368744177664;rw[wg];omega,?_⟩;repeat (first|refine⟨rfl,?_⟩|refine⟨trivial,?_⟩)
   refine⟨(λc=>by simp at c),λ_=>?_⟩;refine⟨by rw[Qq];show _<=(k:Int)+1/\(k:Int)+1<=_;omega,((k:Int)+1,cs.take (k+1)),?_,⟨k+1,ah,rfl⟩,by show cs.length-((k:Int)+1).toNat<cs.length-(k:Int).toNat;omega⟩;have e2:cs.take (k+1)=cs.take k++[cs.getD k (0,(0,false))]:=by rw[Yo ah,Qg ah]
   rw[e2];and_intros<;>first|rfl|trivial|simp
  .have av:k=cs.length:=by have:=zq c;dsimp only at this;omega
   subst av;rw[List.take_length];have hp:=GM (f:=CT) (a:=0) (ze cs.length);have gO:=hp.length_eq;have iq:IU cs=(FB CT cs 0 cs.length).map λc=>((c.1,(c.2.1,false)):Wn):=rfl;repeat (first|refine⟨rfl,?_⟩|refine⟨trivial,?_⟩)
   refine⟨⟨(show cs.isEmpty=false by cases cs with|nil=>exact(b3 rfl).elim|cons _ _=>rfl),(xB.2 b3:0<cs.length),(show cs.length<=1000000 by omega)⟩,?_⟩;dsimp only;rw[Q67 fv];repeat (first|refine⟨rfl,?_⟩|refine⟨trivial,?_⟩)
   have az:cs.isEmpty=false:=by cases cs with
    |nil=>exact(b3 rfl).elim
    |cons _ _=>rfl
   have o5:(FB CT cs 0 cs.length).isEmpty=false:=by rw[<-az];exact Bool.eq_iff_iff.2 (by rw[List.isEmpty_iff,List.isEmpty_iff,<-zQ,<-zQ,gO])
   refine⟨((FB CT cs 0 cs.length).length:Int),(FB CT cs 0 cs.length,0),by and_intros<;>first|rfl|trivial|exact az.trans o5.symm,?_⟩;generalize hS:FB CT cs 0 cs.length=S at *
   refine⟨λd=>∃ k:Nat,k<=S.length/\d=((S.take k).map (λc=>((c.1,(c.2.1,false)):Wn))++S.drop k,(k:Int)),λd=>S.length-d.2.toNat,⟨0,by omega,by simp⟩,?_⟩;rintro _ ⟨k,bp,rfl⟩;have pK:((S.take k).map (λc=>((c.1,(c.2.1,false)):Wn))++S.drop k).length=S.length:=by simp;omega
   refine⟨λc=>?_,λc=>?_⟩
   .have ah:k<S.length:=by have:=zo c;dsimp only at this;omega
    have vf:((S.take k).map (λc=>((c.1,(c.2.1,false)):Wn))++S.drop k).getD k (0,(0,false))=S[k]:=by rw[Qg (by omega),List.getElem_append_right (by simp;omega)];simp[wj (wE ah)]
    have bk:((S.take k).map (λc=>((c.1,(c.2.1,false)):Wn))++S.drop k).set k (S[k].1,(S[k].2.1,false))=(S.take (k+1)).map (λc=>((c.1,(c.2.1,false)):Wn))++S.drop (k+1):=by rw[List.set_append_right _ _ (by simp;omega),Yo ah,xI,xh,wc ah];simp[wj (wE ah)];rw[wc ah,List.set_cons_zero]
    generalize hL:(S.take k).map (λc=>((c.1,(c.2.1,false)):Wn))++S.drop k=L at *
    generalize vg:(S.take (k+1)).map (λc=>((c.1,(c.2.1,false)):Wn))++S.drop (k+1)=L' at *
    have e1:L.set k ((L.getD k (0,(0,false))).1,((L.getD k (0,(0,false))).2.1,false))=L':=by rw[vf];exact bk
    have l1:L'.length=S.length:=by rw[<-bk,xQ];exact pK
    have e2:L.isEmpty=L'.isEmpty:=Bool.eq_iff_iff.2 (by rw[List.isEmpty_iff,List.isEmpty_iff,<-zQ,<-zQ,pK,l1]);exact⟨by show (0:Int)<=(k:Int);omega,by show (k:Int)<(L.length:Int);omega,by rw[Qq];show _<=(k:Int)+1/\(k:Int)+1<=_;omega,(L',(k:Int)+1),by and_intros<;>first|rfl|trivial|exact e1|exact e2,⟨k+1,ah,by rw[vg];rfl⟩,by show S.length-((k:Int)+1).toNat<S.length-(k:Int).toNat;omega⟩
   .have av:k=S.length:=by have:=zq c;dsimp only at this;omega
    subst av;rw[List.take_length,List.drop_length,xL,<-iq];have lO:(IU cs).isEmpty=false:=by rw[iq,List.isEmpty_map];exact o5
    and_intros<;>first|rfl|trivial|exact lO
theorem AQ {rows:List Int}{i:Nat}(h:i<rows.length):(Vh rows).getD i X2=((i:Int),(rows.getD i 0,false)):=by rw[Qg (by simpa [Vh] using h)];simp[Vh]
theorem Rx (rows:List Int):(Vh rows).length=rows.length:=by simp[Vh]
theorem Q5x {n:Nat}{k:Nat}(h:k<n):(List.replicate n (1:Int)).getD k 0=1:=by rw[Qg (by simpa using h)];simp
theorem G9 {hk:Int}{rows:List Int}{L:List Wn}(h1:1<=hk/\hk<=24) (hr:∀ x∈rows,0<=x/\x<2 ^ hk.toNat) (hl:L.length=rows.length) (h0:rows≠[]) (rD:rows.length<=60) (hb:∀ c∈L,0<=c.1/\c.1<rows.length/\c.2.1=rows.getD c.1.toNat 0):Qv hk L=0:=by
 unfold Qv;have i1:inI hk 1 24=true:=by unfold inI;rw[x5 h1.1,x5 h1.2];rfl
 rw[z1 (by rw[i1];decide),z1 (by omega),z1];rintro (h|h)
 .rw[h] at hl;exact h0 (zQ.1 hl.symm)
 .obtain⟨c,hc,bB⟩:=xD.1 h;obtain⟨c1,c2,c3⟩:=hb c hc;have ah:c.1.toNat<rows.length:=by omega
  have h4:=hr (rows.getD c.1.toNat 0) (by rw[Qg ah];exact zp ah);rw[<-c3] at h4;have:Zg hk c=true:=by unfold Zg inI;rw[x5 (by omega),x5 (by omega),x5 h4.1,x5 (by omega)];rfl
  rw[this] at bB;cases bB
theorem Cf {hk:Int}{rows:List Int}(h1:1<=hk/\hk<=24) (hr:∀ x∈rows,0<=x/\x<2 ^ hk.toNat) (h0:rows≠[]) (rD:rows.length<=60):Xs hk rows=0:=by
 unfold Xs;have i1:inI hk 1 24=true:=by unfold inI;rw[x5 h1.1,x5 h1.2];rfl
 rw[z1 (by rw[i1];decide),z1 (by omega),z1 h0,z1];rw[xD];rintro⟨x,hx,hb⟩;have:=hr x hx;rw[show inI x 0 (2 ^ hk.toNat-1)=true by unfold inI;rw[x5 (by omega),x5 (by omega)];rfl] at hb;cases hb
structure MarkI (rows:List Int) (L:List Wn):Prop where
 len:L.length=rows.length
 val:∀ c∈L,0<=c.1/\c.1<rows.length/\c.2.1=rows.getD c.1.toNat 0
 nd:(L.map (·.1)).Nodup
theorem RV (rows:List Int):MarkI rows (Vh rows):=by
 refine⟨Rx rows,λc hc=>?_,?_⟩
 .obtain⟨i,hi,rfl⟩:=zu.1 hc;have:=zz.1 hi;dsimp only;rw[zB];exact⟨by omega,by omega,rfl⟩
 .unfold Vh;rw[wA,List.nodup_iff_pairwise_ne,xG];refine (List.nodup_iff_pairwise_ne.1 List.nodup_range).imp λ{a b} h e=>h ?_;have:(a:Int)=(b:Int):=e;omega
theorem MarkI.perm {rows:List Int}{L M:List Wn}(h:MarkI rows L) (hp:M.Perm L):MarkI rows M :=
 ⟨hp.length_eq.trans h.len,λc hc=>h.val c (hp.mem_iff.1 hc),(hp.map (·.1)).nodup_iff.2 h.nd⟩
theorem MarkI.set {rows:List Int}{L:List Wn}(h:MarkI rows L) {k:Nat}(hk:k<L.length) (b:Bool):MarkI rows (L.set k ((L.getD k X2).1,((L.getD k X2).2.1,b))):=by
 refine⟨by rw[xQ];exact h.len,λc hc=>?_,?_⟩
 .rcases List.mem_or_eq_of_mem_set hc with hc|rfl
  .exact h.val c hc
  .rw[Qg hk];exact h.val L[k] (zp hk)
 .have e:(L.set k ((L.getD k X2).1,((L.getD k X2).2.1,b))).map (·.1)=L.map (·.1):=by
   rw[List.map_set,Qg hk];refine List.ext_getElem (by simp) λi h1 h2=>?_;rw[List.getElem_set];split
   .rename_i h3;subst h3;simp
   .rfl
  rw[e];exact h.nd
def dsH (ho:Int):Int:=1+Int.tmod ho 24
def dsN (rw:List Int):Nat:=if rw.length=0 then 1 else if rw.length<20 then rw.length else 20
def dsR (ho:Int) (rw:List Int) (i:Nat):Int:=if (i:Int)<(rw.length:Int) then Int.tmod (rw.getD i 0) ((2 ^ (dsH ho).toNat:Nat):Int) else 1
def dsK (ho:Int) (rw:List Int) (k:Nat):List Int:=(List.range k).map (dsR ho rw)
def dsL (ho:Int) (rw:List Int):List Int:=dsK ho rw (dsN rw)
theorem Q41 (rw:List Int):1<=dsN rw/\dsN rw<=20:=by unfold dsN;split;omega;split<;>omega
theorem Iz {ho:Int}(h:0<=ho):1<=dsH ho/\dsH ho<=24:=by have h1:=Int.tmod_nonneg 24 h;have h2:=Int.tmod_lt_of_pos ho (show (0:Int)<24 by omega);unfold dsH;omega
theorem O4 (ho:Int) (rw:List Int) (k:Nat):(dsK ho rw k).length=k:=by simp[dsK]
theorem Z08 {ho:Int}(h:0<=ho) {rw:List Int}(hr:∀ x∈rw,0<=x/\x<=4294967295) (i:Nat):0<=dsR ho rw i/\dsR ho rw i<2 ^ (dsH ho).toNat:=by
 have hb:=Iz h;have hp:=EZ (k:=(dsH ho).toNat) (by omega);have cQ:2 ^ 1<=2 ^ (dsH ho).toNat:=Nat.pow_le_pow_right (n:=2) (by omega) (by omega);rw[Hc];unfold dsR;split
 .rename_i hi;have hi:i<rw.length:=by omega
  have:=(hr _ (by rw[Qg hi];exact zp hi:rw.getD i 0∈rw)).1;exact⟨Int.tmod_nonneg _ this,Int.tmod_lt_of_pos _ (by omega)⟩
 .omega
theorem Q9x {ho:Int}(h:0<=ho) {rw:List Int}(hr:∀ x∈rw,0<=x/\x<=4294967295):∀ x∈dsL ho rw,0<=x/\x<2 ^ (dsH ho).toNat:=λx hx=>by obtain⟨i,_,rfl⟩:=zu.1 hx;exact Z08 h hr i
theorem Cr {n:Nat}(hn:0<n) {a:Int}(h0:0<=a) (h1:a<n) {m:Nat}:∀ k,k<=m->atK n a (List.replicate m (1:Int)) k=Int.tmod (a+k) n
 |0,_=>by show a=_;rw[Int.natCast_zero,Int.add_zero,Int.tmod_eq_of_lt h0 h1]
 |k+1,hk=>by have ih:=Cr hn h0 h1 (m:=m) k (by omega);unfold atK;rw[ih,Q5x (by omega),Int.tmod_eq_emod_of_nonneg (a:=a+k) (by omega)];have e0:=Int.emod_nonneg (a+k) (show (n:Int)≠0 by omega);rw[Int.tmod_eq_emod_of_nonneg (by omega),Int.emod_add_emod,Int.tmod_eq_emod_of_nonneg (by omega)];congr 1;push_cast;omega
def tuL (rows:List Int) (b:Nat->Bool):List Wn:=(List.range rows.length).map λ(i:Nat)=>((i:Int),(rows.getD i 0,b i))
theorem Gg (rows:List Int) (b:Nat->Bool):(tuL rows b).length=rows.length:=by simp[tuL]
theorem IF {rows:List Int}{b:Nat->Bool}{i:Nat}(h:i<rows.length):(tuL rows b).getD i X2=((i:Int),(rows.getD i 0,b i)):=by rw[Qg (by rw[Gg];exact h)];simp[tuL]
theorem Q6b {rows:List Int}{b:Nat->Bool}:∀ c∈tuL rows b,0<=c.1/\c.1<rows.length/\c.2.1=rows.getD c.1.toNat 0:=λc hc=>by obtain⟨i,hi,rfl⟩:=zu.1 hc;have:=zz.1 hi;dsimp only;rw[zB];exact⟨by omega,by omega,rfl⟩
theorem Ri {hk:Int}{rows:List Int}{b:Nat->Bool}(h1:1<=hk/\hk<=24) (hr:∀ x∈rows,0<=x/\x<2 ^ hk.toNat) (h0:rows≠[]) (rD:rows.length<=60) {a:Int}(ha:0<=a/\a<rows.length) :
  Qu hk (tuL rows b) a (List.replicate 60 1)=0/\(Jj hk (tuL rows b) a (List.replicate 60 1)).length=60/\ZY hk (tuL rows b) a (List.replicate 60 1)=Int.tmod (a+60) rows.length /\
  ∀ i,i<60->(Jj hk (tuL rows b) a (List.replicate 60 1)).getD i 0=UW hk (((Int.tmod (a+i) rows.length).toNat:Nat),(rows.getD (Int.tmod (a+i) rows.length).toNat 0,b (Int.tmod (a+i) rows.length).toNat)):=by
 have hn:0<rows.length:=xB.2 h0;have be:Qv hk (tuL rows b)=0:=G9 h1 hr (Gg rows b) h0 rD Q6b;have we:Qu hk (tuL rows b) a (List.replicate 60 1)=0:=by
  unfold Qu;rw[z1 (by omega),Gg,z1,z1 (by simp),z1]
  .rw[xD];rintro⟨x,hx,hb⟩;rw[(List.mem_replicate.1 hx).2] at hb;cases hb
  .rw[show inI a 0 ((rows.length:Int)-1)=true by unfold inI;rw[x5 (by omega),x5 (by omega)];rfl];decide
 have ew:Jj hk (tuL rows b) a (List.replicate 60 1)=Pm hk (tuL rows b) a (List.replicate 60 1) 60:=by unfold Jj;rw[z7 we,xK]
 refine⟨we,by rw[ew,PD],?_,λi hi=>?_⟩
 .unfold ZY;rw[z7 we,xK,Gg];exact Cr hn ha.1 ha.2 60 (ze _)
 .have pc:=Int.tmod_nonneg (rows.length:Int) (show 0<=a+i by omega);have br:=Int.tmod_lt_of_pos (a+i) (show (0:Int)<rows.length by omega);rw[ew,Qg (by rw[PD];exact hi)];simp only[Pm,xw,List.getElem_range];rw[Gg,Cr hn ha.1 ha.2 i (by omega),IF (by omega)]
theorem IQ (rows:List Int):tuL rows (λ_=>false)=Vh rows:=rfl
theorem Oo (hk:Int) (rows:List Int):SF hk (Vh rows)=[]:=by
 unfold SF;split
 .obtain⟨-,-,-,h4,-⟩:=Fy (nm:=nmC (Vh rows)) (n:=(Vh rows).length);have ho:Q5j ((kpL (λ_=>true) (Vh rows).length).map (nmC (Vh rows))):=by
   refine⟨(kpL (λ_=>true) (Vh rows).length).map (nmC (Vh rows)),[],by simp,?_⟩;rw[xk];refine xG.2 ?_;have e:kpL (λ_=>true) (Vh rows).length=List.range (Vh rows).length:=by unfold kpL;simp
   rw[e];refine List.Pairwise.imp_of_mem (λ{a b} ha hb h=>?_) (List.pairwise_lt_range (n:=(Vh rows).length));have ha:=zz.1 ha;have hb:=zz.1 hb;rw[Rx] at ha hb;have ea:nmC (Vh rows) a=(a:Int):=by show ((Vh rows).getD a X2).1=_;rw[AQ ha]
   have eb:nmC (Vh rows) b=(b:Int):=by show ((Vh rows).getD b X2).1=_;rw[AQ hb]
   rw[ea,eb];omega
  have hm:=Iw ho;have e:kpL (λ_=>true) (Vh rows).length=List.range (Vh rows).length:=by unfold kpL;simp
  rw[e,wz] at hm;exact zQ.1 (by omega)
 .rfl
theorem EV {l:List Wn}{i k:Nat}(hi:i<l.length) (hk:k<l.length):((l.set k (l.getD i X2)).set i (l.getD k X2)).Perm l:=by rw[Qg hi,Qg hk];exact List.set_set_perm hk hi
theorem BJ {hk:Int}{rows:List Int}{L:List Wn}(h:MarkI rows L) (hb:Qv hk L=0):QR hk L=0:=by unfold QR;rw[z1 (by omega),z1,z7 h.nd];intro hm;obtain⟨c,hc,e⟩:=zu.1 hm;have:=(h.val c hc).1;omega
theorem Q6q {rows:List Int}{b:Nat->Bool}{k:Nat}(h:k<rows.length) (c:Bool):(tuL rows b).set k (((tuL rows b).getD k X2).1,(((tuL rows b).getD k X2).2.1,c))=tuL rows (λi=>if i=k then c else b i):=by
 rw[IF h];refine List.ext_getElem (by simp[tuL]) λi h1 h2=>?_;rw[List.getElem_set];simp only[tuL,xw,List.getElem_range];by_cases e:k=i
 .subst e;rw[z7 rfl,z7 rfl]
 .rw[z1 e,z1 (Ne.symm e)]
theorem HF {rows:List Int}{b b':Nat->Bool}(h:∀ i,i<rows.length->b i=b' i):tuL rows b=tuL rows b' :=
 xr λi hi=>by rw[h i (zz.1 hi)]
def NM:AL (List Int×Int):=(.cons (.k (.list (.i .u8))) (.one (.k (.i .i64))))
def H0 (d:List Int×Int):Prop:=d.1.length<=9223372036854775807/\0<=d.2/\∀ x∈d.1,0<=x/\x<=255
def Ut (d:List Int×Int):SV:=.val (.i .i64) (Jx d.1 d.2)
def Ux (d:List Int×Int):List OB:=[]
def V7:CSp:=VU NM H0 Ut Ux
def Wf (l:List Int) (i:Int):Prop :=
 (((lI l)==(0:Int))=true ->
  ((0:Int)=(Jx l i)/\(True))) /\
 (((lI l)==(0:Int))=false ->
  ((lI l)≠0)/\(0<=(Int.tmod i (lI l)))/\((Int.tmod i (lI l))<(List.length l))/\(I64 (gD l (Int.tmod i (lI l)) 0))/\((gD l (Int.tmod i (lI l)) 0)=(Jx l i)/\(True)))
def M0:Cx:=⟨[],[],16,[],0,[],[],[],[],false,[],[],[],[]⟩
def Pu (l:List Int) (i:Int):List (Nat×LoopAnn):=[]
theorem HW (d:List Int×Int):gwp (M0) (Pu d.1 d.2) c50 0 (UO [.tmp 4] (Ut d) (Ux d)) (Zd 16 (AL.can NM d))=Wf d.1 d.2:=by kernel_rfl
abbrev PH:Prop:=OkC Tryz.prog 50 V7
theorem P2 (h:∀ (l:List Int) (i:Int),(l.length<=9223372036854775807/\0<=i/\∀ x∈l,0<=x/\x<=255)->Wf l i):OkC Tryz.prog 50 V7 :=
 Zv Q5m mixed (C:=M0) (V:=λ(d:List Int×Int)=>Wf d.1 d.2) ⟨.nil,XsOk.nil,ItsOk.nil,YlOk.nil,IysOk.nil,XfOk.nil⟩ (HW) λd hp=>h d.1 d.2 hp
theorem HN:PH:=P2 λl i h=>by
 obtain⟨h1,h2,h3⟩:=h;unfold Wf;(try delta lI gD sT I64 W5 pj8 pj4);refine⟨λhx=>?_,λhx=>?_⟩
 .have:l.length=0:=by have:=eq_of_beq hx;omega
  unfold Jx;rw[z7 this];exact(by and_intros<;>first|rfl|trivial|simp)
 .have h0:l.length≠0:=by have:=ne_of_beq_false hx;omega
  have e:=Int.tmod_eq_emod_of_nonneg (b:=(l.length:Int)) h2;have g1:=Int.emod_nonneg i (show (l.length:Int)≠0 by omega);have g2:=Int.emod_lt_of_pos i (show (0:Int)<l.length by omega);have g3:(Int.tmod i l.length).toNat<l.length:=by omega
  have g4:=h3 _ (by rw[Qg g3];exact zp g3:l.getD (Int.tmod i l.length).toNat 0∈l);refine⟨by omega,by omega,by omega,by rw[Qq];omega,?_⟩;unfold Jx;rw[z1 h0];exact(by and_intros<;>first|rfl|trivial|simp)
def Vj:AL (Int×Int):=(.cons (.k (.i .i64)) (.one (.k (.i .i64))))
def Dh (d:Int×Int):Prop:=0<=d.2/\d.2<=24/\0<=d.1/\d.1<2 ^ d.2.toNat
def V2 (d:Int×Int):SV:=.val (.i .i64) (FC d.2 d.1)
def KN (d:Int×Int):List OB:=[]
def YB:CSp:=VU Vj Dh V2 KN
def Xp (r:Int) (h:Int):Prop :=
 ∃ (e2:Unit) (d20:Int×Int×Int),((r=d20.1/\h=h/\(0:Int)=d20.2.1/\(0:Int)=d20.2.2/\True)/\(True)) /\
 LoopP (λ(d2:Int×Int×Int) (q2:(Int×Int×Int)->Prop) =>
  ((decide (d2.2.2<h))=true ->
   (I64 ((2:Int)*d2.2.1))/\((2:Int)≠0)/\(I64 (((2:Int)*d2.2.1)+(Int.tmod d2.1 (2:Int))))/\((2:Int)≠0)/\(I64 (Int.tdiv d2.1 (2:Int)))/\(I64 (d2.2.2+(1:Int)))/\(∃ d3:Int×Int×Int,(((Int.tdiv d2.1 (2:Int))=d3.1/\h=h/\(((2:Int)*d2.2.1)+(Int.tmod d2.1 (2:Int)))=d3.2.1/\(d2.2.2+(1:Int))=d3.2.2/\True)/\(True))/\q2 d3)) /\
  ((decide (d2.2.2<h))=false ->
   (d2.2.1=(FC h r)/\(True)))) d20
def Vv:Cx:=⟨[],[],20,[],0,[],[],[],[],false,[],[],[],[]⟩
def Bj (r:Int) (h:Int):List (Nat×LoopAnn):=[(0,⟨Unit,Int×Int×Int,[0,1,5,6],λe x=>[.val (.i .i64) x.1,.val (.i .i64) h,.val (.i .i64) x.2.1,.val (.i .i64) x.2.2],λe x=>[]⟩)]
theorem DG (d:Int×Int):gwp (Vv) (Bj d.1 d.2) c49 0 (UO [.tmp 4] (V2 d) (KN d)) (Zd 20 (AL.can Vj d))=Xp d.1 d.2:=by kernel_rfl
abbrev B9:Prop:=OkC Tryz.prog 49 YB
theorem DM (h:∀ (r:Int) (h:Int),(0<=h/\h<=24/\0<=r/\r<2 ^ h.toNat)->Xp r h):OkC Tryz.prog 49 YB :=
 Zv Q57 mixed (C:=Vv) (V:=λ(d:Int×Int)=>Xp d.1 d.2) ⟨.nil,XsOk.nil,ItsOk.nil,YlOk.nil,IysOk.nil,XfOk.nil⟩ (DG) λd hp=>h d.1 d.2 hp
theorem DV:B9:=DM λr h hp=>by
 obtain⟨h1,h2,h3,h4⟩:=hp;obtain⟨f,rfl⟩:=xy h1;obtain⟨n,rfl⟩:=xy h3;unfold Xp;(try delta lI gD sT I64 W5 pj8 pj4);simp only[zB,Hc] at h4;have hp:=EZ (k:=f) (by omega);have h4:n<2 ^ f:=by omega
 refine⟨(),((n:Int),0,0),(by and_intros<;>first|rfl|trivial),?_⟩;refine⟨λd=>∃ k:Nat,k<=f/\d=(((n / 2 ^ k:Nat):Int),((Bd k n:Nat):Int),(k:Int)),λd=>f-d.2.2.toNat,⟨0,Nat.zero_le _,by simp[Bd]⟩,?_⟩;rintro _ ⟨k,hk,rfl⟩;dsimp only;have ah:=CW k n;have mZ:=EZ (k:=k) (by omega);refine⟨λc=>?_,λc=>?_⟩
 .have hk:k<f:=by have:=zo c;omega
  have e1:Int.tmod ((n / 2 ^ k:Nat):Int) 2=((n / 2 ^ k % 2:Nat):Int):=rfl;have e2:Int.tdiv ((n / 2 ^ k:Nat):Int) 2=((n / 2 ^ (k+1):Nat):Int):=by rw[Nat.pow_succ,<-Nat.div_div_eq_div_mul];rfl
  have hd:n / 2 ^ k<=n:=Nat.div_le_self ..;have jC:n / 2 ^ (k+1)<=n:=Nat.div_le_self ..;rw[e1,e2];have hq:∀ x:Nat,x<=n->InK .i64 (x:Int):=λx hx=>by rw[Qq];omega
  have iP:n / 2 ^ k % 2<=1:=by omega
  refine⟨by rw[Qq];omega,by decide,by generalize n / 2 ^ k % 2=B at *;rw[Qq];omega,by decide,hq _ jC,by rw[Qq];omega,(((n / 2 ^ (k+1):Nat):Int),((Bd (k+1) n:Nat):Int),((k+1:Nat):Int)),?_,⟨k+1,hk,rfl⟩,by dsimp only;omega⟩;have e3:2*((Bd k n:Nat):Int)+((n / 2 ^ k % 2:Nat):Int)=((Bd (k+1) n:Nat):Int):=by rw[Bd];push_cast;rfl
  and_intros<;>first|rfl|trivial|exact e3
 .have hk:k=f:=by have:=zq c;omega
  subst hk;have e:((Bd k n:Nat):Int)=FC (k:Int) (n:Int):=by unfold FC;simp
  and_intros<;>first|rfl|trivial|exact e
def Yt:AL (Int×List Int×List Int×Int):=(.one (.agg (.cons (.k (.i .u8)) (.cons (.k (.list (.i .u32))) (.cons (.k (.list (.i .u8))) (.one (.k (.i .u32))))))))
def UF (d:Int×List Int×List Int×Int):Prop:=0<=d.1/\d.1<=255/\d.2.1.length<=9223372036854775807/\(∀ x∈d.2.1,0<=x/\x<=4294967295)/\d.2.2.1.length<=9223372036854775807/\(∀ x∈d.2.2.1,0<=x/\x<=255)/\0<=d.2.2.2/\d.2.2.2<=4294967295
def WE (d:Int×List Int×List Int×Int):SV:=.agg [.val (.i .i64) (dsH d.1),.lst 0]
def WK (d:Int×List Int×List Int×Int):List OB:=[.lst 3 (.i .i64) (dsL d.1 d.2.1) false]
def Xu:CSp:=VU Yt UF WE WK
def J2 (ho:Int) (rw:List Int) (mx:List Int) (tu:Int):Prop :=
 (I64 ho)/\((24:Int)≠0)/\(I64 ((1:Int)+(Int.tmod ho (24:Int))))/\∃ (e4:Unit) (d40:(List Int)×Int),((True/\True/\True/\(0:Int)=d40.2/\True)/\((ho=ho/\rw=rw/\mx=mx/\tu=tu/\(([]:List SV)=[]))/\((0:Int)=(0:Int)/\True/\(([]:List SV)=[]))/\(((1:Int)+(Int.tmod ho (24:Int)))=((1:Int)+(Int.tmod ho (24:Int)))/\True/\(([]:List SV)=[]))/\(d40.1=[]/\(List.isEmpty d40.1)=true)/\True)) /\
 LoopP (λ(d4:(List Int)×Int) (q4:((List Int)×Int)->Prop) =>
  (((d4.2==(0:Int))||((decide (d4.2<(lI rw)))&&(decide (d4.2<(20:Int)))))=true ->
   ((decide (d4.2<(lI rw)))=true ->
    (0<=d4.2)/\(d4.2<(List.length rw))/\(I64 (gD rw d4.2 0))/\(InK .u64 ((1:Int)+(Int.tmod ho (24:Int))))/\(0<=((1:Int)+(Int.tmod ho (24:Int))))/\(I64 (Xh .i64 (1:Int) ((1:Int)+(Int.tmod ho (24:Int)))))/\((Xh .i64 (1:Int) ((1:Int)+(Int.tmod ho (24:Int))))≠0)/\(((List.length d4.1)+(List.length [(Int.tmod (gD rw d4.2 0) (Xh .i64 (1:Int) ((1:Int)+(Int.tmod ho (24:Int)))))]))*8<=70368744177664)/\(I64 (d4.2+(1:Int)))/\(∃ d5:(List Int)×Int,((True/\True/\True/\(d4.2+(1:Int))=d5.2/\True)/\((ho=ho/\rw=rw/\mx=mx/\tu=tu/\(([]:List SV)=[]))/\((0:Int)=(0:Int)/\True/\(([]:List SV)=[]))/\(((1:Int)+(Int.tmod ho (24:Int)))=((1:Int)+(Int.tmod ho (24:Int)))/\True/\(([]:List SV)=[]))/\((d4.1++[(Int.tmod (gD rw d4.2 0) (Xh .i64 (1:Int) ((1:Int)+(Int.tmod ho (24:Int)))))])=d5.1/\false=(List.isEmpty d5.1))/\True))/\q4 d5)) /\
   ((decide (d4.2<(lI rw)))=false ->
    (((List.length d4.1)+(List.length [(1:Int)]))*8<=70368744177664)/\(I64 (d4.2+(1:Int)))/\(∃ d6:(List Int)×Int,((True/\True/\True/\(d4.2+(1:Int))=d6.2/\True)/\((ho=ho/\rw=rw/\mx=mx/\tu=tu/\(([]:List SV)=[]))/\((0:Int)=(0:Int)/\True/\(([]:List SV)=[]))/\(((1:Int)+(Int.tmod ho (24:Int)))=((1:Int)+(Int.tmod ho (24:Int)))/\True/\(([]:List SV)=[]))/\((d4.1++[(1:Int)])=d6.1/\false=(List.isEmpty d6.1))/\True))/\q4 d6))) /\
  (((d4.2==(0:Int))||((decide (d4.2<(lI rw)))&&(decide (d4.2<(20:Int)))))=false ->
   ((((1:Int)+(Int.tmod ho (24:Int)))=(dsH ho)/\True/\(([]:List SV)=[]))/\((d4.1=(dsL ho rw)/\(List.isEmpty d4.1)=false)/\True)))) d40
def Yn:Cx:=⟨[(3,(.i .i64))],[],50,[],0,[],[],[],[],false,[],[],[],[]⟩
def NO (ho:Int) (rw:List Int) (mx:List Int) (tu:Int):List (Nat×LoopAnn):=[(0,⟨Unit,(List Int)×Int,[1,2,3,4],λe x=>[.box 1 0,.box 2 0,.box 3 0,.val (.i .i64) x.2],λe x=>[(1,.slot 1,.cells [.val (.i .u8) ho,.val (.list (.i .u32)) rw,.val (.list (.i .u8)) mx,.val (.i .u32) tu] (some 79)),(2,.slot 2,.cells [.val (.i .i64) (0:Int),.nilS] (some 81)),(3,.slot 3,.cells [.val (.i .i64) ((1:Int)+(Int.tmod ho (24:Int))),.lst 47] (some 81)),(47,.cell 3 1,.lst 3 (.i .i64) x.1 (List.isEmpty x.1))]⟩)]
theorem NH (d:Int×List Int×List Int×Int):gwp (Yn) (NO d.1 d.2.1 d.2.2.1 d.2.2.2) c46 0 (UO [.cell 2 true 2] (WE d) (WK d)) (Zd 50 (AL.can Yt d))=J2 d.1 d.2.1 d.2.2.1 d.2.2.2:=by kernel_rfl
abbrev NG:Prop:=OkC Tryz.prog 46 Xu
theorem NZ (h:∀ (ho:Int) (rw:List Int) (mx:List Int) (tu:Int),(0<=ho/\ho<=255/\rw.length<=9223372036854775807/\(∀ x∈rw,0<=x/\x<=4294967295)/\mx.length<=9223372036854775807/\(∀ x∈mx,0<=x/\x<=255)/\0<=tu/\tu<=4294967295)->J2 ho rw mx tu):OkC Tryz.prog 46 Xu :=
 Zv Q6t mixed (C:=Yn) (V:=λ(d:Int×List Int×List Int×Int)=>J2 d.1 d.2.1 d.2.2.1 d.2.2.2) ⟨.nil,XsOk.nil,ItsOk.nil,YlOk.nil,IysOk.nil,XfOk.nil⟩ (NH) λd hp=>h d.1 d.2.1 d.2.2.1 d.2.2.2 hp
theorem NF:NG:=NZ λho rw mx tu h=>by
 obtain⟨h1,h2,h3,h4,-⟩:=h;have hN:=Q41 rw;have hb:=Iz h1;unfold J2;(try delta lI gD sT I64 W5 pj8 pj4);rw[show (1:Int)+Int.tmod ho 24=dsH ho from rfl];have hp:=EZ (k:=(dsH ho).toNat) (by omega);have eE:Xh .i64 1 (dsH ho)=((2 ^ (dsH ho).toNat:Nat):Int):=by
  have:=Z5j (k:=(dsH ho).toNat) (by omega)
  rwa [show (((dsH ho).toNat:Nat):Int)=dsH ho by omega] at this
 rw[eE];refine⟨by rw[Qq];omega,by decide,by rw[Qq];omega,(),([],0),(by and_intros<;>first|rfl|trivial),?_⟩;refine⟨λd=>∃ k:Nat,k<=dsN rw/\d=(dsK ho rw k,(k:Int)),λd=>dsN rw-d.2.toNat,⟨0,by omega,rfl⟩,?_⟩;rintro _ ⟨k,hk,rfl⟩;dsimp only;have hc:(((k:Int)==0)||(decide ((k:Int)<rw.length)&&decide ((k:Int)<20)))=decide (k<dsN rw):=by rw[Bool.eq_iff_iff];simp only[zy,z8,zC,z_];unfold dsN at hk |-;split at hk<;>(try split at hk)<;>(try split)<;>(try split)<;>omega
 rw[hc];have hl:=O4 ho rw k;have he:dsK ho rw k++[dsR ho rw k]=dsK ho rw (k+1):=by unfold dsK;rw[List.range_succ,xI];rfl
 have az:false=(dsK ho rw (k+1)).isEmpty:=by rw[<-he];cases dsK ho rw k<;>rfl
 refine⟨λc=>?_,λc=>?_⟩
 .have c:=zo c;refine⟨λc2=>?_,λc2=>?_⟩
  .have c2:=zo c2;have hx:=h4 _ (by rw[Qg (show k<rw.length by omega)];exact zp _:rw.getD k 0∈rw);have e:dsR ho rw k=Int.tmod (rw.getD k 0) ((2 ^ (dsH ho).toNat:Nat):Int):=by unfold dsR;rw[z7 c2]
   rw[zB,<-e,he];refine⟨by omega,by omega,by rw[Qq];omega,by rw[B4];omega,by omega,by rw[Qq];omega,by omega,by rw[hl,xq];omega,by rw[Qq];omega,(dsK ho rw (k+1),((k+1:Nat):Int)),?_,⟨k+1,by omega,rfl⟩,by dsimp only;omega⟩;and_intros<;>first|rfl|trivial|exact az|(push_cast;rfl)
  .have c2:=zq c2;have e:dsR ho rw k=1:=by unfold dsR;rw[z1 c2]
   rw[<-e,he];refine⟨by rw[hl,xq];omega,by rw[e,Qq];omega,(dsK ho rw (k+1),((k+1:Nat):Int)),?_,⟨k+1,by omega,rfl⟩,by dsimp only;omega⟩;rw[e];and_intros<;>first|rfl|trivial|exact az|(push_cast;rfl)
 .have c:=zq c;obtain rfl:k=dsN rw:=by omega
  have az:(dsK ho rw (dsN rw)).isEmpty=false:=by rw[List.isEmpty_eq_false_iff];intro e;rw[e] at hl;simp at hl;omega
  and_intros<;>first|rfl|trivial|exact az
end Go.Proofs.Tryz