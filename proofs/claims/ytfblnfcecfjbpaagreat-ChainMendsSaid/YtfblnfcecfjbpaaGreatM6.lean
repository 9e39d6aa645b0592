/- A framework for walks, contracts of functions, and their proofs: part 6. -/
import Derived.ProofKit
import Derived.OpenShut
import Derived.LaidMore
import Derived.Carry
import Derived.Lib.SmallJoins
import Derived.Deep.Slices
import Derived.Test.YtfblnfcecfjbpaaGreatM5
noncomputable section
set_option linter.unusedVariables false
set_option maxRecDepth 100000
namespace Go.Proofs.Tryz
open Go Go.V Go.Proofs
theorem Fy (a b:Int):Tb a b=max a b:=by unfold Tb;split<;>omega
section
variable (nm:Nat->Int) (wo:Nat->Bool) (n:Nat)
def arP (a i:Nat):Nat:=(a+i) % n
def ChR (a:Nat):List Nat->Prop
 |[]=>False
 |[o]=>o=0
 |j::i::t=>i<j/\j<n/\wo (arP n a j)=false/\nm (arP n a i)<nm (arP n a j)/\ChR a (i::t)
def inR (at_:Nat) (r:List Int) (m:Nat):List Int:=(List.range m).foldl (λr b=>if 0<r.getD b 0/\wo at_=false/\nm b<nm at_ then r.set at_ (Tb (r.getD at_ 0) (r.getD b 0+1)) else r) r
def M1 (a:Nat):Nat->List Int
 |0=>(List.replicate n 0).set a 1
 |k+1=>inR nm wo (arP n a k) (M1 a k) n
def RR (a:Nat):Nat->Int
 |0=>0
 |k+1=>Tb (RR a k) ((M1 nm wo n a (k+1)).getD (arP n a k) 0)
def XU:Nat->Int
 |0=>0
 |k+1=>if wo k=true then XU k else Tb (XU k) (RR nm wo n k n)
end
section
variable {nm:Nat->Int}{wo:Nat->Bool}{n:Nat}
theorem Py (hn:0<n) (a i:Nat):arP n a i<n:=w5 _ hn
theorem C9 {a i j:Nat}(ha:a<n) (hi:i<n) (hj:j<n) (h:arP n a i=arP n a j):i=j:=by
 unfold arP at h;have e:∀ k,k<n->(a+k) % n=if a+k<n then a+k else a+k-n:=λk hk=>by
  split
  .exact xk (by assumption)
  .rw[Nat.mod_eq_sub_mod (by omega),xk (by omega)]
 rw[e i hi,e j hj] at h;split at h<;>split at h<;>omega
theorem Co {a:Nat}(ha:a<n):arP n a 0=a:=xk ha
theorem Q67 {a p:Nat}(ha:a<n) (hp:p<n):∃ i,i<n/\arP n a i=p:=by
 by_cases h:a<=p
 .exact⟨p-a,by omega,by unfold arP;rw[show a+(p-a)=p by omega,xk hp]⟩
 .exact⟨p+n-a,by omega,by unfold arP;rw[show a+(p+n-a)=p+n by omega,Nat.add_mod_right,xk hp]⟩
theorem Io {at_:Nat}{r:List Int}{m:Nat}:inR nm wo at_ r (m+1)=if 0<(inR nm wo at_ r m).getD m 0/\wo at_=false/\nm m<nm at_ then (inR nm wo at_ r m).set at_ (Tb ((inR nm wo at_ r m).getD at_ 0) ((inR nm wo at_ r m).getD m 0+1)) else inR nm wo at_ r m:=by unfold inR;rw[List.range_succ,List.foldl_append];rfl
theorem RI {r:List Int}{i j:Nat}{v:Int}(hi:i<r.length):(r.set i v).getD j 0=if i=j then v else r.getD j 0:=by
 rw[z6,xN];by_cases h:i=j
 .subst h;rw[z3 rfl,z3 rfl,z3 hi];rfl
 .rw[z0 h,z0 h,z6]
theorem T3 {at_:Nat}{r:List Int}(dJ:at_<r.length):∀ m,m<=r.length->(inR nm wo at_ r m).length=r.length/\(∀ p,p≠at_->(inR nm wo at_ r m).getD p 0=r.getD p 0)/\r.getD at_ 0<=(inR nm wo at_ r m).getD at_ 0 /\
  (∀ b,b<m->0<r.getD b 0->wo at_=false->nm b<nm at_->r.getD b 0+1<=(inR nm wo at_ r m).getD at_ 0) /\
  ((inR nm wo at_ r m).getD at_ 0=r.getD at_ 0\/∃ b,b<m/\0<r.getD b 0/\wo at_=false/\nm b<nm at_/\(inR nm wo at_ r m).getD at_ 0=r.getD b 0+1)
 |0,_=>⟨rfl,λ_ _=>rfl,Int.le_refl _,λb hb=>by omega,.inl rfl⟩
 |m+1,hm=>by
  obtain⟨h1,h2,h3,h4,h5⟩:=T3 dJ m (by omega);rw[Io];by_cases hc:0<(inR nm wo at_ r m).getD m 0/\wo at_=false/\nm m<nm at_
  .rw[z3 hc];have ft:m≠at_:=λe=>by rw[e] at hc;omega
   have hb:=h2 m ft;have eg:=Fy ((inR nm wo at_ r m).getD at_ 0) ((inR nm wo at_ r m).getD m 0+1);have aO:∀ p,((inR nm wo at_ r m).set at_ (Tb ((inR nm wo at_ r m).getD at_ 0) ((inR nm wo at_ r m).getD m 0+1))).getD p 0=if at_=p then Tb ((inR nm wo at_ r m).getD at_ 0) ((inR nm wo at_ r m).getD m 0+1) else (inR nm wo at_ r m).getD p 0:=λp=>RI (by rw[h1];exact dJ)
   refine⟨by rw[xU];exact h1,λp hp=>?_,?_,λb bk bt iV iL=>?_,?_⟩
   .rw[aO,z0 (Ne.symm hp)];exact h2 p hp
   .rw[aO,z3 rfl];omega
   .rw[aO,z3 rfl];by_cases e:b=m
    .subst e;omega
    .have:=h4 b (by omega) bt iV iL;omega
   .rw[aO,z3 rfl];by_cases e:(inR nm wo at_ r m).getD at_ 0<=(inR nm wo at_ r m).getD m 0+1
    .exact .inr ⟨m,by omega,by omega,hc.2.1,hc.2.2,by omega⟩
    .rcases h5 with h5|⟨b,g1,g2,g3,g4,g5⟩
     .exact .inl (by omega)
     .exact .inr ⟨b,by omega,g2,g3,g4,by omega⟩
  .rw[z0 hc];refine⟨h1,h2,h3,λb bk bt iV iL=>?_,?_⟩
   .by_cases e:b=m
    .subst e;have ft:b≠at_:=λe=>by rw[e] at iL;omega
     exact(hc ⟨by rw[h2 b ft];exact bt,iV,iL⟩).elim
    .exact h4 b (by omega) bt iV iL
   .rcases h5 with h5|⟨b,g1,g2⟩
    .exact .inl h5
    .exact .inr ⟨b,by omega,g2⟩
theorem Q8r {a:Nat}(hn:0<n):∀ {j:Nat}{t:List Nat},ChR nm wo n a (j::t)->j<n
 |j,[],h=>by have:j=0:=h;omega
 |j,i::t,h=>h.2.1
theorem AR {a:Nat}(ha:a<n):∀ k,k<=n->(M1 nm wo n a k).length=n/\(∀ j,j<n->0<=(M1 nm wo n a k).getD (arP n a j) 0/\(0<(M1 nm wo n a k).getD (arP n a j) 0->(j<k\/j=0)/\∃ t,ChR nm wo n a (j::t)/\((j::t).length:Int)=(M1 nm wo n a k).getD (arP n a j) 0)) /\
  (∀ j t,(j<k\/j=0)->ChR nm wo n a (j::t)->((j::t).length:Int)<=(M1 nm wo n a k).getD (arP n a j) 0)
 |0,_=>by
  have hn:0<n:=by omega
  have hl:(List.replicate n (0:Int)).length=n:=x_;have hz:∀ p,(List.replicate n (0:Int)).getD p 0=0:=λp=>by
   rw[z6];cases h:(List.replicate n (0:Int))[p]? with
   |none=>rfl
   |some x=>exact(List.mem_replicate.1 (zG h)).2
  have hg:∀ j,(M1 nm wo n a 0).getD j 0=if a=j then 1 else 0:=λj=>by show ((List.replicate n (0:Int)).set a 1).getD j 0=_;rw[RI (by rw[hl];exact ha),hz]
  refine⟨by show ((List.replicate n (0:Int)).set a 1).length=n;rw[xU,hl],λj hj=>?_,λj t hj hc=>?_⟩
  .rw[hg];refine⟨by split<;>omega,λh=>?_⟩;have e:a=arP n a j:=by
    by_cases e:a=arP n a j
    .exact e
    .rw[z0 e] at h;omega
   have fD:j=0:=C9 ha hj hn (by rw[Co ha];exact e.symm);subst fD;exact⟨.inr rfl,[],rfl,by rw[z3 e];rfl⟩
  .have fD:j=0:=by omega
   subst fD;rw[hg,Co ha,z3 rfl];cases t with
   |nil=>simp
   |cons i t=>have:i<0:=hc.1;omega
 |k+1,hk=>by
  have hn:0<n:=by omega
  obtain⟨h1,h2,h3⟩:=AR ha k (by omega);have dJ:arP n a k<(M1 nm wo n a k).length:=by rw[h1];exact Py hn a k
  obtain⟨g1,g2,g3,g4,g5⟩:=T3 (nm:=nm) (wo:=wo) dJ n (by omega);have e:M1 nm wo n a (k+1)=inR nm wo (arP n a k) (M1 nm wo n a k) n:=rfl;rw[e];have bj:∀ j,j<n->j≠k->(inR nm wo (arP n a k) (M1 nm wo n a k) n).getD (arP n a j) 0=(M1 nm wo n a k).getD (arP n a j) 0:=λj hj aw=>g2 _ λe=>aw (C9 ha hj (by omega) e);refine⟨g1.trans h1,λj hj=>?_,λj t hj hc=>?_⟩
  .by_cases dg:j=k
   .subst dg;have hb:=(h2 j hj).1;refine⟨by omega,λhp=>⟨.inl (by omega),?_⟩⟩;rcases g5 with g5|⟨b,b1,b2,b3,b4,b5⟩
    .rw[g5] at hp |-;obtain⟨_,t,q1,q2⟩:=(h2 j hj).2 hp;exact⟨t,q1,q2⟩
    .obtain⟨i,hi,rfl⟩:=Q67 ha b1;obtain⟨oL,t,q1,q2⟩:=(h2 i hi).2 b2;have bQ:i<j:=by
      rcases oL with oL|oL
      .exact oL
      .subst oL;rcases Nat.eq_zero_or_pos j with e0|e0
       .subst e0;omega
       .exact e0
     refine⟨i::t,⟨bQ,hj,b3,b4,q1⟩,?_⟩;rw[b5,<-q2];simp
   .rw[bj j hj dg];refine⟨(h2 j hj).1,λhp=>?_⟩;obtain⟨q0,q⟩:=(h2 j hj).2 hp;exact⟨by omega,q⟩
  .have aZ:=Q8r hn hc;by_cases dg:j=k
   .subst dg;cases t with
    |nil =>have fD:j=0:=hc;have:=h3 j [] (.inr fD) hc;omega
    |cons i t =>
     obtain⟨c1,c2,c3,c4,c5⟩:=hc;have hi:=h3 i t (.inl c1) c5;have bE:0<(M1 nm wo n a j).getD (arP n a i) 0:=by simp only[zT] at hi;omega
     have:=g4 (arP n a i) (Py hn a i) bE c3 c4;simp only[zT] at hi |-;omega
   .rw[bj j aZ dg];exact h3 j t (by omega) hc
theorem Au {a:Nat}(ha:a<n):∀ k,k<=n->0<=RR nm wo n a k/\(∀ j t,j<k->ChR nm wo n a (j::t)->((j::t).length:Int)<=RR nm wo n a k)/\(RR nm wo n a k=0\/∃ j t,j<k/\ChR nm wo n a (j::t)/\((j::t).length:Int)=RR nm wo n a k)
 |0,_=>⟨Int.le_refl _,λj t h=>by omega,.inl rfl⟩
 |k+1,hk=>by
  obtain⟨h1,h2,h3⟩:=Au ha k (by omega);obtain⟨_,r2,r3⟩:=AR (nm:=nm) (wo:=wo) ha (k+1) hk;have e:RR nm wo n a (k+1)=Tb (RR nm wo n a k) ((M1 nm wo n a (k+1)).getD (arP n a k) 0):=rfl;have eg:=Fy (RR nm wo n a k) ((M1 nm wo n a (k+1)).getD (arP n a k) 0);obtain⟨p1,p2⟩:=r2 k (by omega);rw[e];refine⟨by clear p2;omega,λj t hj hc=>?_,?_⟩
  .by_cases dg:j=k
   .subst dg;have:=r3 j t (.inl (by clear p2;omega)) hc;clear p2;omega
   .have:=h2 j t (by clear p2;omega) hc;clear p2;omega
  .by_cases hle:RR nm wo n a k<=(M1 nm wo n a (k+1)).getD (arP n a k) 0
   .by_cases hz:(M1 nm wo n a (k+1)).getD (arP n a k) 0=0
    .exact .inl (by clear p2;omega)
    .obtain⟨_,t,q1,q2⟩:=p2 (by clear p2;omega);exact .inr ⟨k,t,by clear p2;omega,q1,by clear p2;omega⟩
   .rcases h3 with h3|⟨j,t,q1,q2,q3⟩
    .exact .inl (by clear p2;omega)
    .exact .inr ⟨j,t,by clear p2;omega,q2,by clear p2;omega⟩
theorem Ls:∀ k,k<=n->0<=XU nm wo n k/\(∀ a,a<k->wo a=false->∀ j t,ChR nm wo n a (j::t)->((j::t).length:Int)<=XU nm wo n k)/\(XU nm wo n k=0\/∃ a,a<k/\wo a=false/\∃ j t,ChR nm wo n a (j::t)/\((j::t).length:Int)=XU nm wo n k)
 |0,_=>⟨Int.le_refl _,λa h=>by omega,.inl rfl⟩
 |k+1,hk=>by
  obtain⟨h1,h2,h3⟩:=Ls k (by omega);obtain⟨m1,m2,m3⟩:=Au (nm:=nm) (wo:=wo) (show k<n by omega) n (z7 _);simp only[XU];by_cases hw:wo k=true
  .rw[z3 hw];refine⟨h1,λa ha fb j t hc=>?_,?_⟩
   .by_cases e:a=k
    .subst e;rw[hw] at fb;cases fb
    .exact h2 a (by omega) fb j t hc
   .rcases h3 with h3|⟨a,q1,q2⟩
    .exact .inl h3
    .exact .inr ⟨a,by omega,q2⟩
  .rw[z0 hw];have hw:wo k=false:=by simpa using hw
   have eg:=Fy (XU nm wo n k) (RR nm wo n k n);refine⟨by omega,λa ha fb j t hc=>?_,?_⟩
   .by_cases e:a=k
    .subst e;have:=m2 j t (Q8r (by omega) hc) hc;omega
    .have:=h2 a (by omega) fb j t hc;omega
   .by_cases hle:XU nm wo n k<=RR nm wo n k n
    .rcases m3 with m3|⟨j,t,q1,q2,q3⟩
     .exact .inl (by omega)
     .exact .inr ⟨k,by omega,hw,j,t,q2,by omega⟩
    .rcases h3 with h3|⟨a,q1,q2,j,t,q3,q4⟩
     .exact .inl (by omega)
     .exact .inr ⟨a,by omega,q2,j,t,q3,by omega⟩
end
def kpL (kp:Nat->Bool) (n:Nat):List Nat:=(List.range n).filter kp
def Q94 (l:List Int):Prop:=∃ A B,l=A++B/\(B++A).Pairwise (·<·)
def SW (n a p:Nat):Nat:=if a<=p then p-a else p+n-a
section
variable {nm:Nat->Int}{wo:Nat->Bool}{n:Nat}
theorem Hg {a p:Nat}(ha:a<n) (hp:p<n):SW n a p<n/\arP n a (SW n a p)=p:=by
 unfold SW arP;split
 .exact⟨by omega,by rw[show a+(p-a)=p by omega,xk hp]⟩
 .exact⟨by omega,by rw[show a+(p+n-a)=p+n by omega,Nat.add_mod_right,xk hp]⟩
theorem YE {kp:Nat->Bool}{p:Nat}:p∈kpL kp n<->p<n/\kp p=true:=by unfold kpL;rw[zt,zA]
theorem YJ (kp:Nat->Bool) (n:Nat):(kpL kp n).Pairwise (·<·):=List.Pairwise.filter _ List.pairwise_lt_range
theorem P9 {a:Nat}:∀ {L:List Nat},L.Pairwise (·<·)->L=L.filter (λp=>decide (p<a))++L.filter (λp=>!decide (p<a))
 |[],_=>rfl
 |x::t,h=>by
  obtain⟨h1,h2⟩:=xM.1 h;by_cases hx:x<a
  .rw[List.filter_cons_of_pos (by simpa using hx),List.filter_cons_of_neg (by simpa using hx),zV,<-P9 h2]
  .have e:t.filter (λp=>decide (p<a))=[]:=List.filter_eq_nil_iff.2 λy hy=>by have:=h1 y hy;simp;omega
   have e2:t.filter (λp=>!decide (p<a))=t:=List.filter_eq_self.2 λy hy=>by have:=h1 y hy;simp;omega
   rw[List.filter_cons_of_neg (by simpa using hx),List.filter_cons_of_pos (by simpa using hx),e,e2];rfl
theorem E9 {a:Nat}(ha:a<n) (fb:wo a=false):∀ {R:List Nat},ChR nm wo n a R->R≠[]/\R.Pairwise (λx y=>y<x/\nm (arP n a y)<nm (arP n a x))/\∀ o∈R,o<n/\wo (arP n a o)=false
 |[],h=>h.elim
 |[o],h=>by have h0:o=0:=h;subst h0;refine⟨by simp,List.pairwise_singleton _ _,λo ho=>?_⟩;rw[zd.1 ho,Co ha];exact⟨by omega,fb⟩
 |j::i::t,h=>by
  obtain⟨h1,h2,h3,h4,h5⟩:=h;obtain⟨g1,g2,g3⟩:=E9 ha fb h5;refine⟨by simp,List.Pairwise.cons (λy hy=>?_) g2,λo ho=>?_⟩
  .rcases zj.1 hy with rfl|hy
   .exact⟨h1,h4⟩
   .have:=(xM.1 g2).1 y hy;exact⟨by omega,by omega⟩
  .rcases zj.1 ho with rfl|ho
   .exact⟨h2,h3⟩
   .exact g3 o ho
theorem Q8t {a:Nat}:∀ {R:List Nat}(aw:R≠[]),R.getLast aw=0->R.Pairwise (λx y=>y<x/\nm (arP n a y)<nm (arP n a x))->(∀ o∈R,o<n/\wo (arP n a o)=false)->ChR nm wo n a R
 |[],h,_,_,_=>(h rfl).elim
 |[o],_,h,_,_=>h
 |j::i::t,_,h,hp,ho=>by obtain⟨p1,p2⟩:=xM.1 hp;have h1:=p1 i (zf ..);have h2:=ho j (zf ..);exact⟨h1.1,h2.1,h2.2,h1.2,Q8t (R:=i::t) (by simp) (by rw[List.getLast_cons (by simp)] at h;exact h) p2 λo hm=>ho o (ze _ hm)⟩
theorem Z0z {R:List Nat}{f:Nat->Int}(h:R.Pairwise (λx y=>y<x/\f y<f x)) {x y:Nat}(hx:x∈R) (hy:y∈R) (af:x<y):f x<f y:=by
 obtain⟨i,hi,rfl⟩:=List.getElem_of_mem hx;obtain⟨j,hj,rfl⟩:=List.getElem_of_mem hy;have hp:=List.pairwise_iff_getElem.1 h;rcases Nat.lt_trichotomy i j with h1|h1|h1
 .have:=(hp i j hi hj h1).1;omega
 .subst h1;omega
 .exact(hp j i hj hi h1).2
theorem Q51 {a:Nat}(ha:a<n) (fb:wo a=false) {R:List Nat}(hc:ChR nm wo n a R):∃ kp:Nat->Bool,(∀ p,kp p=true->p<n/\wo p=false)/\Q94 ((kpL kp n).map nm)/\(kpL kp n).length=R.length:=by
 obtain⟨h1,h2,h3⟩:=E9 ha fb hc;have aI:∀ p,p∈kpL (λp=>decide (p∈R.map (arP n a))) n<->p∈R.map (arP n a):=λp=>by rw[YE,zn];refine⟨λh=>h.2,λh=>⟨?_,h⟩⟩;obtain⟨o,ho,rfl⟩:=zo.1 h;exact Py (by omega) a o
 have a8:∀ p,p∈kpL (λp=>decide (p∈R.map (arP n a))) n->SW n a p∈R/\p=arP n a (SW n a p):=λp hp=>by obtain⟨o,ho,rfl⟩:=zo.1 ((aI p).1 hp);have af:arP n a o<n:=Py (by omega) a o;obtain⟨q1,q2⟩:=Hg ha af;have:SW n a (arP n a o)=o:=C9 ha q1 (h3 o ho).1 q2;rw[this];exact⟨ho,rfl⟩
 refine⟨λp=>decide (p∈R.map (arP n a)),λp hp=>?_,?_,?_⟩
 .obtain⟨o,ho,rfl⟩:=zo.1 (zg hp);exact⟨Py (by omega) a o,(h3 o ho).2⟩
 .have hs:=YJ (λp=>decide (p∈R.map (arP n a))) n;have dF:=P9 (a:=a) hs;have af:∀ p∈kpL (λp=>decide (p∈R.map (arP n a))) n,p<n:=λp hp=>(YE.1 hp).1;generalize kpL (λp=>decide (p∈R.map (arP n a))) n=L at *
  refine⟨(L.filter λp=>decide (p<a)).map nm,(L.filter λp=>!decide (p<a)).map nm,by rw[<-xC,<-dF],?_⟩;rw[<-xC,xc];have gV:((L.filter λp=>!decide (p<a))++(L.filter λp=>decide (p<a))).Pairwise (λx y=>SW n a x<SW n a y):=by
   refine List.pairwise_append.2 ⟨(hs.filter _).imp_of_mem λ{x y} hx hy h=>?_,(hs.filter _).imp_of_mem λ{x y} hx hy h=>?_,λx hx y hy=>?_⟩
   .have q1:=(zt.1 hx).2;have q2:=(zt.1 hy).2;simp at q1 q2;unfold SW;rw[z3 q1,z3 q2];omega
   .have q1:=(zt.1 hx).2;have q2:=(zt.1 hy).2;simp at q1 q2;unfold SW;rw[z0 (by omega),z0 (by omega)];omega
   .have q1:=(zt.1 hx).2;have q2:=(zt.1 hy).2;have q3:=af x (zt.1 hx).1;simp at q1 q2;unfold SW;rw[z3 q1,z0 (by omega)];omega
  refine gV.imp_of_mem λ{x y} hx hy h=>?_;have mx:x∈L:=by rcases zz.1 hx with h|h<;>exact(zt.1 h).1
  have my:y∈L:=by rcases zz.1 hy with h|h<;>exact(zt.1 h).1
  obtain⟨x1,x2⟩:=a8 x mx;obtain⟨y1,y2⟩:=a8 y my;have:=Z0z (f:=λo=>nm (arP n a o)) h2 x1 y1 h;rw[<-x2,<-y2] at this;exact this
 .have eM:(R.map (arP n a)).Nodup:=by
   refine xc.2 (h2.imp_of_mem λ{x y} hx hy h e=>?_);have:=C9 ha (h3 x hx).1 (h3 y hy).1 e;omega
  have hp:(kpL (λp=>decide (p∈R.map (arP n a))) n).Perm (R.map (arP n a)):=(xG ((YJ _ n).imp λh=>by omega) eM).2 aI;rw[hp.length_eq,x6]
theorem Q19 {kp:Nat->Bool}(hk:∀ p,kp p=true->wo p=false) (aw:kpL kp n≠[]) (ho:Q94 ((kpL kp n).map nm)):∃ a,a<n/\wo a=false/\∃ j t,ChR nm wo n a (j::t)/\(j::t).length=(kpL kp n).length:=by
 have hs:=YJ kp n;have aI:∀ p∈kpL kp n,p<n/\wo p=false:=λp hp=>⟨(YE.1 hp).1,hk p (YE.1 hp).2⟩;generalize kpL kp n=L at *
 obtain⟨A,B,hL,hB,gV⟩:∃ A B:List Nat,L=A++B/\B≠[]/\((B++A).map nm).Pairwise (·<·):=by
  obtain⟨A',B',h1,h2⟩:=ho;obtain⟨A,B,e1,e2,e3⟩:=List.map_eq_append_iff.1 h1;by_cases hB:B=[]
  .subst hB;refine⟨[],A,by simpa using e1,λe=>aw (by rw[e1,e];rfl),?_⟩;rw[xy,e2];rw[<-e3] at h2;simpa using h2
  .exact⟨A,B,e1,hB,by rw[xC,e2,e3];exact h2⟩
 cases B with
 |nil=>exact(hB rfl).elim
 |cons a B =>
 have uU:a∈L:=by rw[hL];simp
 obtain⟨ha,fb⟩:=aI a uU;rw[hL] at hs;obtain⟨s1,s2,s3⟩:=List.pairwise_append.1 hs;have bB:∀ p∈a::B,a<=p:=λp hp=>by
  rcases zj.1 hp with rfl|hp
  .exact z7 _
  .exact Nat.le_of_lt ((xM.1 s2).1 p hp)
 have af:∀ p∈A,p<a:=λp hp=>s3 p hp a (zf ..);have hQ:∀ p∈(a::B)++A,p<n/\wo p=false:=λp hp=>aI p (by
  rw[hL];rcases zz.1 hp with h|h
  .exact xA _ h
  .exact xI _ h)
 have a8:(((a::B)++A).map (SW n a)).Pairwise (λx y=>x<y/\nm (arP n a x)<nm (arP n a y)):=by
  have h1:((a::B)++A).Pairwise (λx y=>SW n a x<SW n a y):=by
   refine List.pairwise_append.2 ⟨s2.imp_of_mem λ{x y} hx hy h=>?_,s1.imp_of_mem λ{x y} hx hy h=>?_,λx hx y hy=>?_⟩
   .have:=bB x hx;have:=bB y hy;unfold SW;rw[z3 (by omega),z3 (by omega)];omega
   .have:=af x hx;have:=af y hy;unfold SW;rw[z0 (by omega),z0 (by omega)];omega
   .have:=bB x hx;have:=af y hy;have:=(hQ x (xI _ hx)).1;unfold SW;rw[z3 (by omega),z0 (by omega)];omega
  rw[xc];refine (h1.and (xc.1 gV)).imp_of_mem λ{x y} hx hy h=>⟨h.1,?_⟩;rw[(Hg ha (hQ x hx).1).2,(Hg ha (hQ y hy).1).2];exact h.2
 have dP:ChR nm wo n a (((a::B)++A).map (SW n a)).reverse:=by
  refine Q8t (by simp) ?_ (List.pairwise_reverse.2 a8) λo ho=>?_
  .rw[List.getLast_reverse];simp[SW]
  .rw[List.mem_reverse] at ho;obtain⟨p,hp,rfl⟩:=zo.1 ho;obtain⟨q1,q2⟩:=Hg ha (hQ p hp).1;exact⟨q1,by rw[q2];exact(hQ p hp).2⟩
 refine⟨a,ha,fb,?_⟩;have hlen:(((a::B)++A).map (SW n a)).reverse.length=L.length:=by rw[List.length_reverse,x6,hL,zH,zH,xV]
 cases hr:(((a::B)++A).map (SW n a)).reverse with
 |nil=>rw[hr] at dP;exact dP.elim
 |cons j t=>exact⟨j,t,by rw[<-hr];exact dP,by rw[<-hr];exact hlen⟩
theorem T6 (nm:Nat->Int) (wo:Nat->Bool) (n:Nat):(∀ kp:Nat->Bool,(∀ p,kp p=true->wo p=false)->Q94 ((kpL kp n).map nm)->((kpL kp n).length:Int)<=XU nm wo n n) /\
  ∃ kp:Nat->Bool,(∀ p,kp p=true->p<n/\wo p=false)/\Q94 ((kpL kp n).map nm)/\((kpL kp n).length:Int)=XU nm wo n n:=by
 obtain⟨h1,h2,h3⟩:=Ls (nm:=nm) (wo:=wo) (n:=n) n (z7 _);refine⟨λkp hk ho=>?_,?_⟩
 .by_cases aw:kpL kp n=[]
  .rw[aw];exact h1
  .obtain⟨a,ha,fb,j,t,hc,hl⟩:=Q19 hk aw ho;rw[<-hl];exact h2 a ha fb j t hc
 .rcases h3 with h3|⟨a,ha,fb,j,t,hc,hl⟩
  .have e:kpL (λ_=>false) n=[]:=by unfold kpL;simp
   exact⟨λ_=>false,(λp hp=>by cases hp),(by rw[e];exact⟨[],[],rfl,.nil⟩),(by rw[e,h3];rfl)⟩
  .obtain⟨kp,k1,k2,k3⟩:=Q51 ha fb hc;exact⟨kp,k1,k2,by rw[k3,hl]⟩
end
def woL (l:List Int) (p:Nat):Bool:=decide ((p:Int)∈l)
section
variable (nm:Nat->Int) (n:Nat)
def Uv:Int:=XU nm (λ_=>false) n n
def mvK:Nat->List Int
 |0=>[]
 |k+1=>if ((mvK k).length:Int)+Uv nm n=n then mvK k else if XU nm (woL (mvK k++[(k:Int)])) n n<Uv nm n then mvK k else mvK k++[(k:Int)]
end
section
variable {nm:Nat->Int}{n:Nat}
theorem LI:∀ {l m:List Int},l.Nodup->(∀ x∈l,x∈m)->l.length<=m.length
 |[],_,_,_=>Nat.zero_le _
 |x::l,m,hn,hs=>by have hn:=z_.1 hn;have hx:=hs x (zf ..);have:=LI (l:=l) (m:=m.erase x) hn.2 λy hy=>(List.mem_erase_of_ne (by rintro rfl;exact hn.1 hy)).2 (hs y (ze _ hy));rw[List.length_erase_of_mem hx] at this;have:0<m.length:=List.length_pos_of_mem hx;simp only[zT];omega
def Z17 (nm:Nat->Int) (n:Nat) (kp:Nat->Bool):Prop:=Q94 ((kpL kp n).map nm)/\((kpL kp n).length:Int)=Uv nm n
theorem Q1u {kp:Nat->Bool}(h:Q94 ((kpL kp n).map nm)):((kpL kp n).length:Int)<=Uv nm n:=(T6 nm (λ_=>false) n).1 kp (λ_ _=>rfl) h
theorem G0 (kp:Nat->Bool):∀ n,(kpL kp n).length+(kpL (λp=>!kp p) n).length=n
 |0=>rfl
 |n+1=>by have ih:=G0 kp n;unfold kpL at ih |-;rw[List.range_succ,List.filter_append,List.filter_append,zH,zH];cases h:kp n<;>simp[h]<;>omega
theorem Iv:∀ k,k<=n->(mvK nm n k).Pairwise (·<·)/\(∀ i∈mvK nm n k,0<=i/\i<(k:Int))/\(∃ kp,Z17 nm n kp/\∀ p,kp p=true->woL (mvK nm n k) p=false) /\
  (∀ kp,Z17 nm n kp->∀ p,p<k->(∀ q,q<p->kp q=!woL (mvK nm n k) q)->kp p=false->(p:Int)∈mvK nm n k)
 |0,_=>by refine⟨.nil,(λi hi=>by cases hi),?_,λkp _ p hp=>by omega⟩;obtain⟨kp,k1,k2,k3⟩:=(T6 nm (λ_=>false) n).2;exact⟨kp,⟨k2,k3⟩,λp _=>by simp[mvK,woL]⟩
 |k+1,hk=>by
  obtain⟨h1,h2,⟨sj,h3,h4⟩,h5⟩:=Iv k (by omega);have hex:∀ i∈mvK nm n k,0<=i/\i<((k+1:Nat):Int):=λi hi=>by have:=h2 i hi;omega
  simp only[mvK];by_cases c1:((mvK nm n k).length:Int)+Uv nm n=n
  .rw[z3 c1];refine⟨h1,hex,⟨sj,h3,h4⟩,λkp ho p hp ha hf=>?_⟩;by_cases mT:p=k
   .subst mT;exfalso;have hc:=G0 kp n;have hlen:((kpL (λp=>!kp p) n).length:Int)=(mvK nm n p).length:=by have:=ho.2;omega
    have dT:((p:Int)::mvK nm n p).length<=((kpL (λq=>!kp q) n).map λ(q:Nat)=>(q:Int)).length:=by
     have eM:((p:Int)::mvK nm n p).Nodup:=z_.2 ⟨λhm=>by have:=h2 _ hm;omega,h1.imp λh=>by omega⟩;refine LI eM λx hx=>?_;rcases zj.1 hx with rfl|hx
     .exact zo.2 ⟨p,YE.2 ⟨by omega,by rw[hf];rfl⟩,rfl⟩
     .have hb:=h2 x hx;refine zo.2 ⟨x.toNat,YE.2 ⟨by omega,?_⟩,by omega⟩;rw[ha x.toNat (by omega)];unfold woL;rw[show ((x.toNat:Nat):Int)=x by omega,zX hx];rfl
    rw[x6,zT] at dT;omega
   .exact h5 kp ho p (by omega) ha hf
  .rw[z0 c1];obtain⟨s1,uV,s2,s3,s4⟩:=T6 nm (woL (mvK nm n k++[(k:Int)])) n;have sk:∀ q:Nat,woL (mvK nm n k++[(k:Int)]) q=(woL (mvK nm n k) q||decide (q=k)):=λq=>by
    unfold woL;simp only[zz,zd];rw[Bool.eq_iff_iff];simp only[zx,zn];constructor
    .rintro (h|h)
     .exact .inl h
     .exact .inr (by omega)
    .rintro (h|h)
     .exact .inl h
     .exact .inr (by omega)
   by_cases c2:XU nm (woL (mvK nm n k++[(k:Int)])) n n<Uv nm n
   .rw[z3 c2];refine⟨h1,hex,⟨sj,h3,h4⟩,λkp ho p hp ha hf=>?_⟩;by_cases mT:p=k
    .subst mT;exfalso;have:=s1 kp (λq hq=>by
      rw[sk];by_cases uW:q<p
      .have:=ha q uW;rw[hq] at this;have h9:woL (mvK nm n p) q=false:=by cases h:woL (mvK nm n p) q<;>simp[h] at this<;>rfl
       rw[h9,xw (by omega)];rfl
      .have aw:q≠p:=λe=>by rw[e,hf] at hq;cases hq
       have h9:woL (mvK nm n p) q=false:=xw λhm=>by have:=h2 _ hm;omega
       rw[h9,xw aw];rfl) ho.1
     have:=ho.2;omega
    .exact h5 kp ho p (by omega) ha hf
   .rw[z0 c2];refine⟨List.pairwise_append.2 ⟨h1,List.pairwise_singleton _ _,λx hx y hy=>by rw[zd.1 hy];have:=h2 x hx;omega⟩,λi hi=>?_,⟨uV,⟨s3,?_⟩,λp hp=>(s2 p hp).2⟩,λkp ho p hp ha hf=>?_⟩
    .rcases zz.1 hi with hi|hi
     .exact hex i hi
     .rw[zd.1 hi];omega
    .have:=Q1u (nm:=nm) (n:=n) s3;omega
    .by_cases mT:p=k
     .subst mT;exact xA _ (zd.2 rfl)
     .refine xI _ (h5 kp ho p (by omega) (λq hq=>?_) hf);rw[ha q hq,sk,xw (by omega),w4]
theorem Q0b:(mvK nm n n).Pairwise (·<·)/\(∀ i∈mvK nm n n,0<=i/\i<(n:Int))/\Z17 nm n (λp=>!woL (mvK nm n n) p)/\((mvK nm n n).length:Int)+Uv nm n=n /\
  (∀ kp,Z17 nm n kp->∀ p,p<n->(∀ q,q<p->kp q=!woL (mvK nm n n) q)->kp p=false->(p:Int)∈mvK nm n n):=by
 obtain⟨h1,h2,⟨kp,h3,h4⟩,h5⟩:=Iv (nm:=nm) (n:=n) n (z7 _);have heq:∀ p,p<n->kp p=!woL (mvK nm n n) p:=by
  intro p;induction p using Nat.strongRecOn with
  |ind p ih =>
   intro hp;cases hk:kp p with
   |true=>rw[h4 p hk];rfl
   |false =>have:=h5 kp h3 p hp (λq hq=>ih q hq (by omega)) hk;have h9:woL (mvK nm n n) p=true:=zX this;rw[h9];rfl
 have hL:kpL kp n=kpL (λp=>!woL (mvK nm n n) p) n:=List.filter_congr λp hp=>heq p (zA.1 hp);have hO:Z17 nm n (λp=>!woL (mvK nm n n) p):=by unfold Z17 at h3 |-;rw[<-hL];exact h3
 refine⟨h1,h2,hO,?_,h5⟩;have hc:=G0 (λp=>!woL (mvK nm n n) p) n;have hlen:(kpL (λp=>!!woL (mvK nm n n) p) n).length=(mvK nm n n).length:=by
  have hp:((kpL (λp=>!!woL (mvK nm n n) p) n).map λ(q:Nat)=>(q:Int)).Perm (mvK nm n n):=by
   refine (xG (xc.2 ((YJ _ n).imp λh=>by omega)) (h1.imp λh=>by omega)).2 λx=>?_;rw[zo];constructor
   .rintro⟨q,hq,rfl⟩;have:=(YE.1 hq).2;rw[Bool.not_not] at this;exact zg this
   .intro hx;have hb:=h2 x hx;refine⟨x.toNat,YE.2 ⟨by omega,?_⟩,by omega⟩;rw[Bool.not_not];unfold woL;rw[show ((x.toNat:Nat):Int)=x by omega,zX hx]
  rw[<-hp.length_eq,x6]
 have:=hO.2;omega
end
def FP:List Int->Nat
 |x::y::t=>(if y<x then 1 else 0)+FP (y::t)
 |_=>0
def Z6f (l:List Int):Nat:=FP l+if l.headD 0<l.getLastD 0 then 1 else 0
theorem Np:∀ {l:List Int},l.Nodup->(FP l=0<->l.Pairwise (·<·))
 |[],_=>⟨λ_=>.nil,λ_=>rfl⟩
 |[x],_=>⟨λ_=>List.pairwise_singleton _ _,λ_=>rfl⟩
 |x::y::t,h=>by
  obtain⟨h1,h2⟩:=z_.1 h;have ih:=Np h2;simp only[FP];constructor
  .intro e;have af:x<y:=by
    have aw:x≠y:=λe=>h1 (by rw[e];exact zf ..);by_cases hc:y<x
    .rw[z3 hc] at e;omega
    .omega
   have hp:=ih.1 (by omega);refine List.Pairwise.cons (λz hz=>?_) hp;rcases zj.1 hz with rfl|hz
   .exact af
   .have:=(xM.1 hp).1 z hz;omega
  .intro hp;obtain⟨p1,p2⟩:=xM.1 hp;have:=p1 y (zf ..);rw[ih.2 p2,z0 (by omega)]
theorem AO:∀ {l:List Int},l.Nodup->FP l=1->∃ A B,l=A++B/\A≠[]/\B≠[]/\A.Pairwise (·<·)/\B.Pairwise (·<·)
 |[],_,h=>by cases h
 |[x],_,h=>by cases h
 |x::y::t,hn,h=>by
  obtain⟨h1,h2⟩:=z_.1 hn;simp only[FP] at h;by_cases hc:y<x
  .rw[z3 hc] at h;exact⟨[x],y::t,rfl,by simp,by simp,List.pairwise_singleton _ _,(Np h2).1 (by omega)⟩
  .rw[z0 hc,xh] at h;obtain⟨A,B,e,a1,b1,a2,b2⟩:=AO h2 h;refine⟨x::A,B,by rw[e];rfl,by simp,b1,?_,b2⟩;cases A with
   |nil=>exact(a1 rfl).elim
   |cons z A =>
    obtain rfl:y=z:=(zP e).1;have aw:x≠y:=λe=>h1 (by rw[e];exact zf ..);refine List.Pairwise.cons (λw hw=>?_) a2;rcases zj.1 hw with rfl|hw
    .omega
    .have:=(xM.1 a2).1 w hw;omega
theorem Lw:∀ {A B:List Int},A≠[]->B≠[]->FP (A++B)=FP A+(if B.headD 0<A.getLastD 0 then 1 else 0)+FP B
 |[],_,h,_=>(h rfl).elim
 |[x],B,_,hB=>by
  cases B with
  |nil=>exact(hB rfl).elim
  |cons y t=>simp[FP]
 |x::y::t,B,_,hB=>by
  have ih:=Lw (A:=y::t) (B:=B) (by simp) hB;rw[zV,zV];simp only[FP];rw[<-zV,ih];have:(x::y::t).getLastD 0=(y::t).getLastD 0:=by simp[List.getLastD_cons]
  rw[this];omega
theorem Q1x {l:List Int}(hn:l.Nodup):Q94 l<->Z6f l<=1:=by
 unfold Z6f;have cI:∀ {B:List Int},B≠[]->B.getLastD 0∈B:=λ{B} h=>by rw[xJ,List.getLast?_eq_some_getLast h];exact List.getLast_mem h
 have kO:∀ {B:List Int},B≠[]->B.headD 0∈B:=λ{B} h=>by
  cases B with
  |nil=>exact(h rfl).elim
  |cons x t=>exact zf ..
 constructor
 .rintro⟨A,B,rfl,h⟩;obtain⟨h1,h2,h3⟩:=List.pairwise_append.1 h;by_cases hA:A=[]
  .subst hA;have:=(Np hn).2 (by simpa using h1);rw[this];split<;>omega
  .by_cases hB:B=[]
   .subst hB;have:=(Np hn).2 (by simpa using h2);rw[this];split<;>omega
   .obtain⟨n1,n2,_⟩:=List.nodup_append.1 hn;rw[Lw hA hB,(Np n1).2 h2,(Np n2).2 h1];have hh:(A++B).headD 0=A.headD 0:=by cases A with|nil=>exact(hA rfl).elim|cons x t=>rfl
    have hl:(A++B).getLastD 0=B.getLastD 0:=by rw[xJ,xJ,List.getLast?_append];rw[List.getLast?_eq_some_getLast hB];rfl
    have:=h3 (B.getLastD 0) (cI hB) (A.headD 0) (kO hA);rw[hh,hl,z0 (show ¬ A.headD 0<B.getLastD 0 by omega)];split<;>omega
 .intro h;by_cases h0:FP l=0
  .exact⟨[],l,rfl,by simpa using (Np hn).1 h0⟩
  .have h1:FP l=1:=by split at h<;>omega
   obtain⟨A,B,e,a1,b1,a2,b2⟩:=AO hn h1;subst e;have hh:(A++B).headD 0=A.headD 0:=by cases A with|nil=>exact(a1 rfl).elim|cons x t=>rfl
   have hl:(A++B).getLastD 0=B.getLastD 0:=by rw[xJ,xJ,List.getLast?_append];rw[List.getLast?_eq_some_getLast b1];rfl
   rw[h1,hh,hl] at h;have j_:¬ A.headD 0<B.getLastD 0:=λhc=>by rw[z3 hc] at h;omega
   obtain⟨_,_,n3⟩:=List.nodup_append.1 hn;have aw:=n3 (A.headD 0) (kO a1) (B.getLastD 0) (cI b1);refine⟨A,B,rfl,List.pairwise_append.2 ⟨b2,a2,λx hx y hy=>?_⟩⟩;have rP:x<=B.getLastD 0:=by
    rw[xJ,List.getLast?_eq_some_getLast b1];have hs:B=B.dropLast++[B.getLast b1]:=(List.dropLast_concat_getLast b1).symm;rw[hs] at hx b2;rcases zz.1 hx with hx|hx
    .have:=(List.pairwise_append.1 b2).2.2 x hx _ (zd.2 rfl);show x<=B.getLast b1;omega
    .rw[zd.1 hx];exact Int.le_refl _
   have vJ:A.headD 0<=y:=by
    cases A with
    |nil=>cases hy
    |cons z t =>
     rcases zj.1 hy with rfl|hy
     .exact Int.le_refl _
     .have:=(xM.1 a2).1 y hy;show z<=y;omega
   omega
def OJ (p:Ka×Ka):Int:=AZ p.1.1 p.2.1
def CJ (cs:List Ka):List Ka:=(US OJ cs 0 cs.length).map λc=>((c.1,(c.2.1,false)):Ka)
theorem Fo {x y:Ka}:OJ (x,y)<0<->x.1<y.1:=by unfold OJ AZ;dsimp only;split<;>(try split)<;>omega
theorem WA (a:Int) (b:Bool) (m:List (Int×Bool)) (e:Int) (d:Bool):gq.aget (.i .i64) ((a,b)::m) e d=if e=a then b else gq.aget (.i .i64) m e d:=by show (if (e==a)=true then b else gq.aget (.i .i64) m e d)=_;simp only[zK]
theorem GK (a:Int) (b:Bool) (m:List (Int×Bool)) (k:Int) (v:Bool):Nf (.i .i64) ((a,b)::m) k v=if k=a then (k,v)::m else (a,b)::Nf (.i .i64) m k v:=by show (if (k==a)=true then (k,v)::m else (a,b)::Nf (.i .i64) m k v)=_;simp only[zK]
theorem Q28 {F:List Int}{k:Int}(h:k∉F):Nf (.i .i64) (F.map λx=>(x,true)) k true=(F++[k]).map λx=>(x,true):=by
 induction F with
 |nil=>rfl
 |cons a F ih =>have h1:k≠a:=λe=>h (by rw[e];exact zf);have h2:k∉F:=λe=>h (ze _ e);simp only[zE,zV];rw[GK,z0 h1,ih h2]
theorem Q59 {F:List Int}{k:Int}:gq.aget (.i .i64) (F.map λx=>(x,true)) k false=decide (k∈F):=by
 induction F with
 |nil=>rfl
 |cons a F ih =>
  simp only[zE];rw[WA,ih];by_cases e:k=a
  .simp[e]
  .simp[e]
def nmC (cs:List Ka) (i:Nat):Int:=(cs.getD i Vx).1
def woM (m:List (Int×Bool)) (p:Nat):Bool:=gq.aget (.i .i64) m (p:Int) false
def Qq (hk:Int) (cs:List Ka):Int:=if Qg hk cs≠0 then Qg hk cs else if (-1:Int)∈cs.map (·.1) then 9 else if (cs.map (·.1)).Nodup then 0 else 6
def Dv (hk:Int) (cs:List Ka):List Int:=if Qq hk cs=0 then mvK (nmC cs) cs.length cs.length else []
def J_ (hk:Int) (cs:List Ka):List Ka:=if Qq hk cs=0 then CJ cs else []
def Kz (hk:Int) (cs:List Ka):Int:=if Qq hk cs=0 then hk else 0
theorem Bo:∀ {m:List (Int×Bool)}{k:Int},(∀ p∈m,p.2=true)->gq.aget (.i .i64) m k false=true->(Nf (.i .i64) m k true).length=m.length/\∀ p∈Nf (.i .i64) m k true,p.2=true
 |[],k,_,h=>by cases h
 |(a,b)::m,k,ht,h=>by
  rw[WA] at h;rw[GK];by_cases e:k=a
  .rw[z3 e];exact⟨rfl,λp hp=>by
    rcases zj.1 hp with rfl|hp
    .rfl
    .exact ht p (ze _ hp)⟩
  .rw[z0 e] at h |-;obtain⟨h1,h2⟩:=Bo (m:=m) (k:=k) (λp hp=>ht p (ze _ hp)) h;refine⟨by rw[zT,zT,h1],λp hp=>?_⟩;rcases zj.1 hp with rfl|hp
   .exact ht _ (zf ..)
   .exact h2 p hp
theorem N1:∀ {m:List (Int×Bool)}{k:Int},(∀ p∈m,p.2=true)->gq.aget (.i .i64) m k false=false->(Nf (.i .i64) m k true).length=m.length+1/\∀ p∈Nf (.i .i64) m k true,p.2=true
 |[],k,_,h=>⟨rfl,λp hp=>by
   have hp:p∈[(k,true)]:=hp;rw[zd.1 hp]⟩
 |(a,b)::m,k,ht,h=>by
  rw[WA] at h;rw[GK];by_cases e:k=a
  .rw[z3 e] at h;have:=ht (a,b) (zf ..);rw[h] at this;cases this
  .rw[z0 e] at h |-;obtain⟨h1,h2⟩:=N1 (m:=m) (k:=k) (λp hp=>ht p (ze _ hp)) h;refine⟨by rw[zT,zT,h1],λp hp=>?_⟩;rcases zj.1 hp with rfl|hp
   .exact ht _ (zf ..)
   .exact h2 p hp
theorem Ay (k:Int) (v:Bool):∀ (m:List (Int×Bool)) (e:Int),gq.aget (.i .i64) (Nf (.i .i64) m k v) e false=if e=k then v else gq.aget (.i .i64) m e false
 |[],e=>by have:Nf (.i .i64) ([]:List (Int×Bool)) k v=[(k,v)]:=rfl;rw[this,WA]
 |(a,b)::m,e=>by
  rw[GK];by_cases h:k=a
  .subst h;rw[z3 rfl,WA,WA];split<;>rfl
  .rw[z0 h,WA,WA,Ay k v m e];by_cases h2:e=a
   .rw[z3 h2,z3 h2,z0 (λh3=>h (h3.symm.trans h2))]
   .rw[z0 h2,z0 h2]
structure SeenI (l:List Int) (m:List (Int×Bool)) (k:Nat):Prop where
 get:∀ x,gq.aget (.i .i64) m x false=decide (x∈l.take k)
 tr:∀ p∈m,p.2=true
 le:m.length<=k
 nd:m.length=k<->(l.take k).Nodup
theorem SeenI.nil (l:List Int):SeenI l [] 0:=⟨λx=>by simp[gq.aget],(λp hp=>by cases hp),z7 _,by simp⟩
theorem SeenI.put {l:List Int}{m:List (Int×Bool)}{k:Nat}(h:SeenI l m k) (hk:k<l.length):SeenI l (Nf (.i .i64) m (l.getD k 0) true) (k+1):=by
 have et:l.take (k+1)=l.take k++[l.getD k 0]:=by rw[WB hk,Qc hk]
 have hle:=h.le;refine⟨λx=>?_,?_,?_,?_⟩
 .rw[Ay,et];by_cases e:x=l.getD k 0
  .rw[z3 e,zX];rw[e];exact xA _ (zd.2 rfl)
  .rw[z0 e,h.get];refine decide_eq_decide.2 ⟨λhx=>xI _ hx,λhx=>?_⟩;rcases zz.1 hx with hx|hx
   .exact hx
   .exact(e (zd.1 hx)).elim
 .cases c:gq.aget (.i .i64) m (l.getD k 0) false with
  |true=>exact(Bo h.tr c).2
  |false=>exact(N1 h.tr c).2
 .cases c:gq.aget (.i .i64) m (l.getD k 0) false with
  |true=>rw[(Bo h.tr c).1];omega
  |false=>rw[(N1 h.tr c).1];omega
 .rw[et,List.nodup_append];have c1:=h.get (l.getD k 0);cases c:gq.aget (.i .i64) m (l.getD k 0) false with
  |true =>rw[c] at c1;rw[(Bo h.tr c).1];refine⟨λe=>by omega,λe=>?_⟩;exact(e.2.2 _ (zg c1.symm) _ (zd.2 rfl) rfl).elim
  |false =>
   rw[c] at c1;rw[(N1 h.tr c).1];have c2:=zm c1.symm;refine⟨λe=>⟨h.nd.1 (by omega),by simp,λa ha b hb e2=>?_⟩,λe=>?_⟩
   .rw[zd.1 hb] at e2;rw[e2] at ha;exact c2 ha
   .have:=h.nd.2 e.1;omega
theorem SeenI.full {l:List Int}{m:List (Int×Bool)}(h:SeenI l m l.length):gq.aget (.i .i64) m (-1) false=decide ((-1:Int)∈l)/\(decide ((m.length:Int)<(l.length:Int))=decide (¬ l.Nodup)):=by have h1:=h.get (-1);have h2:=h.nd;have h3:=h.le;rw[List.take_length] at h1 h2;refine⟨h1,decide_eq_decide.2 ?_⟩;rw[<-h2];omega
def JG (cs:List Ka):Int:=if (cs.any λc=>decide (c.1<0))=true then 9 else if (cs.map (·.1)).Nodup then 0 else 6
theorem Q1g {hk:Int}{cs:List Ka}(h:Qg hk cs=0):Qq hk cs=JG cs:=by
 have hz:=(KU h).2.2.2;unfold Qq JG;rw[z0 (by omega)];have e:((-1:Int)∈cs.map (·.1))<->(cs.any λc=>decide (c.1<0))=true:=by
  rw[xF];constructor
  .intro hm;obtain⟨c,hc,e⟩:=zo.1 hm;exact⟨c,hc,zX (by omega)⟩
  .rintro⟨c,hc,e⟩;have e:=zg e;have h1:=hz c hc;unfold QL inI at h1;simp only[z4,zn] at h1;exact zo.2 ⟨c,hc,by omega⟩
 by_cases c:(-1:Int)∈cs.map (·.1)
 .rw[z3 c,z3 (e.1 c)]
 .rw[z0 c,z0 (λh=>c (e.2 h))]
theorem Q1y (nm:Nat->Int) (wo:Nat->Bool) (n:Nat):0<=XU nm wo n n/\XU nm wo n n<=n/\∀ k,k<n->wo k=true->XU nm wo n n<n:=by
 obtain⟨kp,h1,_,h3⟩:=(T6 nm wo n).2;have hc:=G0 kp n;refine⟨by omega,by omega,λk hk hw=>?_⟩;have hf:kp k=false:=by
  cases h:kp k with
  |false=>rfl
  |true=>have:=(h1 k h).2;rw[hw] at this;cases this
 have hm:k∈kpL (λp=>!kp p) n:=YE.2 ⟨hk,by rw[hf];rfl⟩;have:=List.length_pos_of_mem hm;omega
theorem FI (nm:Nat->Int) (n:Nat):∀ k,(mvK nm n k).length<=k
 |0=>z7 _
 |k+1=>by
  have:=FI nm n k;unfold mvK;split
  .omega
  .split
   .omega
   .rw[zH];simp;omega
theorem IV (nm:Nat->Int) (n:Nat):∀ k,∀ x∈mvK nm n k,x<(k:Int)
 |0,x,h=>by cases h
 |k+1,x,h=>by
  unfold mvK at h;split at h
  .have:=IV nm n k x h;omega
  .split at h
   .have:=IV nm n k x h;omega
   .rcases zz.1 h with h|h
    .have:=IV nm n k x h;omega
    .rw[zd.1 h];omega
theorem IN {nm:Nat->Int}{n j:Nat}(h:((mvK nm n j).length:Int)+Uv nm n=n):∀ d,mvK nm n (j+d)=mvK nm n j
 |0=>rfl
 |d+1=>by have ih:=IN h d;show (if ((mvK nm n (j+d)).length:Int)+Uv nm n=n then mvK nm n (j+d) else _)=_;rw[ih,z3 h]
theorem Z08 (F:List Int):woM (F.map λx=>(x,true))=woL F:=by
 funext p
 unfold woM woL;exact Q59
theorem Q4m {F:List Int}{k:Int}(h:k∉F):Q5q (.i .i64) ((F++[k]).map λx=>(x,true)) k=F.map λx=>(x,true):=by
 have st:∀ (a:Int) (m:List (Int×Bool)),Q5q (.i .i64) ((a,true)::m) k=if k=a then m else (a,true)::Q5q (.i .i64) m k:=λa m=>by show (if (k==a)=true then m else (a,true)::Q5q (.i .i64) m k)=_;simp only[zK]
 induction F with
 |nil =>rw[xt,zE,st,z3 rfl]
 |cons a F ih =>have h1:k≠a:=λe=>h (by rw[e];exact zf);rw[zV,zE,st,z0 h1,ih λe=>h (ze _ e)];rfl
theorem I3 {nm:Nat->Int}{wo:Nat->Bool}{n a:Nat}(ha:a<n):∀ k,k<=n->(M1 nm wo n a k).length=n/\∀ p,(M1 nm wo n a k).getD p 0<=(k:Int)+1
 |0,_=>by
  refine⟨by simp[M1],λp=>?_⟩;show ((List.replicate n (0:Int)).set a 1).getD p 0<=_;rw[RI (by simpa using ha)];split
  .omega
  .by_cases hp:p<n
   .rw[Qc (by simpa using hp)];simp
   .rw[z6,zr (by simpa using hp)];simp
 |k+1,hk=>by
  obtain⟨h1,h2⟩:=I3 ha k (by omega) (nm:=nm) (wo:=wo);have dJ:arP n a k<(M1 nm wo n a k).length:=by rw[h1];exact Py (by omega) a k
  obtain⟨i1,i2,_,_,i5⟩:=T3 (nm:=nm) (wo:=wo) dJ n (by omega);have e:M1 nm wo n a (k+1)=inR nm wo (arP n a k) (M1 nm wo n a k) n:=rfl;rw[e];refine⟨i1.trans h1,λp=>?_⟩;by_cases hp:p=arP n a k
  .rw[hp];rcases i5 with i5|⟨b,_,_,_,_,i5⟩
   .rw[i5];have:=h2 (arP n a k);omega
   .rw[i5];have:=h2 b;omega
  .rw[i2 p hp];have:=h2 p;omega
theorem Z5t {nm:Nat->Int}{wo:Nat->Bool}{n a k m:Nat}(ha:a<n) (hk:k<n) (hm:m<=n):(inR nm wo (arP n a k) (M1 nm wo n a k) m).length=n/\∀ p,(inR nm wo (arP n a k) (M1 nm wo n a k) m).getD p 0<=(k:Int)+2:=by
 obtain⟨h1,h2⟩:=I3 ha k (by omega) (nm:=nm) (wo:=wo);have dJ:arP n a k<(M1 nm wo n a k).length:=by rw[h1];exact Py (by omega) a k
 obtain⟨i1,i2,_,_,i5⟩:=T3 (nm:=nm) (wo:=wo) dJ m (by omega);refine⟨i1.trans h1,λp=>?_⟩;by_cases hp:p=arP n a k
 .rw[hp];rcases i5 with i5|⟨b,_,_,_,_,i5⟩
  .rw[i5];have:=h2 (arP n a k);omega
  .rw[i5];have:=h2 b;omega
 .rw[i2 p hp];have:=h2 p;omega
theorem IQ {x h:Int}(hx:0<=x/\x<4611686018427387904) (h0:0<=h/\h<=62):((Qb .and .i64 (Zn .i64 x h) 1)==1)=x.toNat.testBit h.toNat:=by
 obtain⟨n,rfl⟩:=x4 hx.1;obtain⟨i,rfl⟩:=x4 h0.1;have:Nat.min i 64=i:=xX (by omega);have e1:Zn .i64 (n:Int) i=((n >>> i:Nat):Int):=by simp only[Zn,zh,IntKind.bits,this];rw[xu,Int.fdiv_eq_ediv_of_nonneg _ (Int.le_of_lt (Int.pow_pos (by omega)))];norm_cast
 have h1:n >>> i<=n:=by rw[xu];exact Nat.div_le_self _ _
 have e2:Qb .and .i64 ((n >>> i:Nat):Int) 1=(((n >>> i) &&& 1:Nat):Int):=by
  generalize n >>> i=y at *
  have e:(BitVec.ofInt 64 ((y:Nat):Int) &&& BitVec.ofInt 64 ((1:Nat):Int)).toNat=y &&& 1:=by
   rw[BitVec.toNat_and,BitVec.toNat_ofInt,BitVec.toNat_ofInt];congr 1
   .omega
  have hle:y &&& 1<=1:=Nat.and_le_right;show IntKind.wrap .i64 ((BitVec.ofInt 64 ((y:Nat):Int) &&& BitVec.ofInt 64 ((1:Nat):Int)).toNat:Int)=_;rw[e];generalize y &&& 1=c at *
  simp[IntKind.wrap,IntKind.bits,IntKind.signed];omega
 rw[e1,e2,zh,zh,Nat.testBit];rw[Bool.eq_iff_iff];simp only[zK,bne_iff_ne,ne_eq];rw[Nat.and_comm,Nat.one_and_eq_mod_two];omega
theorem Ir (kp:Nat->Bool) (k:Nat):kpL kp (k+1)=kpL kp k++if kp k=true then [k] else []:=by unfold kpL;rw[List.range_succ,List.filter_append];congr 1;cases h:kp k<;>simp[h]
theorem Q3g (kp:Nat->Bool) (k:Nat):(kpL kp k).length<=k:=by have:=List.length_filter_le kp (List.range k);rw[wj] at this;exact this
def Vp:AL ((Int×(List (Int×Int×Bool))×Int)×Int):=(.cons (.agg (.cons (.k (.i .i64)) (.cons (.k (.list (.pair (.i .i64) (.pair (.i .i64) .bo)))) (.one (.k (.i .i64)))))) (.one (.k (.i .i64))))
def DQ (m:List (Int×Bool)) (a:(Int×(List (Int×Int×Bool))×Int)×Int):Prop:=0<=a.2/\a.2<a.1.2.1.length/\a.1.2.1.length<=1000
def K_ (m:List (Int×Bool)) (a:(Int×(List (Int×Int×Bool))×Int)×Int):SV:=.val (.i .i64) (RR (nmC a.1.2.1) (woM m) a.1.2.1.length a.2.toNat a.1.2.1.length)
def Km (m:List (Int×Bool)) (a:(Int×(List (Int×Int×Bool))×Int)×Int) (m2:List (Int×Bool)):Prop:=m2=m
def YI:XSp:=OY Uq 2 (.i .i64) .bo (Z57 Vp DQ K_ Km)
def Xi (m:List (Int×Bool)) (hk:Int) (cs:List (Int×Int×Bool)) (f:Int) (fi:Int):Prop:=∀ vals:List Value,
 (0<=(lI cs))/\((lI cs)<=(lI cs))/\((lI cs)*8<=70368744177664)/\((lI cs)<=70368744177664)/\(0<=fi)/\(fi<(List.length (List.replicate (Int.toNat (lI cs)) (0:Int))))/\∀ w1:List Value,w1=w1/\∀ w2:LpD,∃ (e5:Int×(List (Int×Int×Bool))×Int×Int×Int×Int×(List (Int×Int×Bool))×Int×Int×(List (Int×Bool))×Int×(List (Int×Int×Bool))×Int×(List (Int×Int×Bool))×Int×Int×Int×(List (Int×Int×Bool))×Int×Int×LpD×(List Value)) (d50:Int×Int×(List Int)),((True/\True/\True/\(lI cs)=(pj4 e5).1/\(0:Int)=d50.1/\True)/\((hk=e5.1/\cs=e5.2.1/\f=e5.2.2.1/\(([]:List SV)=[]))/\(fi=e5.2.2.2.1/\(([]:List SV)=[]))/\((pj4 (X4 e5)).1=w2/\((hk=(pj4 e5).2.1/\cs=(pj4 e5).2.2.1/\f=(pj4 e5).2.2.2.1/\(([]:List SV)=[]))/\fi=(pj8 e5).1/\True/\True/\True/\True/\True/\True/\True/\True/\True/\True/\True/\cs=(pj4 (pj8 e5)).2.1/\(lI cs)=(pj4 (pj8 e5)).2.2.1/\True/\True/\fi=(pj4 (pj8 e5)).2.2.2.1/\True/\(hk=(X4 e5).1/\cs=(X4 e5).2.1/\f=(X4 e5).2.2.1/\(([]:List SV)=[]))/\fi=(X4 e5).2.2.2.1/\(((([]:List SV)=[]))/\(True/\True/\(([]:List SV)=[])))/\True/\True/\True/\True/\True/\True/\True/\True/\True/\True/\True/\True/\True/\True/\True/\True/\True/\True/\True/\True/\True/\True/\True/\True/\True/\True/\True/\True/\True/\True/\True/\True/\True/\True/\True/\True/\True/\True/\True/\True/\True/\True/\True/\True/\True/\True/\True/\True/\True/\True/\True/\(([]:List SV)=[])))/\(m=(pj8 e5).2.1)/\(hk=(pj8 e5).2.2.1/\cs=(pj8 e5).2.2.2.1/\f=(pj4 (pj8 e5)).1/\(([]:List SV)=[]))/\(True/\(([]:List SV)=[]))/\((0:Int)=d50.2.1/\(([]:List SV)=[]))/\(True/\(([]:List SV)=[]))/\((sT (List.replicate (Int.toNat (lI cs)) (0:Int)) fi (1:Int))=d50.2.2/\false=false)/\((pj4 (X4 e5)).2=vals/\(True/\(([]:List SV)=[])))/\True)) /\
 LoopP (λ(d5:Int×Int×(List Int)) (q5:(Int×Int×(List Int))->Prop) =>
  ((decide (d5.1<(pj4 e5).1))=true ->
   (e5.2.1≠[]/\e5.2.1.length<=1000/\-1000000<=e5.2.2.2.1/\e5.2.2.2.1<=1000000/\-1000000<=d5.1/\d5.1<=1000000)/\(pj4 (X4 e5)).1=w2/\∀ w6:List Value,∃ (e9:Int×Int×Int×LpD×Int×Int×Bool×Int×Int×Int×(List Value)) (d90:(List Int)×Int),((True/\True/\True/\True/\(Int.tmod (e5.2.2.2.1+d5.1) e5.2.1.length)=e9.2.1/\True/\(lI d5.2.2)=e9.2.2.1/\(0:Int)=d90.2/\True)/\(((pj8 e5).2.2.1=hk/\(pj8 e5).2.2.2.1=cs/\(pj4 (pj8 e5)).1=f/\(([]:List SV)=[]))/\(True/\(([]:List SV)=[]))/\((pj8 e5).2.1=m)/\(d5.2.1=e9.1/\(([]:List SV)=[]))/\(True/\(([]:List SV)=[]))/\(d5.2.2=d90.1/\false=false)/\(e9.2.2.2.1=(pj4 (X4 e5)).1/\(((pj4 e5).2.1=hk/\(pj4 e5).2.2.1=cs/\(pj4 e5).2.2.2.1=f/\(([]:List SV)=[]))/\(pj8 e5).1=fi/\True/\True/\True/\True/\True/\True/\True/\True/\True/\True/\True/\(pj4 (pj8 e5)).2.1=cs/\(pj4 (pj8 e5)).2.2.1=(lI cs)/\True/\True/\(pj4 (pj8 e5)).2.2.2.1=fi/\True/\((X4 e5).1=hk/\(X4 e5).2.1=cs/\(X4 e5).2.2.1=f/\(([]:List SV)=[]))/\(X4 e5).2.2.2.1=fi/\(((([]:List SV)=[]))/\(True/\True/\(([]:List SV)=[])))/\True/\True/\True/\True/\True/\True/\True/\True/\True/\True/\True/\True/\True/\True/\True/\True/\True/\True/\True/\True/\True/\True/\True/\True/\True/\True/\True/\True/\True/\True/\True/\True/\True/\True/\True/\True/\True/\True/\True/\True/\True/\True/\True/\True/\True/\True/\True/\True/\True/\True/\True/\(([]:List SV)=[])))/\(e5.1=hk/\e5.2.1=cs/\e5.2.2.1=f/\(([]:List SV)=[]))/\(e5.2.2.2.1=fi/\(([]:List SV)=[]))/\(vals=(pj4 (X4 e5)).2/\(True/\(([]:List SV)=[])))/\((pj8 e9).2.2=w6/\(True/\True/\True/\True/\d5.1=(pj4 e9).1/\True/\True/\True/\(pj4 e5).1=(lI cs)/\d5.1=(pj4 e9).2.1/\(decide (d5.1<(pj4 e5).1))=(pj4 e9).2.2.1/\d5.1=(pj4 e9).2.2.2.1/\True/\(e5.1=hk/\e5.2.1=cs/\e5.2.2.1=f/\(([]:List SV)=[]))/\e5.2.2.2.1=fi/\d5.1=(pj8 e9).1/\(Int.tmod (e5.2.2.2.1+d5.1) e5.2.1.length)=(pj8 e9).2.1/\True/\True/\True/\(([]:List SV)=[])))/\True)) /\
   LoopP (λ(d9:(List Int)×Int) (q9:((List Int)×Int)->Prop) =>
    ((decide (d9.2<e9.2.2.1))=true ->
     (0<=d9.2)/\(d9.2<(List.length d9.1))/\(((decide ((gD d9.1 d9.2 0) > (0:Int)))&&(!(gq.aget (.i .i64) m e9.2.1 false)))=true->0<=e9.2.1)/\(((decide ((gD d9.1 d9.2 0) > (0:Int)))&&(!(gq.aget (.i .i64) m e9.2.1 false)))=true->e9.2.1<(List.length cs))/\(((decide ((gD d9.1 d9.2 0) > (0:Int)))&&(!(gq.aget (.i .i64) m e9.2.1 false)))=true->0<=d9.2)/\(((decide ((gD d9.1 d9.2 0) > (0:Int)))&&(!(gq.aget (.i .i64) m e9.2.1 false)))=true->d9.2<(List.length cs))/\((((decide ((gD d9.1 d9.2 0) > (0:Int)))&&(!(gq.aget (.i .i64) m e9.2.1 false)))&&(decide ((gD cs e9.2.1 (0,(0,false))).1 > (gD cs d9.2 (0,(0,false))).1)))=true ->
      (0<=e9.2.1)/\(e9.2.1<(List.length d9.1))/\(I64 ((gD d9.1 d9.2 0)+(1:Int)))/\(0<=e9.2.1)/\(e9.2.1<(List.length d9.1))/\(I64 (d9.2+(1:Int)))/\(∃ d10:(List Int)×Int,((True/\True/\True/\True/\e9.2.1=e9.2.1/\True/\e9.2.2.1=e9.2.2.1/\(d9.2+(1:Int))=d10.2/\True)/\((hk=hk/\cs=cs/\f=f/\(([]:List SV)=[]))/\(True/\(([]:List SV)=[]))/\(m=m)/\(e9.1=e9.1/\(([]:List SV)=[]))/\(True/\(([]:List SV)=[]))/\((sT d9.1 e9.2.1 (Tb (gD d9.1 e9.2.1 0) ((gD d9.1 d9.2 0)+(1:Int))))=d10.1/\false=false)/\(e9.2.2.2.1=e9.2.2.2.1/\((hk=hk/\cs=cs/\f=f/\(([]:List SV)=[]))/\fi=fi/\True/\True/\True/\True/\True/\True/\True/\True/\True/\True/\True/\cs=cs/\(lI cs)=(lI cs)/\True/\True/\fi=fi/\True/\(hk=hk/\cs=cs/\f=f/\(([]:List SV)=[]))/\fi=fi/\(((([]:List SV)=[]))/\(True/\True/\(([]:List SV)=[])))/\True/\True/\True/\True/\True/\True/\True/\True/\True/\True/\True/\True/\True/\True/\True/\True/\True/\True/\True/\True/\True/\True/\True/\True/\True/\True/\True/\True/\True/\True/\True/\True/\True/\True/\True/\True/\True/\True/\True/\True/\True/\True/\True/\True/\True/\True/\True/\True/\True/\True/\True/\(([]:List SV)=[])))/\(hk=hk/\cs=cs/\f=f/\(([]:List SV)=[]))/\(fi=fi/\(([]:List SV)=[]))/\(vals=vals/\(True/\(([]:List SV)=[])))/\((pj8 e9).2.2=(pj8 e9).2.2/\(True/\True/\True/\True/\(pj4 e9).1=(pj4 e9).1/\True/\True/\True/\(lI cs)=(lI cs)/\(pj4 e9).2.1=(pj4 e9).2.1/\(pj4 e9).2.2.1=(pj4 e9).2.2.1/\(pj4 e9).2.2.2.1=(pj4 e9).2.2.2.1/\True/\(hk=hk/\cs=cs/\f=f/\(([]:List SV)=[]))/\fi=fi/\(pj8 e9).1=(pj8 e9).1/\(pj8 e9).2.1=(pj8 e9).2.1/\True/\True/\True/\(([]:List SV)=[])))/\True))/\q9 d10)) /\
     ((((decide ((gD d9.1 d9.2 0) > (0:Int)))&&(!(gq.aget (.i .i64) m e9.2.1 false)))&&(decide ((gD cs e9.2.1 (0,(0,false))).1 > (gD cs d9.2 (0,(0,false))).1)))=false ->
      (I64 (d9.2+(1:Int)))/\(∃ d11:(List Int)×Int,((True/\True/\True/\True/\e9.2.1=e9.2.1/\True/\e9.2.2.1=e9.2.2.1/\(d9.2+(1:Int))=d11.2/\True)/\((hk=hk/\cs=cs/\f=f/\(([]:List SV)=[]))/\(True/\(([]:List SV)=[]))/\(m=m)/\(e9.1=e9.1/\(([]:List SV)=[]))/\(True/\(([]:List SV)=[]))/\(d9.1=d11.1/\false=false)/\(e9.2.2.2.1=e9.2.2.2.1/\((hk=hk/\cs=cs/\f=f/\(([]:List SV)=[]))/\fi=fi/\True/\True/\True/\True/\True/\True/\True/\True/\True/\True/\True/\cs=cs/\(lI cs)=(lI cs)/\True/\True/\fi=fi/\True/\(hk=hk/\cs=cs/\f=f/\(([]:List SV)=[]))/\fi=fi/\(((([]:List SV)=[]))/\(True/\True/\(([]:List SV)=[])))/\True/\True/\True/\True/\True/\True/\True/\True/\True/\True/\True/\True/\True/\True/\True/\True/\True/\True/\True/\True/\True/\True/\True/\True/\True/\True/\True/\True/\True/\True/\True/\True/\True/\True/\True/\True/\True/\True/\True/\True/\True/\True/\True/\True/\True/\True/\True/\True/\True/\True/\True/\(([]:List SV)=[])))/\(hk=hk/\cs=cs/\f=f/\(([]:List SV)=[]))/\(fi=fi/\(([]:List SV)=[]))/\(vals=vals/\(True/\(([]:List SV)=[])))/\((pj8 e9).2.2=(pj8 e9).2.2/\(True/\True/\True/\True/\(pj4 e9).1=(pj4 e9).1/\True/\True/\True/\(lI cs)=(lI cs)/\(pj4 e9).2.1=(pj4 e9).2.1/\(pj4 e9).2.2.1=(pj4 e9).2.2.1/\(pj4 e9).2.2.2.1=(pj4 e9).2.2.2.1/\True/\(hk=hk/\cs=cs/\f=f/\(([]:List SV)=[]))/\fi=fi/\(pj8 e9).1=(pj8 e9).1/\(pj8 e9).2.1=(pj8 e9).2.1/\True/\True/\True/\(([]:List SV)=[])))/\True))/\q9 d11))) /\
    ((decide (d9.2<e9.2.2.1))=false ->
     (0<=e9.2.1)/\(e9.2.1<(List.length d9.1))/\(pj8 e9).2.2=w6/\e9.2.2.2.1=w2/\((!true)=true ->
      e9.2.2.2.1=w2/\(vals=vals/\(True/\(([]:List SV)=[]))/\(Tb e9.1 (gD d9.1 e9.2.1 0))=(RR (nmC cs) (woM m) cs.length fi.toNat cs.length)/\(m=m))) /\
     ((!true)=false ->
      (I64 ((pj4 e9).2.1+(1:Int)))/\(∃ d12:Int×Int×(List Int),((True/\True/\True/\(lI cs)=(pj4 e5).1/\((pj4 e9).2.1+(1:Int))=d12.1/\True)/\((hk=e5.1/\cs=e5.2.1/\f=e5.2.2.1/\(([]:List SV)=[]))/\(fi=e5.2.2.2.1/\(([]:List SV)=[]))/\((pj4 (X4 e5)).1=e9.2.2.2.1/\((hk=(pj4 e5).2.1/\cs=(pj4 e5).2.2.1/\f=(pj4 e5).2.2.2.1/\(([]:List SV)=[]))/\fi=(pj8 e5).1/\True/\True/\True/\True/\True/\True/\True/\True/\True/\True/\True/\cs=(pj4 (pj8 e5)).2.1/\(lI cs)=(pj4 (pj8 e5)).2.2.1/\True/\True/\fi=(pj4 (pj8 e5)).2.2.2.1/\True/\(hk=(X4 e5).1/\cs=(X4 e5).2.1/\f=(X4 e5).2.2.1/\(([]:List SV)=[]))/\fi=(X4 e5).2.2.2.1/\(((([]:List SV)=[]))/\(True/\True/\(([]:List SV)=[])))/\True/\True/\True/\True/\True/\True/\True/\True/\True/\True/\True/\True/\True/\True/\True/\True/\True/\True/\True/\True/\True/\True/\True/\True/\True/\True/\True/\True/\True/\True/\True/\True/\True/\True/\True/\True/\True/\True/\True/\True/\True/\True/\True/\True/\True/\True/\True/\True/\True/\True/\True/\(([]:List SV)=[])))/\(m=(pj8 e5).2.1)/\(hk=(pj8 e5).2.2.1/\cs=(pj8 e5).2.2.2.1/\f=(pj4 (pj8 e5)).1/\(([]:List SV)=[]))/\(True/\(([]:List SV)=[]))/\((Tb e9.1 (gD d9.1 e9.2.1 0))=d12.2.1/\(([]:List SV)=[]))/\(True/\(([]:List SV)=[]))/\(d9.1=d12.2.2/\false=false)/\((pj4 (X4 e5)).2=vals/\(True/\(([]:List SV)=[])))/\True))/\q5 d12)))) d90) /\
  ((decide (d5.1<(pj4 e5).1))=false ->
   (pj4 (X4 e5)).1=w2/\((pj4 (X4 e5)).2=vals/\(True/\(([]:List SV)=[]))/\d5.2.1=(RR (nmC cs) (woM m) cs.length fi.toNat cs.length)/\((pj8 e5).2.1=m)))) d50
def ZJ:Cx:=⟨[],[],6,[],0,[],[],[],[],false,[],[],[],[]⟩
def ZK:List (Nat×LoopAnn):=[]
def Zz:Cx:=⟨[],[(78,Xg)],20,[],0,[],[],[],[],false,[],[],[],[]⟩
def ZB:List (Nat×LoopAnn):=[(0,⟨Int×(List (Int×Int×Bool))×Int×Int×Int×Int×(List (Int×Int×Bool))×Int×Int×(List (Int×Bool))×Int×(List (Int×Int×Bool))×Int×(List (Int×Int×Bool))×Int×Int×Int×(List (Int×Int×Bool))×Int×Int×LpD×(List Value),Int×Int×(List Int),[0,1,2,8,9],λe x=>[.dd 2000000 .yv,.box 2200002 0,.box 2200003 0,.val (.i .i64) e.2.2.2.2.1,.val (.i .i64) x.1],λe x=>[(2200002,.slot 1,.cells [.val (.i .i64) e.1,.val (.list (.pair (.i .i64) (.pair (.i .i64) .bo))) e.2.1,.val (.i .i64) e.2.2.1] (some 119)),(2200003,.slot 2,.cells [.val (.i .i64) e.2.2.2.1] (some 3)),(2000000,.key 2000000,.lpf [.agg [.val (.i .i64) e.2.2.2.2.2.1,.val (.list (.pair (.i .i64) (.pair (.i .i64) .bo))) e.2.2.2.2.2.2.1,.val (.i .i64) e.2.2.2.2.2.2.2.1],.val (.i .i64) e.2.2.2.2.2.2.2.2.1,.map 0,.box 3 0,.any,.box 5 0,.box 6 0,.box 7 0,.any,.any,.any,.box 3 0,.box 3 1,.val (.list (.pair (.i .i64) (.pair (.i .i64) .bo))) e.2.2.2.2.2.2.2.2.2.2.2.2.2.1,.val (.i .i64) e.2.2.2.2.2.2.2.2.2.2.2.2.2.2.1,.lst 15,.lst 15,.val (.i .i64) e.2.2.2.2.2.2.2.2.2.2.2.2.2.2.2.1,.any,.agg [.val (.i .i64) e.2.2.2.2.2.2.2.2.2.2.2.2.2.2.2.2.1,.val (.list (.pair (.i .i64) (.pair (.i .i64) .bo))) e.2.2.2.2.2.2.2.2.2.2.2.2.2.2.2.2.2.1,.val (.i .i64) e.2.2.2.2.2.2.2.2.2.2.2.2.2.2.2.2.2.2.1],.val (.i .i64) e.2.2.2.2.2.2.2.2.2.2.2.2.2.2.2.2.2.2.2.1,.fn 154 [] [.box 2200002 0,.box 2200003 0],.any,.any,.any,.any,.any,.any,.any,.any,.any,.any,.any,.any,.any,.any,.any,.any,.any,.any,.any,.any,.any,.any,.any,.any,.any,.any,.any,.any,.any,.any,.any,.any,.any,.any,.any,.any,.any,.any,.any,.any,.any,.any,.any,.any,.any,.any,.any,.any,.any,.any,.any] e.2.2.2.2.2.2.2.2.2.2.2.2.2.2.2.2.2.2.2.2.1 .rdy),(0,.key 0,.map (.i .i64) .bo e.2.2.2.2.2.2.2.2.2.1),(3,.key 3,.cells [.val (.i .i64) e.2.2.2.2.2.2.2.2.2.2.1,.val (.list (.pair (.i .i64) (.pair (.i .i64) .bo))) e.2.2.2.2.2.2.2.2.2.2.2.1,.val (.i .i64) e.2.2.2.2.2.2.2.2.2.2.2.2.1] (some 119)),(5,.key 5,.cells [.map 0] (some 122)),(6,.key 6,.cells [.val (.i .i64) x.2.1] (some 3)),(7,.key 7,.cells [.lst 15] (some 27)),(15,.cell 7 0,.lst 3 (.i .i64) x.2.2 false),(4000000,.key 4000000,.stk [.map 0] e.2.2.2.2.2.2.2.2.2.2.2.2.2.2.2.2.2.2.2.2.2)]⟩)]
def VJ:Cx:=⟨[(3,(.i .i64))],[],73,[],0,[(138,IF ZJ (λ_=>ZK) Z6c [.tmp 4] 6)],[],[],[],false,[],[(154,Z7f Zz ZB Z66 20)],[],[]⟩
def VK (m:List (Int×Bool)) (hk:Int) (cs:List (Int×Int×Bool)) (f:Int) (fi:Int) (vals:List Value):List (Nat×LoopAnn):=[(2,⟨Int×Int×Int×LpD×Int×Int×Bool×Int×Int×Int×(List Value),(List Int)×Int,[3,5,6,7,8,23,24,25],λe x=>[.box 3 0,.box 5 0,.box 6 0,.box 7 0,.val (.i .i64) e.2.1,.lst 15,.val (.i .i64) e.2.2.1,.val (.i .i64) x.2],λe x=>[(3,.slot 3,.cells [.val (.i .i64) hk,.val (.list (.pair (.i .i64) (.pair (.i .i64) .bo))) cs,.val (.i .i64) f] (some 119)),(5,.slot 5,.cells [.map 0] (some 122)),(0,.cell 5 0,.map (.i .i64) .bo m),(6,.slot 6,.cells [.val (.i .i64) e.1] (some 3)),(7,.slot 7,.cells [.lst 15] (some 27)),(15,.cell 7 0,.lst 3 (.i .i64) x.1 false),(2000000,.key 2000000,.lpf [.agg [.val (.i .i64) hk,.val (.list (.pair (.i .i64) (.pair (.i .i64) .bo))) cs,.val (.i .i64) f],.val (.i .i64) fi,.map 0,.box 3 0,.any,.box 5 0,.box 6 0,.box 7 0,.any,.any,.any,.box 3 0,.box 3 1,.val (.list (.pair (.i .i64) (.pair (.i .i64) .bo))) cs,.val (.i .i64) (((List.length cs):Nat):Int),.lst 15,.lst 15,.val (.i .i64) fi,.any,.agg [.val (.i .i64) hk,.val (.list (.pair (.i .i64) (.pair (.i .i64) .bo))) cs,.val (.i .i64) f],.val (.i .i64) fi,.fn 154 [] [.box 2200002 0,.box 2200003 0],.any,.any,.any,.any,.any,.any,.any,.any,.any,.any,.any,.any,.any,.any,.any,.any,.any,.any,.any,.any,.any,.any,.any,.any,.any,.any,.any,.any,.any,.any,.any,.any,.any,.any,.any,.any,.any,.any,.any,.any,.any,.any,.any,.any,.any,.any,.any,.any,.any,.any,.any] e.2.2.2.1 .busy),(2200002,.key 2200002,.cells [.val (.i .i64) hk,.val (.list (.pair (.i .i64) (.pair (.i .i64) .bo))) cs,.val (.i .i64) f] (some 119)),(2200003,.key 2200003,.cells [.val (.i .i64) fi] (some 3)),(4000000,.key 4000000,.stk [.map 0] vals),(200000099999,.key 200000099999,.stk [.dd 2000000 .yv,.box 2200002 0,.box 2200003 0,.any,.val (.i .i64) e.2.2.2.2.1,.any,.any,.any,.val (.i .i64) (((List.length cs):Nat):Int),.val (.i .i64) e.2.2.2.2.2.1,.val .bo e.2.2.2.2.2.2.1,.val (.i .i64) e.2.2.2.2.2.2.2.1,.dd 2000000 .yv,.agg [.val (.i .i64) hk,.val (.list (.pair (.i .i64) (.pair (.i .i64) .bo))) cs,.val (.i .i64) f],.val (.i .i64) fi,.val (.i .i64) e.2.2.2.2.2.2.2.2.1,.val (.i .i64) e.2.2.2.2.2.2.2.2.2.1,.any,.any,.any] e.2.2.2.2.2.2.2.2.2.2)]⟩)]
theorem BZ (m:List (Int×Bool)) (a:(Int×(List (Int×Int×Bool))×Int)×Int):(∀ vals,gwp VJ (VK m a.1.1 a.1.2.1 a.1.2.2 a.2 vals) Z62 0 (Q4j vals [.cell 6 false 1] (K_ m a) (.i .i64) .bo (Km m a)) (MB 73 2 (.i .i64) .bo m vals (AL.can Vp a)))=Xi m a.1.1 a.1.2.1 a.1.2.2 a.2:=by kernel_rfl
abbrev Hm:Prop:=XOk Tryz.prog 107 YI
theorem H8 (h:∀ (m:List (Int×Bool)) (hk:Int) (cs:List (Int×Int×Bool)) (f:Int) (fi:Int),(0<=fi/\fi<cs.length/\cs.length<=1000)->Xi m hk cs f fi):XOk Tryz.prog 107 YI :=
 Ag Q4i mixed X_ rfl (C:=VJ) ⟨.nil,(XsOk.cons (Yy Q3b mixed (C:=ZJ) ⟨.nil,XsOk.nil,ItsOk.nil,YlOk.nil,IysOk.nil,XfOk.nil⟩ (λ_=>ZK)) XsOk.nil),ItsOk.nil,YlOk.nil,(IysOk.cons (I6 Q4r mixed (C:=Zz) ⟨(.cons Vq .nil),XsOk.nil,ItsOk.nil,YlOk.nil,IysOk.nil,XfOk.nil⟩ ZB) IysOk.nil),XfOk.nil⟩ (L:=λm (a:(Int×(List (Int×Int×Bool))×Int)×Int) vals=>VK m a.1.1 a.1.2.1 a.1.2.2 a.2 vals) (V:=λm (a:(Int×(List (Int×Int×Bool))×Int)×Int)=>Xi m a.1.1 a.1.2.1 a.1.2.2 a.2) BZ λm a hp=>h m a.1.1 a.1.2.1 a.1.2.2 a.2 hp
set_option maxHeartbeats 1000000 in
theorem Bh:Hm:=H8 λm hk cs f fi h=>by
 obtain⟨h1,h2,h3⟩:=h;unfold Xi;(try delta lI gD sT I64 X4 pj8 pj4);intro vals;obtain⟨a,rfl⟩:=x4 h1;have ha:a<cs.length:=by omega
 have sq:0<cs.length:=by omega
 have aw:cs≠[]:=xP.1 sq;repeat (first|(refine And.intro (by first|omega|(simp;omega)|rfl|trivial) ?_))
 intro w1;repeat (first|refine⟨trivial,?_⟩|refine⟨rfl,?_⟩)
 intro w2;refine⟨(hk,cs,f,(a:Int),(cs.length:Int),hk,cs,f,(a:Int),m,hk,cs,f,cs,(cs.length:Int),(a:Int),hk,cs,f,(a:Int),w2,vals),(0,0,(List.replicate cs.length 0).set a 1),by and_intros<;>first|rfl|trivial,?_⟩;refine⟨λd=>∃ k:Nat,k<=cs.length/\d=((k:Int),RR (nmC cs) (woM m) cs.length a k,M1 (nmC cs) (woM m) cs.length a k),λd=>cs.length-d.1.toNat,⟨0,by omega,rfl⟩,?_⟩;rintro _ ⟨k,bc,rfl⟩;dsimp only;refine⟨λc=>?_,λc=>?_⟩
 .have af:k<cs.length:=by have:=zg c;omega
  have uX:Int.tmod ((a:Int)+(k:Int)) (cs.length:Int)=((arP cs.length a k:Nat):Int):=by rw[Int.tmod_eq_emod_of_nonneg (by omega)];rfl
  have dJ:=Py sq a k;have df:=(I3 ha k bc (nm:=nmC cs) (wo:=woM m)).1;rw[uX];refine⟨⟨aw,h3,by omega,by omega,by omega,by omega⟩,?_⟩;repeat (first|refine⟨trivial,?_⟩|refine⟨rfl,?_⟩)
  intro w6;generalize hA:arP cs.length a k=A at *
  refine⟨(RR (nmC cs) (woM m) cs.length a k,(A:Int),((M1 (nmC cs) (woM m) cs.length a k).length:Int),w2,(k:Int),(k:Int),true,(k:Int),(k:Int),(A:Int),w6),(M1 (nmC cs) (woM m) cs.length a k,0),?_,?_⟩
  .and_intros<;>first|rfl|trivial|exact c
  refine⟨λd=>∃ b:Nat,b<=cs.length/\d=(inR (nmC cs) (woM m) A (M1 (nmC cs) (woM m) cs.length a k) b,(b:Int)),λd=>cs.length-d.2.toNat,⟨0,by omega,rfl⟩,?_⟩;rintro _ ⟨b,bk,rfl⟩;dsimp only;obtain⟨il,ib⟩:=Z5t (nm:=nmC cs) (wo:=woM m) (m:=b) ha af bk;rw[hA] at il ib;refine⟨λc2=>?_,λc2=>?_⟩
  .have oM:b<cs.length:=by have:=zg c2;omega
   have pF:=Io (nm:=nmC cs) (wo:=woM m) (at_:=A) (r:=M1 (nmC cs) (woM m) cs.length a k) (m:=b);generalize inR (nmC cs) (woM m) A (M1 (nmC cs) (woM m) cs.length a k) b=r at *
   have nc:=ib b;simp only[zh];have ak:(((decide (r.getD b 0 > 0)&&!(gq.aget (.i .i64) m (A:Int) false))&&decide ((cs.getD A (0,(0,false))).1 > (cs.getD b (0,(0,false))).1))=true)<->(0<r.getD b 0/\woM m A=false/\nmC cs b<nmC cs A):=by
    simp only[z4,zn,Bool.not_eq_true',gt_iff_lt];unfold woM nmC Vx;constructor
    .rintro⟨⟨p,q⟩,s⟩;exact⟨p,q,s⟩
    .rintro⟨p,q,s⟩;exact⟨⟨p,q⟩,s⟩
   repeat (first|(refine And.intro (by first|omega|rfl|trivial|(intro _;omega)) ?_))
   refine⟨λc3=>?_,λc3=>?_⟩
   .have c4:=ak.1 c3;rw[z3 c4] at pF;repeat (first|(refine And.intro (by first|omega|(rw[Qd];omega)|rfl|trivial) ?_))
    refine⟨(r.set A (Tb (r.getD A 0) (r.getD b 0+1)),(b:Int)+1),by and_intros<;>first|rfl|trivial,⟨b+1,oM,by rw[pF];rfl⟩,by dsimp only;omega⟩
   .have c4:¬ (0<r.getD b 0/\woM m A=false/\nmC cs b<nmC cs A):=λc4=>by
     rw[ak.2 c4] at c3;cases c3
    rw[z0 c4] at pF;repeat (first|(refine And.intro (by first|omega|(rw[Qd];omega)|rfl|trivial) ?_))
    refine⟨(r,(b:Int)+1),by and_intros<;>first|rfl|trivial,⟨b+1,oM,by rw[pF];rfl⟩,by dsimp only;omega⟩
  .have bt:b=cs.length:=by have:=zm c2;omega
   subst bt;have er:inR (nmC cs) (woM m) A (M1 (nmC cs) (woM m) cs.length a k) cs.length=M1 (nmC cs) (woM m) cs.length a (k+1):=by rw[<-hA];rfl
   have em:RR (nmC cs) (woM m) cs.length a (k+1)=Tb (RR (nmC cs) (woM m) cs.length a k) ((M1 (nmC cs) (woM m) cs.length a (k+1)).getD A 0):=by rw[<-hA];rfl
   simp only[zh];rw[er] at il |-;rw[<-em];repeat (first|(refine And.intro (by first|omega|rfl|trivial) ?_))
   refine⟨λc3=>by simp at c3,λ_=>?_⟩;refine⟨by rw[Qd];omega,((k:Int)+1,RR (nmC cs) (woM m) cs.length a (k+1),M1 (nmC cs) (woM m) cs.length a (k+1)),by and_intros<;>first|rfl|trivial,⟨k+1,af,rfl⟩,by dsimp only;omega⟩
 .have al:k=cs.length:=by have:=zm c;omega
  subst al;rw[zh];and_intros<;>first|rfl|trivial
def Vs:AL (Int×(List (Int×Int×Bool))×Int):=(.one (.agg (.cons (.k (.i .i64)) (.cons (.k (.list (.pair (.i .i64) (.pair (.i .i64) .bo)))) (.one (.k (.i .i64)))))))
def DB (m:List (Int×Bool)) (a:Int×(List (Int×Int×Bool))×Int):Prop:=a.2.1.length<=1000
def V4 (m:List (Int×Bool)) (a:Int×(List (Int×Int×Bool))×Int):SV:=.val (.i .i64) (XU (nmC a.2.1) (woM m) a.2.1.length a.2.1.length)
def Kp (m:List (Int×Bool)) (a:Int×(List (Int×Int×Bool))×Int) (m2:List (Int×Bool)):Prop:=m2=m
def YF:XSp:=OY Uq 1 (.i .i64) .bo (Z57 Vs DB V4 Kp)
def Xo (m:List (Int×Bool)) (hk:Int) (cs:List (Int×Int×Bool)) (f:Int):Prop:=∀ vals:List Value,
 ∃ (e3:Unit) (d30:(List (Int×Bool))×Int×Int),((True/\True/\(0:Int)=d30.2.1/\(lI cs)=(lI cs)/\(0:Int)=d30.2.2/\True)/\((m=d30.1)/\(hk=hk/\cs=cs/\f=f/\(([]:List SV)=[]))/\(vals=vals/\(True/\(([]:List SV)=[])))/\True)) /\
 LoopP (λ(d3:(List (Int×Bool))×Int×Int) (q3:((List (Int×Bool))×Int×Int)->Prop) =>
  ((decide (d3.2.2<(lI cs)))=true ->
   ((!(gq.aget (.i .i64) d3.1 d3.2.2 false))=true ->
    (0<=d3.2.2/\d3.2.2<cs.length/\cs.length<=1000)/\(∀ m4:List (Int×Bool),(m4=d3.1)->(I64 (d3.2.2+(1:Int)))/\(∃ d5:(List (Int×Bool))×Int×Int,((True/\True/\(Tb d3.2.1 (RR (nmC cs) (woM d3.1) cs.length d3.2.2.toNat cs.length))=d5.2.1/\(lI cs)=(lI cs)/\(d3.2.2+(1:Int))=d5.2.2/\True)/\((m4=d5.1)/\(hk=hk/\cs=cs/\f=f/\(([]:List SV)=[]))/\(vals=vals/\(True/\(([]:List SV)=[])))/\True))/\q3 d5))) /\
   ((!(gq.aget (.i .i64) d3.1 d3.2.2 false))=false ->
    (I64 (d3.2.2+(1:Int)))/\(∃ d6:(List (Int×Bool))×Int×Int,((True/\True/\d3.2.1=d6.2.1/\(lI cs)=(lI cs)/\(d3.2.2+(1:Int))=d6.2.2/\True)/\((d3.1=d6.1)/\(hk=hk/\cs=cs/\f=f/\(([]:List SV)=[]))/\(vals=vals/\(True/\(([]:List SV)=[])))/\True))/\q3 d6))) /\
  ((decide (d3.2.2<(lI cs)))=false ->
   (vals=vals/\(True/\(([]:List SV)=[]))/\d3.2.1=(XU (nmC cs) (woM m) cs.length cs.length)/\(d3.1=m)))) d30
def VR:Cx:=⟨[],[],25,[],0,[(107,YI)],[],[],[],false,[],[],[],[]⟩
def VY (m:List (Int×Bool)) (hk:Int) (cs:List (Int×Int×Bool)) (f:Int) (vals:List Value):List (Nat×LoopAnn):=[(0,⟨Unit,(List (Int×Bool))×Int×Int,[1,2,4,9,10],λe x=>[.map 0,.box 2 0,.val (.i .i64) x.2.1,.val (.i .i64) (((List.length cs):Nat):Int),.val (.i .i64) x.2.2],λe x=>[(0,.slot 1,.map (.i .i64) .bo x.1),(2,.slot 2,.cells [.val (.i .i64) hk,.val (.list (.pair (.i .i64) (.pair (.i .i64) .bo))) cs,.val (.i .i64) f] (some 119)),(4000000,.key 4000000,.stk [.map 0] vals)]⟩)]
theorem Bq (m:List (Int×Bool)) (a:Int×(List (Int×Int×Bool))×Int):(∀ vals,gwp VR (VY m a.1 a.2.1 a.2.2 vals) c63 0 (Q4j vals [.tmp 4] (V4 m a) (.i .i64) .bo (Kp m a)) (MB 25 1 (.i .i64) .bo m vals (AL.can Vs a)))=Xo m a.1 a.2.1 a.2.2:=by kernel_rfl
abbrev Ht:Prop:=XOk Tryz.prog 63 YF
theorem Bs (h:∀ (m:List (Int×Bool)) (hk:Int) (cs:List (Int×Int×Bool)) (f:Int),(cs.length<=1000)->Xo m hk cs f):XOk Tryz.prog 63 YF :=
 Ag Z0r mixed X_ rfl (C:=VR) ⟨.nil,(XsOk.cons Bh XsOk.nil),ItsOk.nil,YlOk.nil,IysOk.nil,XfOk.nil⟩ (L:=λm (a:Int×(List (Int×Int×Bool))×Int) vals=>VY m a.1 a.2.1 a.2.2 vals) (V:=λm (a:Int×(List (Int×Int×Bool))×Int)=>Xo m a.1 a.2.1 a.2.2) Bq λm a hp=>h m a.1 a.2.1 a.2.2 hp
theorem Bf:Ht:=Bs λm hk cs f h=>by
 unfold Xo;(try delta lI gD sT I64 X4 pj8 pj4);intro vals;refine⟨(),(m,0,0),by and_intros<;>first|rfl|trivial,?_⟩;refine⟨λd=>∃ k:Nat,k<=cs.length/\d=(m,XU (nmC cs) (woM m) cs.length k,(k:Int)),λd=>cs.length-d.2.2.toNat,⟨0,by omega,rfl⟩,?_⟩;rintro _ ⟨k,bc,rfl⟩;dsimp only;refine⟨λc=>?_,λc=>?_⟩
 .have af:k<cs.length:=by have:=zg c;omega
  refine⟨λc2=>?_,λc2=>?_⟩
  .have hw:woM m k=false:=by
    show gq.aget (.i .i64) m (k:Int) false=false;simpa using c2
   refine⟨⟨by omega,by omega,h⟩,λm4 hm=>?_⟩;subst hm;have e:XU (nmC cs) (woM m4) cs.length (k+1)=Tb (XU (nmC cs) (woM m4) cs.length k) (RR (nmC cs) (woM m4) cs.length k cs.length):=by show (if woM m4 k=true then _ else _)=_;rw[hw,z0 (by decide)]
   refine⟨by rw[Qd];omega,(m4,XU (nmC cs) (woM m4) cs.length (k+1),(k:Int)+1),?_,⟨k+1,af,rfl⟩,by dsimp only;omega⟩;rw[zh,e];and_intros<;>first|rfl|trivial
  .have hw:woM m k=true:=by
    show gq.aget (.i .i64) m (k:Int) false=true;simpa using c2
   have e:XU (nmC cs) (woM m) cs.length (k+1)=XU (nmC cs) (woM m) cs.length k:=by show (if woM m k=true then _ else _)=_;rw[z3 hw]
   refine⟨by rw[Qd];omega,(m,XU (nmC cs) (woM m) cs.length (k+1),(k:Int)+1),?_,⟨k+1,af,rfl⟩,by dsimp only;omega⟩;rw[e];and_intros<;>first|rfl|trivial
 .have al:k=cs.length:=by have:=zm c;omega
  subst al;and_intros<;>first|rfl|trivial
def Dk:AL (Int×List (Int×Int×Bool)):=(.one (.agg (.cons (.k (.i .i64)) (.one (.k (.list (.pair (.i .i64) (.pair (.i .i64) .bo))))))))
def Rs (d:Int×List (Int×Int×Bool)):Prop:=d.2.length<=1000
def Mv (d:Int×List (Int×Int×Bool)):SV:=.tup [.lst 0,.val (.i .i64) (Qq d.1 d.2)]
def Mo (d:Int×List (Int×Int×Bool)):List OB:=[.lst 3 (.i .i64) (Dv d.1 d.2) ((Dv d.1 d.2).isEmpty)]
def N5:CSp:=Ko Dk Rs Mv Mo
abbrev WL (cs:List (Int×Int×Bool)):=(XU (nmC cs) (woM ([]:List (Int×Bool))) cs.length cs.length)
abbrev Gq (hk:Int) (cs:List (Int×Int×Bool)):=(((Dv hk cs)=[]/\(Dv hk cs).isEmpty=true)/\True)
def YY (hk:Int) (cs:List (Int×Int×Bool)):Prop :=
 ∀ w1:List Value,∀ w2:List Value,(True)/\((!(inI hk 1 24))=true ->
  w2=w2/\w1=w1/\((True/\(3:Int)=(Qq hk cs)/\(([]:List SV)=[]))/\(Gq hk cs))) /\
 ((!(inI hk 1 24))=false ->
  (((decide ((lI cs) > (60:Int)))=true ->
   w2=w2/\w1=w1/\((True/\(5:Int)=(Qq hk cs)/\(([]:List SV)=[]))/\(Gq hk cs))) /\
  ((decide ((lI cs) > (60:Int)))=false ->
   (1<=hk/\hk<=24/\cs.length<=1000000)/\((!(!cs.isEmpty&&!(cs.any λc=>!QL hk c)))=true ->
    w2=w2/\w1=w1/\((True/\(2:Int)=(Qq hk cs)/\(([]:List SV)=[]))/\(Gq hk cs))) /\
   ((!(!cs.isEmpty&&!(cs.any λc=>!QL hk c)))=false ->
    w2=w2/\∃ (e5:Int×(List (Int×Int×Bool))×Int×Int×Int×(List (Int×Int×Bool))×Int×(List (Int×Int×Bool))×Int×Int×(List (Int×Int×Bool))×Int×(List (Int×Int×Bool))×Int×Int×(List (Int×Int×Bool))×(List Value)) (d50:(List (Int×Bool))×Int),((True/\True/\True/\True/\cs=(pj4 e5).2.2.2.1/\(lI cs)=(pj8 e5).1/\(0:Int)=d50.2/\True)/\((hk=e5.1/\cs=e5.2.1/\(([]:List SV)=[]))/\((0:Int)=e5.2.2.1/\True/\(0:Int)=e5.2.2.2.1/\(([]:List SV)=[]))/\(hk=(pj4 e5).1/\cs=(pj4 e5).2.1/\hk=(pj4 e5).2.2.1/\(([]:List SV)=[]))/\(([]:List (Int×Bool))=d50.1)/\((X4 e5)=w1/\((hk=(pj8 e5).2.1/\cs=(pj8 e5).2.2.1/\(([]:List SV)=[]))/\True/\True/\(0:Int)=(pj4 (pj8 e5)).2.1/\True/\True/\True/\True/\True/\(hk=(pj4 (pj8 e5)).2.2.1/\cs=(pj4 (pj8 e5)).2.2.2.1/\(([]:List SV)=[]))/\True/\True/\True/\True/\True/\True/\True/\True/\True/\True/\True/\True/\True/\True/\True/\True/\True/\True/\True/\True/\True/\True/\True/\True/\True/\True/\True/\True/\True/\True/\True/\True/\True/\True/\True/\True/\True/\True/\True/\(([]:List SV)=[])))/\(hk=(pj8 e5).2.2.2.1/\cs=(pj4 (pj8 e5)).1/\(([]:List SV)=[]))/\True)) /\
    LoopP (λ(d5:(List (Int×Bool))×Int) (q5:((List (Int×Bool))×Int)->Prop) =>
     ((decide (d5.2<(pj8 e5).1))=true ->
      (0<=d5.2)/\(d5.2<(List.length (pj4 e5).2.2.2.1))/\(I64 (d5.2+(1:Int)))/\(∃ d6:(List (Int×Bool))×Int,((True/\True/\True/\True/\(pj4 e5).2.2.2.1=(pj4 e5).2.2.2.1/\(pj8 e5).1=(pj8 e5).1/\(d5.2+(1:Int))=d6.2/\True)/\((e5.1=e5.1/\e5.2.1=e5.2.1/\(([]:List SV)=[]))/\(e5.2.2.1=e5.2.2.1/\True/\e5.2.2.2.1=e5.2.2.2.1/\(([]:List SV)=[]))/\((pj4 e5).1=(pj4 e5).1/\(pj4 e5).2.1=(pj4 e5).2.1/\(pj4 e5).2.2.1=(pj4 e5).2.2.1/\(([]:List SV)=[]))/\((Nf (.i .i64) d5.1 (gD (pj4 e5).2.2.2.1 d5.2 (0,(0,false))).1 true)=d6.1)/\((X4 e5)=(X4 e5)/\(((pj8 e5).2.1=(pj8 e5).2.1/\(pj8 e5).2.2.1=(pj8 e5).2.2.1/\(([]:List SV)=[]))/\True/\True/\(pj4 (pj8 e5)).2.1=(pj4 (pj8 e5)).2.1/\True/\True/\True/\True/\True/\((pj4 (pj8 e5)).2.2.1=(pj4 (pj8 e5)).2.2.1/\(pj4 (pj8 e5)).2.2.2.1=(pj4 (pj8 e5)).2.2.2.1/\(([]:List SV)=[]))/\True/\True/\True/\True/\True/\True/\True/\True/\True/\True/\True/\True/\True/\True/\True/\True/\True/\True/\True/\True/\True/\True/\True/\True/\True/\True/\True/\True/\True/\True/\True/\True/\True/\True/\True/\True/\True/\True/\True/\(([]:List SV)=[])))/\((pj8 e5).2.2.2.1=(pj8 e5).2.2.2.1/\(pj4 (pj8 e5)).1=(pj4 (pj8 e5)).1/\(([]:List SV)=[]))/\True))/\q5 d6)) /\
     ((decide (d5.2<(pj8 e5).1))=false ->
      ((gq.aget (.i .i64) d5.1 (-1:Int) false)=true ->
       (X4 e5)=w1/\((True/\(9:Int)=(Qq hk cs)/\(([]:List SV)=[]))/\(Gq hk cs))) /\
      ((gq.aget (.i .i64) d5.1 (-1:Int) false)=false ->
       ((decide ((lI d5.1)<(lI e5.2.1)))=true ->
        (X4 e5)=w1/\((True/\(6:Int)=(Qq hk cs)/\(([]:List SV)=[]))/\(Gq hk cs))) /\
       ((decide ((lI d5.1)<(lI e5.2.1)))=false ->
        (X4 e5)=w1/\((pj4 e5).2.1.length<=1000)/\(∀ m7:List (Int×Bool),(m7=([]:List (Int×Bool)))->∃ (vK:Unit) (d110:(List Int)×(List (Int×Bool))×Int),((True/\True/\True/\True/\(XU (nmC (pj4 e5).2.1) (woM ([]:List (Int×Bool))) (pj4 e5).2.1.length (pj4 e5).2.1.length)=(WL cs)/\(lI (pj4 (pj8 e5)).1)=(lI cs)/\(0:Int)=d110.2.2/\True)/\(((pj8 e5).2.2.2.1=hk/\(pj4 (pj8 e5)).1=cs/\(([]:List SV)=[]))/\(d110.1=[]/\(List.isEmpty d110.1)=true)/\((pj4 e5).1=hk/\(pj4 e5).2.1=cs/\(pj4 e5).2.2.1=hk/\(([]:List SV)=[]))/\(m7=d110.2.1)/\True)) /\
        LoopP (λ(d11:(List Int)×(List (Int×Bool))×Int) (su:((List Int)×(List (Int×Bool))×Int)->Prop) =>
         ((decide (d11.2.2<(lI cs)))=true ->
          (cs.length<=1000)/\(∀ ml:List (Int×Bool),(ml=(Nf (.i .i64) d11.2.1 d11.2.2 true))->((decide ((XU (nmC cs) (woM (Nf (.i .i64) d11.2.1 d11.2.2 true)) cs.length cs.length)<(WL cs)))=true ->
           (I64 (d11.2.2+(1:Int)))/\(∃ d13:(List Int)×(List (Int×Bool))×Int,((True/\True/\True/\True/\(WL cs)=(WL cs)/\(lI cs)=(lI cs)/\(d11.2.2+(1:Int))=d13.2.2/\True)/\((hk=hk/\cs=cs/\(([]:List SV)=[]))/\(d11.1=d13.1/\(List.isEmpty d11.1)=(List.isEmpty d13.1))/\(hk=hk/\cs=cs/\hk=hk/\(([]:List SV)=[]))/\((Q5q (.i .i64) ml d11.2.2)=d13.2.1)/\True))/\su d13)) /\
          ((decide ((XU (nmC cs) (woM (Nf (.i .i64) d11.2.1 d11.2.2 true)) cs.length cs.length)<(WL cs)))=false ->
           (((List.length d11.1)+(List.length [d11.2.2]))*8<=70368744177664)/\(I64 ((lI (d11.1++[d11.2.2]))+(WL cs)))/\((((lI (d11.1++[d11.2.2]))+(WL cs))==(lI cs))=true ->
            ((True/\(0:Int)=(Qq hk cs)/\(([]:List SV)=[]))/\(((d11.1++[d11.2.2])=(Dv hk cs)/\false=(Dv hk cs).isEmpty)/\True))) /\
           ((((lI (d11.1++[d11.2.2]))+(WL cs))==(lI cs))=false ->
            (I64 (d11.2.2+(1:Int)))/\(∃ d14:(List Int)×(List (Int×Bool))×Int,((True/\True/\True/\True/\(WL cs)=(WL cs)/\(lI cs)=(lI cs)/\(d11.2.2+(1:Int))=d14.2.2/\True)/\((hk=hk/\cs=cs/\(([]:List SV)=[]))/\((d11.1++[d11.2.2])=d14.1/\false=(List.isEmpty d14.1))/\(hk=hk/\cs=cs/\hk=hk/\(([]:List SV)=[]))/\(ml=d14.2.1)/\True))/\su d14))))) /\
         ((decide (d11.2.2<(lI cs)))=false ->
          ((True/\(0:Int)=(Qq hk cs)/\(([]:List SV)=[]))/\((d11.1=(Dv hk cs)/\(List.isEmpty d11.1)=(Dv hk cs).isEmpty)/\True)))) d110))))) d50))))
def X7:Cx:=⟨[(1000018,(.pair (.i .i64) .bo))],[(87,Z9),(86,QW)],43,[3000015],0,[(103,VT)],[],[],[],false,[],[],[15],[]⟩
def X6:List (Nat×LoopAnn):=[(0,⟨Int×(List (Int×Int×Bool))×Int×Int×Int×(List (Int×Int×Bool))×Int×(List (Int×Int×Bool))×Int×Int×(List (Int×Int×Bool))×Int×(List (Int×Int×Bool))×Int×Int×(List (Int×Int×Bool))×(List Value),(List (Int×Bool))×Int,[1,2,4,6,20,21,22],λe x=>[.box 1100001 0,.box 1100002 0,.box 1100004 0,.map 1100018,.val (.list (.pair (.i .i64) (.pair (.i .i64) .bo))) e.2.2.2.2.2.2.2.1,.val (.i .i64) e.2.2.2.2.2.2.2.2.1,.val (.i .i64) x.2],λe x=>[(1100001,.slot 1,.cells [.val (.i .i64) e.1,.val (.list (.pair (.i .i64) (.pair (.i .i64) .bo))) e.2.1] (some 24)),(1100002,.slot 2,.cells [.val (.i .i64) e.2.2.1,.nilS,.val (.i .i64) e.2.2.2.1] (some 119)),(1100004,.slot 4,.cells [.val (.i .i64) e.2.2.2.2.1,.val (.list (.pair (.i .i64) (.pair (.i .i64) .bo))) e.2.2.2.2.2.1,.val (.i .i64) e.2.2.2.2.2.2.1] (some 119)),(1100018,.slot 6,.map (.i .i64) .bo x.1),(1099999,.key 1099999,.stk [.agg [.val (.i .i64) e.2.2.2.2.2.2.2.2.2.1,.val (.list (.pair (.i .i64) (.pair (.i .i64) .bo))) e.2.2.2.2.2.2.2.2.2.2.1],.box 1 0,.nilS,.val (.i .i64) e.2.2.2.2.2.2.2.2.2.2.2.2.2.1,.any,.any,.any,.any,.any,.agg [.val (.i .i64) e.2.2.2.2.2.2.2.2.2.2.2.2.2.2.1,.val (.list (.pair (.i .i64) (.pair (.i .i64) .bo))) e.2.2.2.2.2.2.2.2.2.2.2.2.2.2.2.1],.any,.any,.any,.any,.any,.any,.any,.any,.any,.any,.any,.any,.any,.any,.any,.any,.any,.any,.any,.any,.any,.any,.any,.any,.any,.any,.any,.any,.any,.any,.any,.any,.any,.any,.any,.any,.any,.any,.any] e.2.2.2.2.2.2.2.2.2.2.2.2.2.2.2.2),(1,.key 1,.cells [.val (.i .i64) e.2.2.2.2.2.2.2.2.2.2.2.1,.val (.list (.pair (.i .i64) (.pair (.i .i64) .bo))) e.2.2.2.2.2.2.2.2.2.2.2.2.1] (some 24))]⟩)]
def De:Cx:=⟨[(3,(.i .i64)),(1000016,(.pair (.i .i64) .bo))],[],49,[3000014],0,[(62,IF X7 (λ_=>X6) c62 [.cell 2 true 3,.tmp 3] 43),(63,YF)],[],[],[],false,[],[],[14],[]⟩
def S7 (hk:Int) (cs:List (Int×Int×Bool)):List (Nat×LoopAnn):=[(0,⟨Unit,(List Int)×(List (Int×Bool))×Int,[1,2,4,5,6,22,23],λe x=>[.box 1 0,.lst 38,.box 4 0,.map 16,.val (.i .i64) (XU (nmC cs) (woM ([]:List (Int×Bool))) cs.length cs.length),.val (.i .i64) (((List.length cs):Nat):Int),.val (.i .i64) x.2.2],λe x=>[(1,.slot 1,.cells [.val (.i .i64) hk,.val (.list (.pair (.i .i64) (.pair (.i .i64) .bo))) cs] (some 24)),(38,.slot 2,.lst 3 (.i .i64) x.1 (List.isEmpty x.1)),(4,.slot 4,.cells [.val (.i .i64) hk,.val (.list (.pair (.i .i64) (.pair (.i .i64) .bo))) cs,.val (.i .i64) hk] (some 119)),(16,.slot 5,.map (.i .i64) .bo x.2.1)]⟩)]
theorem Sa (d:Int×List (Int×Int×Bool)):gwp (De) (S7 d.1 d.2) c17 0 (KQ [.tmp 2,.tmp 3] (Mv d) (Mo d)) (QI 49 (AL.can Dk d))=YY d.1 d.2:=by kernel_rfl
abbrev SC:Prop:=OkC Tryz.prog 17 N5
theorem S9 (h:∀ (hk:Int) (cs:List (Int×Int×Bool)),(cs.length<=1000)->YY hk cs):OkC Tryz.prog 17 N5 :=
 QT Z05 mixed (C:=De) (V:=λ(d:Int×List (Int×Int×Bool))=>YY d.1 d.2) ⟨.nil,(XsOk.cons (Yy Q61 mixed (C:=X7) ⟨(.cons Z_ (.cons ZG .nil)),(XsOk.cons Ud XsOk.nil),ItsOk.nil,YlOk.nil,IysOk.nil,XfOk.nil⟩ (λ_=>X6)) (XsOk.cons Bf XsOk.nil)),ItsOk.nil,YlOk.nil,IysOk.nil,XfOk.nil⟩ (Sa) λd hp=>h d.1 d.2 hp
set_option maxHeartbeats 1000000 in
theorem Sg:SC:=S9 λhk cs h=>by
 have cy:∀ e:Int,Qq hk cs=e->e≠0->(e=Qq hk cs)/\Dv hk cs=[]/\(Dv hk cs).isEmpty=true:=λe h1 h2=>by
  have:Dv hk cs=[]:=by unfold Dv;rw[z0 (by omega)]
  exact⟨h1.symm,this,by rw[this];rfl⟩
 have bt:∀ e:Int,Qg hk cs=e->e≠0->Qq hk cs=e:=λe h1 h2=>by unfold Qq;rw[z3 (by omega)];exact h1
 unfold YY;(try delta WL Gq);(try delta lI gD sT I64 X4 pj8 pj4);intro w1 w2;repeat (first|refine⟨trivial,?_⟩|refine⟨rfl,?_⟩)
 refine⟨λc1=>?_,λc1=>?_⟩
 .repeat (first|refine⟨trivial,?_⟩|refine⟨rfl,?_⟩)
  have e:Qg hk cs=3:=by unfold Qg;rw[z3 c1]
  obtain⟨u,v,w⟩:=cy 3 (bt 3 e (by decide)) (by decide);and_intros<;>first|rfl|trivial|assumption
 repeat (first|refine⟨trivial,?_⟩|refine⟨rfl,?_⟩)
 refine⟨λc2=>?_,λc2=>?_⟩
 .have c2:60<cs.length:=by have:=zg c2;omega
  have e:Qg hk cs=5:=by unfold Qg;rw[z0 (by rw[c1];decide),z3 c2]
  obtain⟨u,v,w⟩:=cy 5 (bt 5 e (by decide)) (by decide);and_intros<;>first|rfl|trivial|assumption
 have c2:cs.length<=60:=by have:=zm c2;omega
 obtain⟨i1,i2⟩:=IM c1;repeat (first|refine⟨trivial,?_⟩|refine⟨rfl,?_⟩)
 refine⟨⟨i1,i2,by omega⟩,λc3=>?_,λc3=>?_⟩
 .obtain⟨u,v,w⟩:=cy 2 (bt 2 (C7 c1 c2 c3) (by decide)) (by decide);and_intros<;>first|rfl|trivial|assumption
 obtain⟨be,aw,ai⟩:=EM c1 c2 c3;repeat (first|refine⟨trivial,?_⟩|refine⟨rfl,?_⟩)
 refine⟨(hk,cs,0,0,hk,cs,hk,cs,(cs.length:Int),hk,cs,hk,cs,0,hk,cs,w1),([],0),by and_intros<;>first|rfl|trivial,?_⟩;refine⟨λd=>∃ k:Nat,k<=cs.length/\d.2=(k:Int)/\SeenI (cs.map (·.1)) d.1 k,λd=>cs.length-d.2.toNat,⟨0,by omega,rfl,SeenI.nil _⟩,?_⟩;rintro⟨mm,_⟩ ⟨k,bc,rfl,hS⟩;dsimp only at hS |-;refine⟨λc=>?_,λc=>?_⟩
 .have af:k<cs.length:=by have:=zg c;omega
  have hp:=hS.put (by simpa using af);have eg:(cs.map (·.1)).getD k 0=(cs.getD k (0,(0,false))).1:=by
   rw[Qc (by simpa using af),Qc af,xS]
  rw[eg] at hp;simp only[zh];exact⟨by omega,by omega,by rw[Qd];omega,(Nf (.i .i64) mm (cs.getD k (0,(0,false))).1 true,(k:Int)+1),by and_intros<;>first|rfl|trivial,⟨k+1,af,rfl,hp⟩,by dsimp only;omega⟩
 .have al:k=cs.length:=by have:=zm c;omega
  subst al;have hl:(cs.map (·.1)).length=cs.length:=x6 ..;rw[<-hl] at hS;obtain⟨f1,f2⟩:=hS.full;rw[hl] at f2;refine⟨λc4=>?_,λc4=>?_⟩
  .rw[f1] at c4;have e:Qq hk cs=9:=by unfold Qq;rw[z0 (by omega),z3 (zg c4)]
   obtain⟨u,v,w⟩:=cy 9 e (by decide);and_intros<;>first|rfl|trivial|assumption
  rw[f1] at c4;have c4:=zm c4;refine⟨λc5=>?_,λc5=>?_⟩
  .rw[f2] at c5;have e:Qq hk cs=6:=by unfold Qq;rw[z0 (by omega),z0 c4,z0 (zg c5)]
   obtain⟨u,v,w⟩:=cy 6 e (by decide);and_intros<;>first|rfl|trivial|assumption
  rw[f2] at c5;have eM:(cs.map (·.1)).Nodup:=Decidable.not_not.1 (zm c5);have en:Qq hk cs=0:=by unfold Qq;rw[z0 (by omega),z0 c4,z3 eM]
  have em:Dv hk cs=mvK (nmC cs) cs.length cs.length:=by unfold Dv;rw[z3 en]
  rw[en,em];have kP:XU (nmC cs) (woM ([]:List (Int×Bool))) cs.length cs.length=Uv (nmC cs) cs.length:=rfl;rw[kP];obtain⟨b1,b2,_⟩:=Q1y (nmC cs) (λ_=>false) cs.length;have b1:0<=Uv (nmC cs) cs.length:=b1;have b2:Uv (nmC cs) cs.length<=cs.length:=b2;clear kP hS f1 f2;repeat (first|refine⟨trivial,?_⟩|refine⟨rfl,?_⟩)
  refine⟨h,λm7 uY=>?_⟩;subst uY;refine⟨(),([],[],0),by and_intros<;>first|rfl|trivial,?_⟩;refine⟨λd=>∃ k:Nat,k<=cs.length/\d=(mvK (nmC cs) cs.length k,(mvK (nmC cs) cs.length k).map (λx=>(x,true)),(k:Int))/\(((mvK (nmC cs) cs.length k).length:Int)+Uv (nmC cs) cs.length≠cs.length\/Uv (nmC cs) cs.length=cs.length),λd=>cs.length-d.2.2.toNat,⟨0,by omega,rfl,?_⟩,?_⟩
  .by_cases q:Uv (nmC cs) cs.length=cs.length
   .exact .inr q
   .left;show ((([]:List Int).length:Nat):Int)+_≠_;simpa using q
  rintro _ ⟨k,bc,rfl,hq⟩;dsimp only;have mH:(k:Int)∉mvK (nmC cs) cs.length k:=λhm=>by have:=IV _ _ _ _ hm;omega
  have dz:=Q28 mH;have hlen:=FI (nmC cs) cs.length k;have dA:mvK (nmC cs) cs.length (k+1)=if ((mvK (nmC cs) cs.length k).length:Int)+Uv (nmC cs) cs.length=cs.length then mvK (nmC cs) cs.length k else if XU (nmC cs) (woL (mvK (nmC cs) cs.length k++[(k:Int)])) cs.length cs.length<Uv (nmC cs) cs.length then mvK (nmC cs) cs.length k else mvK (nmC cs) cs.length k++[(k:Int)]:=rfl
  refine⟨λc=>?_,λc=>?_⟩
  .have af:k<cs.length:=by have:=zg c;omega
   have uZ:woL (mvK (nmC cs) cs.length k++[(k:Int)]) k=true:=zX (xA _ (zd.2 rfl));obtain⟨_,_,b3⟩:=Q1y (nmC cs) (woL (mvK (nmC cs) cs.length k++[(k:Int)])) cs.length;have b3:=b3 k af uZ;refine⟨h,λml oN=>?_⟩;rw[dz] at oN;subst oN;rw[dz,Z08,Q4m mH];refine⟨λc6=>?_,λc6=>?_⟩
   .have c6:=zg c6;have es:mvK (nmC cs) cs.length (k+1)=mvK (nmC cs) cs.length k:=by
     rw[dA,z3 c6,ite_self]
    refine⟨by rw[Qd];omega,(mvK (nmC cs) cs.length (k+1),(mvK (nmC cs) cs.length (k+1)).map (λx=>(x,true)),(k:Int)+1),?_,⟨k+1,af,rfl,by rw[es];exact hq⟩,by dsimp only;omega⟩;rw[es];and_intros<;>first|rfl|trivial
   .have c6:=zm c6;have u1:((mvK (nmC cs) cs.length k).length:Int)+Uv (nmC cs) cs.length≠cs.length:=by
     rcases hq with hq|hq
     .exact hq
     .omega
    have es:mvK (nmC cs) cs.length (k+1)=mvK (nmC cs) cs.length k++[(k:Int)]:=by rw[dA,z0 u1,z0 c6]
    have ck:(mvK (nmC cs) cs.length k++[(k:Int)]).length=(mvK (nmC cs) cs.length k).length+1:=by simp
    have gC:(mvK (nmC cs) cs.length k++[(k:Int)]).isEmpty=false:=by simp
    rw[<-es] at ck gC |-;refine⟨by simp;omega,by rw[Qd];omega,λc7=>?_,λc7=>?_⟩
    .have c7:((mvK (nmC cs) cs.length (k+1)).length:Int)+Uv (nmC cs) cs.length=cs.length:=by simpa using c7
     have a_:=IN c7 (cs.length-(k+1));rw[show k+1+(cs.length-(k+1))=cs.length by omega] at a_;rw[a_];and_intros<;>first|rfl|trivial|exact gC.symm
    .have c7:((mvK (nmC cs) cs.length (k+1)).length:Int)+Uv (nmC cs) cs.length≠cs.length:=by simpa using c7
     refine⟨by rw[Qd];omega,(mvK (nmC cs) cs.length (k+1),(mvK (nmC cs) cs.length (k+1)).map (λx=>(x,true)),(k:Int)+1),?_,⟨k+1,af,rfl,.inl c7⟩,by dsimp only;omega⟩;and_intros<;>first|rfl|trivial|exact gC.symm
  .have al:k=cs.length:=by have:=zm c;omega
   subst al;and_intros<;>first|rfl|trivial
end Go.Proofs.Tryz
namespace Go.Proofs.Tryz
open Go Go.V Go.Proofs
abbrev q4 {A B C D E:Type}(x:A×B×C×D×E):E:=x.2.2.2.2
def VI:AL (Int×Int):=(.cons (.k (.i .i64)) (.one (.k (.i .i64))))
def DZ (d:Int×Int):Prop:=True
def Vb (d:Int×Int):SV:=.val (.i .i64) (AZ d.1 d.2)
def KW (d:Int×Int):List OB:=[]
def YH:CSp:=Ko VI DZ Vb KW
def Xk (a:Int) (b:Int):Prop :=
 (True)/\(True)/\(false=true ->
  (false=true ->
   ((0:Int)=(AZ a b)/\(True))) /\
  (false=false ->
   ((-1:Int)=(AZ a b)/\(True)))) /\
 (false=false ->
  (false=true ->
   ((1:Int)=(AZ a b)/\(True))) /\
  (false=false ->
   ((decide (a<b))=true ->
    ((-1:Int)=(AZ a b)/\(True))) /\
   ((decide (a<b))=false ->
    ((decide (a > b))=true ->
     ((1:Int)=(AZ a b)/\(True))) /\
    ((decide (a > b))=false ->
     ((0:Int)=(AZ a b)/\(True))))))
def VL:Cx:=⟨[],[(111,WR)],20,[],0,[],[],[],[],false,[],[],[],[]⟩
def BV (a:Int) (b:Int):List (Nat×LoopAnn):=[]
theorem Hj (d:Int×Int):gwp (VL) (BV d.1 d.2) c67 0 (KQ [.tmp 4] (Vb d) (KW d)) (QI 20 (AL.can VI d))=Xk d.1 d.2:=by kernel_rfl
abbrev BH:Prop:=OkC Tryz.prog 67 YH
theorem BD (h:∀ (a:Int) (b:Int),(True)->Xk a b):OkC Tryz.prog 67 YH :=
 QT Z16 mixed (C:=VL) (V:=λ(d:Int×Int)=>Xk d.1 d.2) ⟨(.cons NO .nil),XsOk.nil,ItsOk.nil,YlOk.nil,IysOk.nil,XfOk.nil⟩ (Hj) λd hp=>h d.1 d.2 hp
theorem Bu:BH:=BD λa b _=>by
 unfold Xk;(try delta lI gD sT I64 X4 pj8 pj4);simp only[zn,xn,true_and,and_true,eq_self_iff_true,exists_eq_left',exists_const,zn,xn,zK,bne_iff_ne,ne_eq,xq,bne_eq_false_iff_eq,Bool.not_eq_true',xm,xO,we,zh,Int.ofNat_lt,gt_iff_lt,ge_iff_le,forall_eq,true_implies,false_implies,zy,Bool.or_self,Bool.and_self,w4,Bool.false_or,Bool.or_true,Bool.true_or,Bool.and_false,Bool.false_and,xW,Bool.true_and,xY,Bool.not_false,implies_true,forall_const,decide_false,decide_true,not_false_eq_true,not_true_eq_false];unfold AZ;refine⟨λh=>?_,λh=>⟨λh2=>?_,λh2=>?_⟩⟩
 .rw[z3 h]
 .rw[z0 h,z3 h2]
 .rw[z0 h,z0 h2]
def MY:AL ((Int×Int×Bool)×Int×Int×Bool):=(.cons (.agg (.cons (.k (.i .i64)) (.cons (.k (.i .i64)) (.one (.k .bo))))) (.one (.agg (.cons (.k (.i .i64)) (.cons (.k (.i .i64)) (.one (.k .bo)))))))
def PV (d:(Int×Int×Bool)×Int×Int×Bool):Prop:=True
def NB (d:(Int×Int×Bool)×Int×Int×Bool):SV:=.val (.i .i64) (AZ d.1.1 d.2.1)
def NN (d:(Int×Int×Bool)×Int×Int×Bool):List OB:=[]
def YV:CSp:=Ko MY PV NB NN
def Yb (cn:Int) (cr:Int) (ct:Bool) (dn:Int) (dr:Int) (dt:Bool):Prop :=
 (True)/\((AZ cn dn)=(AZ cn dn)/\(True))
def MM:Cx:=⟨[],[(67,YH)],10,[],0,[],[],[],[],false,[],[],[],[]⟩
def Ru (cn:Int) (cr:Int) (ct:Bool) (dn:Int) (dr:Int) (dt:Bool):List (Nat×LoopAnn):=[]
theorem Ty (d:(Int×Int×Bool)×Int×Int×Bool):gwp (MM) (Ru d.1.1 d.1.2.1 d.1.2.2 d.2.1 d.2.2.1 d.2.2.2) c66 0 (KQ [.tmp 4] (NB d) (NN d)) (QI 10 (AL.can MY d))=Yb d.1.1 d.1.2.1 d.1.2.2 d.2.1 d.2.2.1 d.2.2.2:=by kernel_rfl
abbrev Rz:Prop:=OkC Tryz.prog 66 YV
theorem R3 (h:∀ (cn:Int) (cr:Int) (ct:Bool) (dn:Int) (dr:Int) (dt:Bool),(True)->Yb cn cr ct dn dr dt):OkC Tryz.prog 66 YV :=
 QT Z2a mixed (C:=MM) (V:=λ(d:(Int×Int×Bool)×Int×Int×Bool)=>Yb d.1.1 d.1.2.1 d.1.2.2 d.2.1 d.2.2.1 d.2.2.2) ⟨(.cons Bu .nil),XsOk.nil,ItsOk.nil,YlOk.nil,IysOk.nil,XfOk.nil⟩ (Ty) λd hp=>h d.1.1 d.1.2.1 d.1.2.2 d.2.1 d.2.2.1 d.2.2.2 hp
theorem Mx:Rz:=R3 λcn cr ct dn dr dt _=>by unfold Yb;exact(by and_intros<;>first|rfl|trivial|simp)
def Zg:AL (Int×Int×(((Int×Int×Bool)×(Int×Int×Bool)->Prop)×((Int×Int×Bool)×(Int×Int×Bool)->Int))):=(.cons (.k (.i .i64)) (.cons (.k (.i .i64)) (.one (.fn [(.pair (.i .i64) (.pair (.i .i64) .bo)),(.pair (.i .i64) (.pair (.i .i64) .bo))] (.i .i64)))))
def JH (xs:List (Int×Int×Bool)) (nl:Bool) (d:Int×Int×(((Int×Int×Bool)×(Int×Int×Bool)->Prop)×((Int×Int×Bool)×(Int×Int×Bool)->Int))):Prop:=0<=d.1/\d.1<=d.2.1/\d.2.1<=xs.length/\xs.length<=12/\(∀ x∈xs,∀ y∈xs,d.2.2.1 (x,y))
def Za (xs:List (Int×Int×Bool)) (nl:Bool) (d:Int×Int×(((Int×Int×Bool)×(Int×Int×Bool)->Prop)×((Int×Int×Bool)×(Int×Int×Bool)->Int))):SV:=.tup []
def Z4 (xs:List (Int×Int×Bool)) (nl:Bool) (d:Int×Int×(((Int×Int×Bool)×(Int×Int×Bool)->Prop)×((Int×Int×Bool)×(Int×Int×Bool)->Int))):List (Int×Int×Bool):=(US d.2.2.2 xs d.1.toNat d.2.1.toNat)
def QB:XSp:=A4 (gap [] 3) (Ez 87 (.pair (.i .i64) (.pair (.i .i64) .bo)) Zg JH Za Z4)
def Qp (xs:List (Int×Int×Bool)) (nl:Bool) (a:Int) (b:Int) (p:((Int×Int×Bool)×(Int×Int×Bool)->Prop)×((Int×Int×Bool)×(Int×Int×Bool)->Int)):Prop:=∀ vals:List Value,
 (I64 (a+(1:Int)))/\∃ (e2:Unit) (d20:(List (Int×Int×Bool))×Bool×Int),((True/\a=a/\b=b/\(SV.pf [(.pair (.i .i64) (.pair (.i .i64) .bo)),(.pair (.i .i64) (.pair (.i .i64) .bo))] (.i .i64) p.1 p.2=SV.pf [(.pair (.i .i64) (.pair (.i .i64) .bo)),(.pair (.i .i64) (.pair (.i .i64) .bo))] (.i .i64) p.1 p.2)/\(a+(1:Int))=d20.2.2/\True)/\((xs=d20.1/\nl=d20.2.1)/\(vals=vals/\(True/\(([]:List SV)=[])))/\True)) /\
 LoopP (λ(d2:(List (Int×Int×Bool))×Bool×Int) (q2:((List (Int×Int×Bool))×Bool×Int)->Prop) =>
  ((decide (d2.2.2<b))=true ->
   ∃ (e5:Bool×Int) (d50:(List (Int×Int×Bool))×Int),((True/\a=a/\b=b/\(SV.pf [(.pair (.i .i64) (.pair (.i .i64) .bo)),(.pair (.i .i64) (.pair (.i .i64) .bo))] (.i .i64) p.1 p.2=SV.pf [(.pair (.i .i64) (.pair (.i .i64) .bo)),(.pair (.i .i64) (.pair (.i .i64) .bo))] (.i .i64) p.1 p.2)/\d2.2.2=e5.2/\d2.2.2=d50.2/\True)/\((d2.1=d50.1/\d2.2.1=e5.1)/\(vals=vals/\(True/\(([]:List SV)=[])))/\True)) /\
   LoopP (λ(d5:(List (Int×Int×Bool))×Int) (q5:((List (Int×Int×Bool))×Int)->Prop) =>
    ((decide (d5.2 > a))=true->0<=d5.2)/\((decide (d5.2 > a))=true->d5.2<(List.length d5.1))/\((decide (d5.2 > a))=true->InK .i64 (d5.2-(1:Int)))/\((decide (d5.2 > a))=true->0<=(d5.2-(1:Int)))/\((decide (d5.2 > a))=true->(d5.2-(1:Int))<(List.length d5.1))/\((decide (d5.2 > a))=true->p.1 (((gD d5.1 d5.2 (0,(0,false))).1,((gD d5.1 d5.2 (0,(0,false))).2.1,(gD d5.1 d5.2 (0,(0,false))).2.2)),((gD d5.1 (d5.2-(1:Int)) (0,(0,false))).1,((gD d5.1 (d5.2-(1:Int)) (0,(0,false))).2.1,(gD d5.1 (d5.2-(1:Int)) (0,(0,false))).2.2))))/\(((decide (d5.2 > a))&&(decide ((p.2 (((gD d5.1 d5.2 (0,(0,false))).1,((gD d5.1 d5.2 (0,(0,false))).2.1,(gD d5.1 d5.2 (0,(0,false))).2.2)),((gD d5.1 (d5.2-(1:Int)) (0,(0,false))).1,((gD d5.1 (d5.2-(1:Int)) (0,(0,false))).2.1,(gD d5.1 (d5.2-(1:Int)) (0,(0,false))).2.2))))<(0:Int))))=true ->
     (I64 (d5.2-(1:Int)))/\(I64 (d5.2-(1:Int)))/\(0<=(d5.2-(1:Int)))/\((d5.2-(1:Int))<(List.length d5.1))/\(0<=d5.2)/\(d5.2<(List.length d5.1))/\(0<=d5.2)/\(d5.2<(List.length d5.1))/\(0<=(d5.2-(1:Int)))/\((d5.2-(1:Int))<(List.length (sT d5.1 d5.2 ((gD d5.1 (d5.2-(1:Int)) (0,(0,false))).1,((gD d5.1 (d5.2-(1:Int)) (0,(0,false))).2.1,(gD d5.1 (d5.2-(1:Int)) (0,(0,false))).2.2)))))/\(I64 (d5.2-(1:Int)))/\(∃ d6:(List (Int×Int×Bool))×Int,((True/\a=a/\b=b/\(SV.pf [(.pair (.i .i64) (.pair (.i .i64) .bo)),(.pair (.i .i64) (.pair (.i .i64) .bo))] (.i .i64) p.1 p.2=SV.pf [(.pair (.i .i64) (.pair (.i .i64) .bo)),(.pair (.i .i64) (.pair (.i .i64) .bo))] (.i .i64) p.1 p.2)/\e5.2=e5.2/\(d5.2-(1:Int))=d6.2/\True)/\(((sT (sT d5.1 d5.2 ((gD d5.1 (d5.2-(1:Int)) (0,(0,false))).1,((gD d5.1 (d5.2-(1:Int)) (0,(0,false))).2.1,(gD d5.1 (d5.2-(1:Int)) (0,(0,false))).2.2))) (d5.2-(1:Int)) ((gD d5.1 d5.2 (0,(0,false))).1,((gD d5.1 d5.2 (0,(0,false))).2.1,(gD d5.1 d5.2 (0,(0,false))).2.2)))=d6.1/\e5.1=e5.1)/\(vals=vals/\(True/\(([]:List SV)=[])))/\True))/\q5 d6)) /\
    (((decide (d5.2 > a))&&(decide ((p.2 (((gD d5.1 d5.2 (0,(0,false))).1,((gD d5.1 d5.2 (0,(0,false))).2.1,(gD d5.1 d5.2 (0,(0,false))).2.2)),((gD d5.1 (d5.2-(1:Int)) (0,(0,false))).1,((gD d5.1 (d5.2-(1:Int)) (0,(0,false))).2.1,(gD d5.1 (d5.2-(1:Int)) (0,(0,false))).2.2))))<(0:Int))))=false ->
     (I64 (e5.2+(1:Int)))/\(∃ d7:(List (Int×Int×Bool))×Bool×Int,((True/\a=a/\b=b/\(SV.pf [(.pair (.i .i64) (.pair (.i .i64) .bo)),(.pair (.i .i64) (.pair (.i .i64) .bo))] (.i .i64) p.1 p.2=SV.pf [(.pair (.i .i64) (.pair (.i .i64) .bo)),(.pair (.i .i64) (.pair (.i .i64) .bo))] (.i .i64) p.1 p.2)/\(e5.2+(1:Int))=d7.2.2/\True)/\((d5.1=d7.1/\e5.1=d7.2.1)/\(vals=vals/\(True/\(([]:List SV)=[])))/\True))/\q2 d7))) d50) /\
  ((decide (d2.2.2<b))=false ->
   (vals=vals/\(True/\(([]:List SV)=[]))/\((([]:List SV)=[]))/\(d2.1=(US p.2 xs a.toNat b.toNat)/\d2.2.1=nl)))) d20
def Zh:Cx:=⟨[],[],53,[],0,[],[],[],[],false,[],[],[],[]⟩
def Zf (xs:List (Int×Int×Bool)) (nl:Bool) (a:Int) (b:Int) (p:((Int×Int×Bool)×(Int×Int×Bool)->Prop)×((Int×Int×Bool)×(Int×Int×Bool)->Int)) (vals:List Value):List (Nat×LoopAnn):=[(0,⟨Unit,(List (Int×Int×Bool))×Bool×Int,[0,1,2,3,8],λe x=>[.lst 0,.val (.i .i64) a,.val (.i .i64) b,.pf [(.pair (.i .i64) (.pair (.i .i64) .bo)),(.pair (.i .i64) (.pair (.i .i64) .bo))] (.i .i64) p.1 p.2,.val (.i .i64) x.2.2],λe x=>[(0,.slot 0,.lst 87 (.pair (.i .i64) (.pair (.i .i64) .bo)) x.1 x.2.1),(4000000,.key 4000000,.stk [.lst 0] vals)]⟩),
 (2,⟨Bool×Int,(List (Int×Int×Bool))×Int,[0,1,2,3,8,9],λe x=>[.lst 0,.val (.i .i64) a,.val (.i .i64) b,.pf [(.pair (.i .i64) (.pair (.i .i64) .bo)),(.pair (.i .i64) (.pair (.i .i64) .bo))] (.i .i64) p.1 p.2,.val (.i .i64) e.2,.val (.i .i64) x.2],λe x=>[(0,.slot 0,.lst 87 (.pair (.i .i64) (.pair (.i .i64) .bo)) x.1 e.1),(4000000,.key 4000000,.stk [.lst 0] vals)]⟩)]
theorem JM (xs:List (Int×Int×Bool)) (nl:Bool) (d:Int×Int×(((Int×Int×Bool)×(Int×Int×Bool)->Prop)×((Int×Int×Bool)×(Int×Int×Bool)->Int))):(∀ vals,gwp Zh (Zf xs nl d.1 d.2.1 d.2.2 vals) Z6l 0 (AY vals [] (Za xs nl d) (.lst 87 (.pair (.i .i64) (.pair (.i .i64) .bo)) (Z4 xs nl d) nl) (.lst 0)) (U4 53 (.lst 0) (.lst 87 (.pair (.i .i64) (.pair (.i .i64) .bo)) xs nl) vals (AL.can Zg d)))=Qp xs nl d.1 d.2.1 d.2.2:=by kernel_rfl
abbrev JN:Prop:=XOk Tryz.prog 155 QB
theorem JP (h:∀ (xs:List (Int×Int×Bool)) (nl:Bool) (a:Int) (b:Int) (p:((Int×Int×Bool)×(Int×Int×Bool)->Prop)×((Int×Int×Bool)×(Int×Int×Bool)->Int)),(0<=a/\a<=b/\b<=xs.length/\xs.length<=12/\(∀ x∈xs,∀ y∈xs,p.1 (x,y)))->Qp xs nl a b p):XOk Tryz.prog 155 QB :=
 Gv Q2x mixed (LD .nil 3) (C:=Zh) ⟨.nil,XsOk.nil,ItsOk.nil,YlOk.nil,IysOk.nil,XfOk.nil⟩ (L:=λxs nl (d:Int×Int×(((Int×Int×Bool)×(Int×Int×Bool)->Prop)×((Int×Int×Bool)×(Int×Int×Bool)->Int))) vals=>Zf xs nl d.1 d.2.1 d.2.2 vals) (V:=λxs nl (d:Int×Int×(((Int×Int×Bool)×(Int×Int×Bool)->Prop)×((Int×Int×Bool)×(Int×Int×Bool)->Int)))=>Qp xs nl d.1 d.2.1 d.2.2) JM λxs nl d hp=>h xs nl d.1 d.2.1 d.2.2 hp
theorem JJ:JN:=JP λxs nl a b p h=>by
 obtain⟨h1,h2,h3,h4,h5⟩:=h;unfold Qp;(try delta lI gD sT I64 X4 pj8 pj4);intro vals;have hI:∀ e:Int,-1000<=e->e<=1000->InK .i64 e:=λe _ _=>by simp only[Qd];omega
 obtain⟨a,rfl⟩:∃ n:Nat,a=n:=⟨a.toNat,by omega⟩;obtain⟨b,rfl⟩:∃ n:Nat,b=n:=⟨b.toNat,by omega⟩;simp only[zh];refine⟨hI _ (by omega) (by omega),(),(xs,nl,(a:Int)+1),(by and_intros<;>first|rfl|trivial|simp),?_⟩;refine⟨λd=>∃ n:Nat,d.2.2=(a:Int)+1+n/\(n=0\/a+1+n<=b)/\nl=d.2.1/\d.1=Q15 (λx y=>decide (p.2 (x,y)<0)) a n xs,λd=>(1000-d.2.2).toNat,⟨0,by simp,.inl rfl,rfl,rfl⟩,?_⟩;rintro⟨ys,jJ,i⟩ ⟨n,e1,e2,e3,e4⟩;dsimp only at e1 e2 e3 e4 |-;subst e1 e3;refine⟨λc=>?_,λc=>?_⟩
 .have c:a+1+n<b:=by simp at c;omega
  have hp:ys.Perm xs:=by rw[e4];exact G7 _ (by omega)
  have hlen:=hp.length_eq;refine⟨(nl,(a:Int)+1+n),(ys,(a:Int)+1+n),(by and_intros<;>first|rfl|trivial|simp),?_⟩;dsimp only;refine⟨λd=>∃ j:Nat,d.2=j/\j<=a+1+n/\d.1.Perm xs/\EJ (λx y=>decide (p.2 (x,y)<0)) a j d.1=Q15 (λx y=>decide (p.2 (x,y)<0)) a (n+1) xs,λd=>d.2.toNat,⟨a+1+n,by simp,z7 _,hp,by rw[e4];rfl⟩,?_⟩;rintro⟨zs,j'⟩ ⟨j,f1,f2,f3,f4⟩;dsimp only at f1 f3 f4 |-;subst f1;have uT:=f3.length_eq;have jH:((j:Int)-1).toNat=j-1:=by omega
  simp only[zh,jH];refine⟨λg=>by omega,λg=>by omega,λg=>hI _ (by omega) (by omega),λg=>by simp at g;omega,λg=>by omega,λg=>by rw[Qc (show j<zs.length by omega),Qc (show j-1<zs.length by omega)];exact h5 _ (f3.mem_iff.1 (zu _)) _ (f3.mem_iff.1 (zu _)),λg=>?_,λg=>?_⟩
  .have g:a<j/\p.2 (zs.getD j (0,(0,false)),zs.getD (j-1) (0,(0,false)))<0:=by simpa using g
   refine⟨hI _ (by omega) (by omega),hI _ (by omega) (by omega),by omega,by omega,by omega,by omega,by omega,by omega,by omega,by rw[xU];omega,hI _ (by omega) (by omega),((zs.set j (zs.getD (j-1) (0,(0,false)))).set (j-1) (zs.getD j (0,(0,false))),(j:Int)-1),(by and_intros<;>first|rfl|trivial|simp),⟨j-1,by omega,by omega,(Ly (by omega) (by omega)).trans f3,IJ f4 g.1 g.2⟩,by dsimp only;omega⟩
  .refine⟨hI _ (by omega) (by omega),(zs,nl,(a:Int)+1+n+1),(by and_intros<;>first|rfl|trivial|simp),⟨n+1,by simp;omega,by omega,rfl,Q4b f4 λhh=>?_⟩,by dsimp only;omega⟩;have h7:p.2 (zs.getD j (0,(0,false)),zs.getD (j-1) (0,(0,false)))<0:=hh.2;have h8:a<j:=hh.1;rw[zX (show (j:Int) > a by omega),zX h7] at g;cases g
 .have hn:n=b-a-1:=by simp at c;omega
  rw[e4,hn];exact(by and_intros<;>first|rfl|trivial|simp)
def ZC:AL (Int×Int×Int×(((Int×Int×Bool)×(Int×Int×Bool)->Prop)×((Int×Int×Bool)×(Int×Int×Bool)->Int))):=(.cons (.k (.i .i64)) (.cons (.k (.i .i64)) (.cons (.k (.i .i64)) (.one (.fn [(.pair (.i .i64) (.pair (.i .i64) .bo)),(.pair (.i .i64) (.pair (.i .i64) .bo))] (.i .i64))))))
def XB (xs:List (Int×Int×Bool)) (nl:Bool) (d:Int×Int×Int×(((Int×Int×Bool)×(Int×Int×Bool)->Prop)×((Int×Int×Bool)×(Int×Int×Bool)->Int))):Prop:=d.1=0/\d.2.1=xs.length/\xs.length<=12/\(∀ x∈xs,∀ y∈xs,d.2.2.2.1 (x,y))
def Zw (xs:List (Int×Int×Bool)) (nl:Bool) (d:Int×Int×Int×(((Int×Int×Bool)×(Int×Int×Bool)->Prop)×((Int×Int×Bool)×(Int×Int×Bool)->Int))):SV:=.tup []
def Zr (xs:List (Int×Int×Bool)) (nl:Bool) (d:Int×Int×Int×(((Int×Int×Bool)×(Int×Int×Bool)->Prop)×((Int×Int×Bool)×(Int×Int×Bool)->Int))):List (Int×Int×Bool):=(US d.2.2.2.2 xs 0 xs.length)
def QR:XSp:=A4 (gap [] 3) (Ez 87 (.pair (.i .i64) (.pair (.i .i64) .bo)) ZC XB Zw Zr)
def Qu (xs:List (Int×Int×Bool)) (nl:Bool) (a:Int) (b:Int) (li:Int) (p:((Int×Int×Bool)×(Int×Int×Bool)->Prop)×((Int×Int×Bool)×(Int×Int×Bool)->Int)):Prop:=∀ vals:List Value,
 ∃ (e3:Unit) (d30:Unit),((True/\a=a/\b=b/\li=li/\(SV.pf [(.pair (.i .i64) (.pair (.i .i64) .bo)),(.pair (.i .i64) (.pair (.i .i64) .bo))] (.i .i64) p.1 p.2=SV.pf [(.pair (.i .i64) (.pair (.i .i64) .bo)),(.pair (.i .i64) (.pair (.i .i64) .bo))] (.i .i64) p.1 p.2)/\true=true/\true=true/\True)/\((xs=xs/\nl=nl)/\(vals=vals/\(True/\(([]:List SV)=[])))/\True)) /\
 LoopP (λ(d3:Unit) (q3:(Unit)->Prop) =>
  (I64 (b-a))/\((decide ((b-a)<=(12:Int)))=true ->
   (0<=a/\a<=b/\b<=xs.length/\xs.length<=12/\(∀ x∈xs,∀ y∈xs,(λ(x1:(Int×Int×Bool)×(Int×Int×Bool))=>p.1 ((x1.1.1,(x1.1.2.1,x1.1.2.2)),(x1.2.1,(x1.2.2.1,x1.2.2.2)))) (x,y)))/\(vals=vals/\(True/\(([]:List SV)=[]))/\((([]:List SV)=[]))/\((US (λ(x1:(Int×Int×Bool)×(Int×Int×Bool))=>(p.2 ((x1.1.1,(x1.1.2.1,x1.1.2.2)),(x1.2.1,(x1.2.2.1,x1.2.2.2))))) xs a.toNat b.toNat)=(US p.2 xs 0 xs.length)/\nl=nl))) /\
  ((decide ((b-a)<=(12:Int)))=false ->
   ((li==(0:Int))=true ->
    False) /\
   ((li==(0:Int))=false ->
    ((!true)=true ->
     False) /\
    ((!true)=false ->
     False)))) d30
def ZA:Cx:=⟨[],[],148,[],0,[(155,QB),(156,Ii),(157,Ii),(158,Ii)],[],[],[],false,[],[],[],[]⟩
def Zy (xs:List (Int×Int×Bool)) (nl:Bool) (a:Int) (b:Int) (li:Int) (p:((Int×Int×Bool)×(Int×Int×Bool)->Prop)×((Int×Int×Bool)×(Int×Int×Bool)->Int)) (vals:List Value):List (Nat×LoopAnn):=[(0,⟨Unit,Unit,[0,1,2,3,4,10,11],λe x=>[.lst 0,.val (.i .i64) a,.val (.i .i64) b,.val (.i .i64) li,.pf [(.pair (.i .i64) (.pair (.i .i64) .bo)),(.pair (.i .i64) (.pair (.i .i64) .bo))] (.i .i64) p.1 p.2,.val .bo true,.val .bo true],λe x=>[(0,.slot 0,.lst 87 (.pair (.i .i64) (.pair (.i .i64) .bo)) xs nl),(4000000,.key 4000000,.stk [.lst 0] vals)]⟩)]
theorem XR (xs:List (Int×Int×Bool)) (nl:Bool) (d:Int×Int×Int×(((Int×Int×Bool)×(Int×Int×Bool)->Prop)×((Int×Int×Bool)×(Int×Int×Bool)->Int))):(∀ vals,gwp ZA (Zy xs nl d.1 d.2.1 d.2.2.1 d.2.2.2 vals) Z63 0 (AY vals [] (Zw xs nl d) (.lst 87 (.pair (.i .i64) (.pair (.i .i64) .bo)) (Zr xs nl d) nl) (.lst 0)) (U4 148 (.lst 0) (.lst 87 (.pair (.i .i64) (.pair (.i .i64) .bo)) xs nl) vals (AL.can ZC d)))=Qu xs nl d.1 d.2.1 d.2.2.1 d.2.2.2:=by kernel_rfl
abbrev XK:Prop:=XOk Tryz.prog 140 QR
theorem XN (h:∀ (xs:List (Int×Int×Bool)) (nl:Bool) (a:Int) (b:Int) (li:Int) (p:((Int×Int×Bool)×(Int×Int×Bool)->Prop)×((Int×Int×Bool)×(Int×Int×Bool)->Int)),(a=0/\b=xs.length/\xs.length<=12/\(∀ x∈xs,∀ y∈xs,p.1 (x,y)))->Qu xs nl a b li p):XOk Tryz.prog 140 QR :=
 Gv Q4d mixed (LD .nil 3) (C:=ZA) ⟨.nil,(XsOk.cons JJ (XsOk.cons GB (XsOk.cons GB (XsOk.cons GB XsOk.nil)))),ItsOk.nil,YlOk.nil,IysOk.nil,XfOk.nil⟩ (L:=λxs nl (d:Int×Int×Int×(((Int×Int×Bool)×(Int×Int×Bool)->Prop)×((Int×Int×Bool)×(Int×Int×Bool)->Int))) vals=>Zy xs nl d.1 d.2.1 d.2.2.1 d.2.2.2 vals) (V:=λxs nl (d:Int×Int×Int×(((Int×Int×Bool)×(Int×Int×Bool)->Prop)×((Int×Int×Bool)×(Int×Int×Bool)->Int)))=>Qu xs nl d.1 d.2.1 d.2.2.1 d.2.2.2) XR λxs nl d hp=>h xs nl d.1 d.2.1 d.2.2.1 d.2.2.2 hp
theorem Xx:XK:=XN λxs nl a b li p h=>by
 obtain⟨rfl,rfl,h2,h3⟩:=h;unfold Qu;(try delta lI gD sT I64 X4 pj8 pj4);intro vals;refine⟨(),(),(by and_intros<;>first|rfl|trivial|simp),?_⟩;refine⟨λ_=>True,λ_=>0,trivial,?_⟩;rintro⟨⟩ -
 refine⟨by simp only[Qd];omega,λ_=>⟨⟨by omega,by omega,by omega,h2,h3⟩,(by and_intros<;>first|rfl|trivial|simp)⟩,λc=>by simp at c;omega⟩
def Z2:AL (((Int×Int×Bool)×(Int×Int×Bool)->Prop)×((Int×Int×Bool)×(Int×Int×Bool)->Int)):=(.one (.fn [(.pair (.i .i64) (.pair (.i .i64) .bo)),(.pair (.i .i64) (.pair (.i .i64) .bo))] (.i .i64)))
def Jp (xs:List (Int×Int×Bool)) (nl:Bool) (d:((Int×Int×Bool)×(Int×Int×Bool)->Prop)×((Int×Int×Bool)×(Int×Int×Bool)->Int)):Prop:=xs.length<=12/\(∀ x∈xs,∀ y∈xs,d.1 (x,y))
def QZ (xs:List (Int×Int×Bool)) (nl:Bool) (d:((Int×Int×Bool)×(Int×Int×Bool)->Prop)×((Int×Int×Bool)×(Int×Int×Bool)->Int)):SV:=.tup []
def QV (xs:List (Int×Int×Bool)) (nl:Bool) (d:((Int×Int×Bool)×(Int×Int×Bool)->Prop)×((Int×Int×Bool)×(Int×Int×Bool)->Int)):List (Int×Int×Bool):=(US d.2 xs 0 xs.length)
def Qy:XSp:=A4 (gap [(66,YV)] 3) (Ez 87 (.pair (.i .i64) (.pair (.i .i64) .bo)) Z2 Jp QZ QV)
def Ql (xs:List (Int×Int×Bool)) (nl:Bool) (p:((Int×Int×Bool)×(Int×Int×Bool)->Prop)×((Int×Int×Bool)×(Int×Int×Bool)->Int)):Prop:=∀ vals:List Value,
 (InK .u64 (lI xs))/\(0<=(lI xs)/\(lI xs)<=255)/\((0:Int)=0/\(lI xs)=xs.length/\xs.length<=12/\(∀ x∈xs,∀ y∈xs,(λ(x1:(Int×Int×Bool)×(Int×Int×Bool))=>p.1 ((x1.1.1,(x1.1.2.1,x1.1.2.2)),(x1.2.1,(x1.2.2.1,x1.2.2.2)))) (x,y)))/\(vals=vals/\(True/\(([]:List SV)=[]))/\((([]:List SV)=[]))/\((US (λ(x1:(Int×Int×Bool)×(Int×Int×Bool))=>(p.2 ((x1.1.1,(x1.1.2.1,x1.1.2.2)),(x1.2.1,(x1.2.2.1,x1.2.2.2))))) xs 0 xs.length)=(US p.2 xs 0 xs.length)/\nl=nl))
def Z7:Cx:=⟨[],[(141,Y0)],14,[],0,[(140,QR)],[],[],[],false,[],[],[],[]⟩
def Z3 (xs:List (Int×Int×Bool)) (nl:Bool) (p:((Int×Int×Bool)×(Int×Int×Bool)->Prop)×((Int×Int×Bool)×(Int×Int×Bool)->Int)) (vals:List Value):List (Nat×LoopAnn):=[]
theorem Jx (xs:List (Int×Int×Bool)) (nl:Bool) (d:((Int×Int×Bool)×(Int×Int×Bool)->Prop)×((Int×Int×Bool)×(Int×Int×Bool)->Int)):(∀ vals,gwp Z7 (Z3 xs nl d vals) Z7e 0 (AY vals [] (QZ xs nl d) (.lst 87 (.pair (.i .i64) (.pair (.i .i64) .bo)) (QV xs nl d) nl) (.lst 0)) (U4 14 (.lst 0) (.lst 87 (.pair (.i .i64) (.pair (.i .i64) .bo)) xs nl) vals (AL.can Z2 d)))=Ql xs nl d:=by kernel_rfl
abbrev Jw:Prop:=XOk Tryz.prog 109 Qy
theorem Jz (h:∀ (xs:List (Int×Int×Bool)) (nl:Bool) (p:((Int×Int×Bool)×(Int×Int×Bool)->Prop)×((Int×Int×Bool)×(Int×Int×Bool)->Int)),(xs.length<=12/\(∀ x∈xs,∀ y∈xs,p.1 (x,y)))->Ql xs nl p):XOk Tryz.prog 109 Qy :=
 Gv Q4h mixed (LD (.cons Mx .nil) 3) (C:=Z7) ⟨(.cons NM .nil),(XsOk.cons Xx XsOk.nil),ItsOk.nil,YlOk.nil,IysOk.nil,XfOk.nil⟩ (L:=λxs nl (d:((Int×Int×Bool)×(Int×Int×Bool)->Prop)×((Int×Int×Bool)×(Int×Int×Bool)->Int)) vals=>Z3 xs nl d vals) (V:=λxs nl (d:((Int×Int×Bool)×(Int×Int×Bool)->Prop)×((Int×Int×Bool)×(Int×Int×Bool)->Int))=>Ql xs nl d) Jx λxs nl d hp=>h xs nl d hp
theorem Jr:Jw:=Jz λxs nl p h=>by unfold Ql;(try delta lI gD sT I64 X4 pj8 pj4);intro vals;have:=h.1;refine⟨by simp only[N9];omega,⟨by omega,by omega⟩,⟨rfl,rfl,h.1,h.2⟩,?_⟩;exact(by and_intros<;>first|rfl|trivial|simp)
def H4:AL (Int×List (Int×Int×Bool)):=(.one (.agg (.cons (.k (.i .i64)) (.one (.k (.list (.pair (.i .i64) (.pair (.i .i64) .bo))))))))
def Sy (d:Int×List (Int×Int×Bool)):Prop:=d.2.length<=1000/\(Qq d.1 d.2=0->d.2.length<=12)
def D5 (d:Int×List (Int×Int×Bool)):SV:=.tup [.agg [.val (.i .i64) (Kz d.1 d.2),.lst 0],.val (.i .i64) (Qq d.1 d.2)]
def GZ (d:Int×List (Int×Int×Bool)):List OB:=[.lst 87 (.pair (.i .i64) (.pair (.i .i64) .bo)) (J_ d.1 d.2) ((J_ d.1 d.2).isEmpty)]
def Mr:CSp:=Ko H4 Sy D5 GZ
abbrev Ku :=(((([]:List SV)=[]))/\(True/\(([]:List SV)=[])))
abbrev Cw :=(Ku/\(((([]:List SV)=[]))/\((([]:List SV)=[])))/\True/\True/\True/\True/\Ku/\True/\True/\True/\True/\True/\(([]:List SV)=[]))
abbrev GD (hk:Int) (cs:List (Int×Int×Bool)):=(((J_ hk cs)=[]/\(J_ hk cs).isEmpty=true)/\True)
abbrev GF (hk:Int) (cs:List (Int×Int×Bool)):=((0:Int)=(Kz hk cs)/\True/\(([]:List SV)=[]))
abbrev Ct :=(True/\Ku/\True/\True/\True/\True/\Ku/\True/\True/\True/\True/\True/\True/\(([]:List SV)=[]))
abbrev Cq :=(λ(x1:(Int×Int×Bool)×(Int×Int×Bool))=>(AZ x1.1.1 x1.2.1))
abbrev Ci :=(λ(x2:(Int×Int×Bool)×(Int×Int×Bool))=>(AZ x2.1.1 x2.2.1))
abbrev Cz :=(Ku/\True/\True/\Ku/\True/\(([]:List SV)=[]))
def KA (hk:Int) (cs:List (Int×Int×Bool)):Prop :=
 ∀ w1:List Value,∀ w2:List Value,(True)/\((!(inI hk 1 24))=true ->
  w2=w2/\w1=w1/\(((GF hk cs)/\(3:Int)=(Qq hk cs)/\(([]:List SV)=[]))/\(GD hk cs))) /\
 ((!(inI hk 1 24))=false ->
  (((decide ((lI cs) > (60:Int)))=true ->
   w2=w2/\w1=w1/\(((GF hk cs)/\(5:Int)=(Qq hk cs)/\(([]:List SV)=[]))/\(GD hk cs))) /\
  ((decide ((lI cs) > (60:Int)))=false ->
   (1<=hk/\hk<=24/\cs.length<=1000000)/\((!(!cs.isEmpty&&!(cs.any λc=>!QL hk c)))=true ->
    w2=w2/\w1=w1/\(((GF hk cs)/\(2:Int)=(Qq hk cs)/\(([]:List SV)=[]))/\(GD hk cs))) /\
   ((!(!cs.isEmpty&&!(cs.any λc=>!QL hk c)))=false ->
    w2=w2/\∃ (e5:Int×(List (Int×Int×Bool))×Int×Int×Int×(List (Int×Int×Bool))×Int×(List (Int×Int×Bool))×Int×Int×(List (Int×Int×Bool))×Int×(List (Int×Int×Bool))×Int×Int×Int×(List (Int×Int×Bool))×(List Value)) (d50:(List (Int×Bool))×Int),((True/\True/\True/\True/\cs=(q4 e5).2.2.2.1/\(lI cs)=(q4 (q4 e5)).1/\(0:Int)=d50.2/\True)/\((hk=e5.1/\cs=e5.2.1/\(([]:List SV)=[]))/\((0:Int)=e5.2.2.1/\True/\(0:Int)=e5.2.2.2.1/\(([]:List SV)=[]))/\(hk=(q4 e5).1/\cs=(q4 e5).2.1/\hk=(q4 e5).2.2.1/\(([]:List SV)=[]))/\(([]:List (Int×Bool))=d50.1)/\((q4 (q4 (q4 (q4 e5)))).2=w1/\((hk=(q4 (q4 e5)).2.1/\cs=(q4 (q4 e5)).2.2.1/\(([]:List SV)=[]))/\True/\True/\(0:Int)=(q4 (q4 (q4 e5))).2.2.1/\True/\True/\True/\True/\(hk=(q4 (q4 (q4 e5))).2.2.2.1/\cs=(q4 (q4 (q4 (q4 e5)))).1/\(([]:List SV)=[]))/\True/\True/\True/\True/\True/\True/\True/\True/\True/\True/\True/\True/\True/\True/\True/\True/\True/\True/\True/\True/\True/\True/\True/\True/\True/\(([]:List SV)=[])))/\(hk=(q4 (q4 e5)).2.2.2.1/\cs=(q4 (q4 (q4 e5))).1/\(([]:List SV)=[]))/\((0:Int)=(q4 (q4 (q4 e5))).2.1/\True/\(([]:List SV)=[]))/\True)) /\
    LoopP (λ(d5:(List (Int×Bool))×Int) (q5:((List (Int×Bool))×Int)->Prop) =>
     ((decide (d5.2<(q4 (q4 e5)).1))=true ->
      (0<=d5.2)/\(d5.2<(List.length (q4 e5).2.2.2.1))/\(I64 (d5.2+(1:Int)))/\(∃ d6:(List (Int×Bool))×Int,((True/\True/\True/\True/\(q4 e5).2.2.2.1=(q4 e5).2.2.2.1/\(q4 (q4 e5)).1=(q4 (q4 e5)).1/\(d5.2+(1:Int))=d6.2/\True)/\((e5.1=e5.1/\e5.2.1=e5.2.1/\(([]:List SV)=[]))/\(e5.2.2.1=e5.2.2.1/\True/\e5.2.2.2.1=e5.2.2.2.1/\(([]:List SV)=[]))/\((q4 e5).1=(q4 e5).1/\(q4 e5).2.1=(q4 e5).2.1/\(q4 e5).2.2.1=(q4 e5).2.2.1/\(([]:List SV)=[]))/\((Nf (.i .i64) d5.1 (gD (q4 e5).2.2.2.1 d5.2 (0,(0,false))).1 true)=d6.1)/\((q4 (q4 (q4 (q4 e5)))).2=(q4 (q4 (q4 (q4 e5)))).2/\(((q4 (q4 e5)).2.1=(q4 (q4 e5)).2.1/\(q4 (q4 e5)).2.2.1=(q4 (q4 e5)).2.2.1/\(([]:List SV)=[]))/\True/\True/\(q4 (q4 (q4 e5))).2.2.1=(q4 (q4 (q4 e5))).2.2.1/\True/\True/\True/\True/\((q4 (q4 (q4 e5))).2.2.2.1=(q4 (q4 (q4 e5))).2.2.2.1/\(q4 (q4 (q4 (q4 e5)))).1=(q4 (q4 (q4 (q4 e5)))).1/\(([]:List SV)=[]))/\True/\True/\True/\True/\True/\True/\True/\True/\True/\True/\True/\True/\True/\True/\True/\True/\True/\True/\True/\True/\True/\True/\True/\True/\True/\(([]:List SV)=[])))/\((q4 (q4 e5)).2.2.2.1=(q4 (q4 e5)).2.2.2.1/\(q4 (q4 (q4 e5))).1=(q4 (q4 (q4 e5))).1/\(([]:List SV)=[]))/\((q4 (q4 (q4 e5))).2.1=(q4 (q4 (q4 e5))).2.1/\True/\(([]:List SV)=[]))/\True))/\q5 d6)) /\
     ((decide (d5.2<(q4 (q4 e5)).1))=false ->
      ((gq.aget (.i .i64) d5.1 (-1:Int) false)=true ->
       (q4 (q4 (q4 (q4 e5)))).2=w1/\(((GF hk cs)/\(9:Int)=(Qq hk cs)/\(([]:List SV)=[]))/\(GD hk cs))) /\
      ((gq.aget (.i .i64) d5.1 (-1:Int) false)=false ->
       ((decide ((lI d5.1)<(lI e5.2.1)))=true ->
        (q4 (q4 (q4 (q4 e5)))).2=w1/\(((GF hk cs)/\(6:Int)=(Qq hk cs)/\(([]:List SV)=[]))/\(GD hk cs))) /\
       ((decide ((lI d5.1)<(lI e5.2.1)))=false ->
        (q4 (q4 (q4 (q4 e5)))).2=w1/\∀ w7:List Value,w7=w7/\∀ w8:List Value,∀ w9:List Value,∀ gZ:List Value,∀ fM:LpD,∃ (au:(List (Int×Int×Bool))×Int×Int×(List (Int×Int×Bool))×Int×(List (Int×Int×Bool))×Int×Int×Int×(List (Int×Int×Bool))×Int×Int×Int×(List (Int×Int×Bool))×Int×Int×Int×(List (Int×Int×Bool))×Int×(List (Int×Int×Bool))×Int×Int×Int×(List (Int×Int×Bool))×Int×Int×Int×(List (Int×Int×Bool))×(List (Int×Int×Bool))×(List Value)×(List Value)×(List Value)×LpD) (d150:Int×(List (Int×Int×Bool))),((True/\(q4 (q4 (q4 e5))).1=au.1/\(lI (q4 (q4 (q4 e5))).1)=au.2.1/\(0:Int)=d150.1/\True)/\(((q4 (q4 (q4 (q4 (q4 (q4 (q4 au))))))).2.1=w8/\(((q4 (q4 e5)).2.1=au.2.2.1/\(q4 (q4 e5)).2.2.1=au.2.2.2.1/\(([]:List SV)=[]))/\True/\True/\(q4 (q4 (q4 e5))).2.2.1=(q4 au).2.2.2.1/\True/\(0:Int)=(q4 (q4 au)).2.2.2.1/\True/\(((q4 e5).1=(q4 (q4 (q4 au))).1/\(q4 e5).2.1=(q4 (q4 (q4 au))).2.1/\(q4 e5).2.2.1=(q4 (q4 (q4 au))).2.2.1/\(([]:List SV)=[]))/\(0:Int)=(q4 (q4 (q4 au))).2.2.2.1/\(([]:List SV)=[]))/\((q4 (q4 (q4 e5))).2.2.2.1=(q4 (q4 (q4 (q4 au)))).1/\(q4 (q4 (q4 (q4 e5)))).1=(q4 (q4 (q4 (q4 au)))).2.1/\(([]:List SV)=[]))/\(((q4 e5).1=(q4 (q4 (q4 (q4 au)))).2.2.1/\(q4 e5).2.1=(q4 (q4 (q4 (q4 au)))).2.2.2.1/\(q4 e5).2.2.1=(q4 (q4 (q4 (q4 (q4 au))))).1/\(([]:List SV)=[]))/\(0:Int)=(q4 (q4 (q4 (q4 (q4 au))))).2.1/\(([]:List SV)=[]))/\((q4 e5).1=(q4 (q4 (q4 (q4 (q4 au))))).2.2.1/\(q4 e5).2.1=(q4 (q4 (q4 (q4 (q4 au))))).2.2.2.1/\(q4 e5).2.2.1=(q4 (q4 (q4 (q4 (q4 (q4 au)))))).1/\(([]:List SV)=[]))/\(0:Int)=(q4 (q4 (q4 (q4 (q4 (q4 au)))))).2.1/\(0:Int)=(q4 (q4 (q4 (q4 (q4 (q4 au)))))).2.2.1/\True/\True/\True/\True/\(q4 (q4 (q4 e5))).1=(q4 (q4 (q4 (q4 (q4 (q4 au)))))).2.2.2.1/\Ku/\True/\True/\True/\True/\True/\True/\True/\True/\True/\True/\True/\True/\True/\True/\True/\(([]:List SV)=[])))/\((q4 (q4 e5)).2.2.2.1=(q4 au).1/\(q4 (q4 (q4 e5))).1=(q4 au).2.1/\(([]:List SV)=[]))/\((q4 (q4 (q4 e5))).2.1=(q4 au).2.2.1/\True/\(([]:List SV)=[]))/\((q4 e5).1=(q4 (q4 au)).1/\(q4 e5).2.1=(q4 (q4 au)).2.1/\(q4 e5).2.2.1=(q4 (q4 au)).2.2.1/\(([]:List SV)=[]))/\((q4 (q4 (q4 e5))).1=(q4 (q4 (q4 (q4 (q4 (q4 (q4 au))))))).1/\(([]:List SV)=[]))/\((q4 (q4 (q4 (q4 (q4 (q4 (q4 au))))))).2.2.1=w9/\Cw)/\((q4 (q4 (q4 (q4 (q4 (q4 (q4 au))))))).2.2.2.1=gZ/\Cz)/\((q4 (q4 (q4 (q4 (q4 (q4 (q4 (q4 au))))))))=fM/\Ct)/\(True/\(([]:List SV)=[]))/\(d150.2=[]/\(List.isEmpty d150.2)=true)/\True)) /\
        LoopP (λ(d15:Int×(List (Int×Int×Bool))) (pG:(Int×(List (Int×Int×Bool)))->Prop) =>
         ((decide (d15.1<au.2.1))=true ->
          (0<=d15.1)/\(d15.1<(List.length au.1))/\(q4 (q4 (q4 (q4 (q4 (q4 (q4 (q4 au))))))))=fM/\∀ sv:List Value,(((List.length d15.2)+(List.length [((gD au.1 d15.1 (0,(0,false))).1,((gD au.1 d15.1 (0,(0,false))).2.1,(gD au.1 d15.1 (0,(0,false))).2.2))]))*24<=70368744177664)/\sv=sv/\(q4 (q4 (q4 (q4 (q4 (q4 (q4 (q4 au))))))))=fM/\((!true)=true ->
           (q4 (q4 (q4 (q4 (q4 (q4 (q4 (q4 au))))))))=fM/\(q4 (q4 (q4 (q4 (q4 (q4 (q4 au))))))).2.2.2.1=gZ/\(q4 (q4 (q4 (q4 (q4 (q4 (q4 au))))))).2.2.1=w9/\((d15.2++[((gD au.1 d15.1 (0,(0,false))).1,((gD au.1 d15.1 (0,(0,false))).2.1,(gD au.1 d15.1 (0,(0,false))).2.2))]).length<=12/\(∀ x∈(d15.2++[((gD au.1 d15.1 (0,(0,false))).1,((gD au.1 d15.1 (0,(0,false))).2.1,(gD au.1 d15.1 (0,(0,false))).2.2))]),∀ y∈(d15.2++[((gD au.1 d15.1 (0,(0,false))).1,((gD au.1 d15.1 (0,(0,false))).2.1,(gD au.1 d15.1 (0,(0,false))).2.2))]),(λ(x1:(Int×Int×Bool)×(Int×Int×Bool))=>True) (x,y)))/\(q4 (q4 (q4 (q4 (q4 (q4 (q4 au))))))).2.1=w8/\∃ (oO:Int) (d170:(List (Int×Int×Bool))×Int),((True/\True/\(lI (US Cq (d15.2++[((gD au.1 d15.1 (0,(0,false))).1,((gD au.1 d15.1 (0,(0,false))).2.1,(gD au.1 d15.1 (0,(0,false))).2.2))]) 0 (d15.2++[((gD au.1 d15.1 (0,(0,false))).1,((gD au.1 d15.1 (0,(0,false))).2.1,(gD au.1 d15.1 (0,(0,false))).2.2))]).length))=oO/\(0:Int)=d170.2/\True)/\(((q4 au).1=hk/\True/\(([]:List SV)=[]))/\((US Cq (d15.2++[((gD au.1 d15.1 (0,(0,false))).1,((gD au.1 d15.1 (0,(0,false))).2.1,(gD au.1 d15.1 (0,(0,false))).2.2))]) 0 (d15.2++[((gD au.1 d15.1 (0,(0,false))).1,((gD au.1 d15.1 (0,(0,false))).2.1,(gD au.1 d15.1 (0,(0,false))).2.2))]).length)=d170.1/\false=(List.isEmpty d170.1))/\((q4 au).2.2.1=(0:Int)/\True/\(([]:List SV)=[]))/\True)) /\
           LoopP (λ(d17:(List (Int×Int×Bool))×Int) (u2:((List (Int×Int×Bool))×Int)->Prop) =>
            ((decide (d17.2<oO))=true ->
             (0<=d17.2)/\(d17.2<(List.length d17.1))/\(I64 (d17.2+(1:Int)))/\(∃ d18:(List (Int×Int×Bool))×Int,((True/\True/\oO=oO/\(d17.2+(1:Int))=d18.2/\True)/\((hk=hk/\True/\(([]:List SV)=[]))/\((sT d17.1 d17.2 ((gD d17.1 d17.2 (0,(0,false))).1,((gD d17.1 d17.2 (0,(0,false))).2.1,false)))=d18.1/\(List.isEmpty d17.1)=(List.isEmpty d18.1))/\((0:Int)=(0:Int)/\True/\(([]:List SV)=[]))/\True))/\u2 d18)) /\
            ((decide (d17.2<oO))=false ->
             (((hk=(Kz hk cs)/\True/\(([]:List SV)=[]))/\(0:Int)=(Qq hk cs)/\(([]:List SV)=[]))/\((d17.1=(J_ hk cs)/\(List.isEmpty d17.1)=(J_ hk cs).isEmpty)/\True)))) d170) /\
          ((!true)=false ->
           (I64 (d15.1+(1:Int)))/\(∃ d19:Int×(List (Int×Int×Bool)),((True/\au.1=au.1/\au.2.1=au.2.1/\(d15.1+(1:Int))=d19.1/\True)/\(((q4 (q4 (q4 (q4 (q4 (q4 (q4 au))))))).2.1=(q4 (q4 (q4 (q4 (q4 (q4 (q4 au))))))).2.1/\((au.2.2.1=au.2.2.1/\au.2.2.2.1=au.2.2.2.1/\(([]:List SV)=[]))/\True/\True/\(q4 au).2.2.2.1=(q4 au).2.2.2.1/\True/\(q4 (q4 au)).2.2.2.1=(q4 (q4 au)).2.2.2.1/\True/\(((q4 (q4 (q4 au))).1=(q4 (q4 (q4 au))).1/\(q4 (q4 (q4 au))).2.1=(q4 (q4 (q4 au))).2.1/\(q4 (q4 (q4 au))).2.2.1=(q4 (q4 (q4 au))).2.2.1/\(([]:List SV)=[]))/\(q4 (q4 (q4 au))).2.2.2.1=(q4 (q4 (q4 au))).2.2.2.1/\(([]:List SV)=[]))/\((q4 (q4 (q4 (q4 au)))).1=(q4 (q4 (q4 (q4 au)))).1/\(q4 (q4 (q4 (q4 au)))).2.1=(q4 (q4 (q4 (q4 au)))).2.1/\(([]:List SV)=[]))/\(((q4 (q4 (q4 (q4 au)))).2.2.1=(q4 (q4 (q4 (q4 au)))).2.2.1/\(q4 (q4 (q4 (q4 au)))).2.2.2.1=(q4 (q4 (q4 (q4 au)))).2.2.2.1/\(q4 (q4 (q4 (q4 (q4 au))))).1=(q4 (q4 (q4 (q4 (q4 au))))).1/\(([]:List SV)=[]))/\(q4 (q4 (q4 (q4 (q4 au))))).2.1=(q4 (q4 (q4 (q4 (q4 au))))).2.1/\(([]:List SV)=[]))/\((q4 (q4 (q4 (q4 (q4 au))))).2.2.1=(q4 (q4 (q4 (q4 (q4 au))))).2.2.1/\(q4 (q4 (q4 (q4 (q4 au))))).2.2.2.1=(q4 (q4 (q4 (q4 (q4 au))))).2.2.2.1/\(q4 (q4 (q4 (q4 (q4 (q4 au)))))).1=(q4 (q4 (q4 (q4 (q4 (q4 au)))))).1/\(([]:List SV)=[]))/\(q4 (q4 (q4 (q4 (q4 (q4 au)))))).2.1=(q4 (q4 (q4 (q4 (q4 (q4 au)))))).2.1/\(q4 (q4 (q4 (q4 (q4 (q4 au)))))).2.2.1=(q4 (q4 (q4 (q4 (q4 (q4 au)))))).2.2.1/\True/\True/\True/\True/\(q4 (q4 (q4 (q4 (q4 (q4 au)))))).2.2.2.1=(q4 (q4 (q4 (q4 (q4 (q4 au)))))).2.2.2.1/\Ku/\True/\True/\True/\True/\True/\True/\True/\True/\True/\True/\True/\True/\True/\True/\True/\(([]:List SV)=[])))/\((q4 au).1=(q4 au).1/\(q4 au).2.1=(q4 au).2.1/\(([]:List SV)=[]))/\((q4 au).2.2.1=(q4 au).2.2.1/\True/\(([]:List SV)=[]))/\((q4 (q4 au)).1=(q4 (q4 au)).1/\(q4 (q4 au)).2.1=(q4 (q4 au)).2.1/\(q4 (q4 au)).2.2.1=(q4 (q4 au)).2.2.1/\(([]:List SV)=[]))/\((q4 (q4 (q4 (q4 (q4 (q4 (q4 au))))))).1=(q4 (q4 (q4 (q4 (q4 (q4 (q4 au))))))).1/\(([]:List SV)=[]))/\((q4 (q4 (q4 (q4 (q4 (q4 (q4 au))))))).2.2.1=(q4 (q4 (q4 (q4 (q4 (q4 (q4 au))))))).2.2.1/\Cw)/\((q4 (q4 (q4 (q4 (q4 (q4 (q4 au))))))).2.2.2.1=(q4 (q4 (q4 (q4 (q4 (q4 (q4 au))))))).2.2.2.1/\Cz)/\((q4 (q4 (q4 (q4 (q4 (q4 (q4 (q4 au))))))))=(q4 (q4 (q4 (q4 (q4 (q4 (q4 (q4 au))))))))/\Ct)/\(True/\(([]:List SV)=[]))/\((d15.2++[((gD au.1 d15.1 (0,(0,false))).1,((gD au.1 d15.1 (0,(0,false))).2.1,(gD au.1 d15.1 (0,(0,false))).2.2))])=d19.2/\false=(List.isEmpty d19.2))/\True))/\pG d19))) /\
         ((decide (d15.1<au.2.1))=false ->
          (q4 (q4 (q4 (q4 (q4 (q4 (q4 (q4 au))))))))=fM/\(q4 (q4 (q4 (q4 (q4 (q4 (q4 au))))))).2.2.2.1=gZ/\(q4 (q4 (q4 (q4 (q4 (q4 (q4 au))))))).2.2.1=w9/\(d15.2.length<=12/\(∀ x∈d15.2,∀ y∈d15.2,(λ(x2:(Int×Int×Bool)×(Int×Int×Bool))=>True) (x,y)))/\(q4 (q4 (q4 (q4 (q4 (q4 (q4 au))))))).2.1=w8/\∃ (oP:Int) (jQ:(List (Int×Int×Bool))×Int),((True/\True/\(lI (US Ci d15.2 0 d15.2.length))=oP/\(0:Int)=jQ.2/\True)/\(((q4 au).1=hk/\True/\(([]:List SV)=[]))/\((US Ci d15.2 0 d15.2.length)=jQ.1/\(List.isEmpty d15.2)=(List.isEmpty jQ.1))/\((q4 au).2.2.1=(0:Int)/\True/\(([]:List SV)=[]))/\True)) /\
          LoopP (λ(d22:(List (Int×Int×Bool))×Int) (u4:((List (Int×Int×Bool))×Int)->Prop) =>
           ((decide (d22.2<oP))=true ->
            (0<=d22.2)/\(d22.2<(List.length d22.1))/\(I64 (d22.2+(1:Int)))/\(∃ d23:(List (Int×Int×Bool))×Int,((True/\True/\oP=oP/\(d22.2+(1:Int))=d23.2/\True)/\((hk=hk/\True/\(([]:List SV)=[]))/\((sT d22.1 d22.2 ((gD d22.1 d22.2 (0,(0,false))).1,((gD d22.1 d22.2 (0,(0,false))).2.1,false)))=d23.1/\(List.isEmpty d22.1)=(List.isEmpty d23.1))/\((0:Int)=(0:Int)/\True/\(([]:List SV)=[]))/\True))/\u4 d23)) /\
           ((decide (d22.2<oP))=false ->
            (((hk=(Kz hk cs)/\True/\(([]:List SV)=[]))/\(0:Int)=(Qq hk cs)/\(([]:List SV)=[]))/\((d22.1=(J_ hk cs)/\(List.isEmpty d22.1)=(J_ hk cs).isEmpty)/\True)))) jQ)) d150)))) d50))))
def Xf:Cx:=⟨[(1000018,(.pair (.i .i64) .bo))],[(87,Z9),(86,QW)],43,[3000015],0,[(103,VT)],[],[],[],false,[],[],[15],[]⟩
def Xn:List (Nat×LoopAnn):=[(0,⟨Int×(List (Int×Int×Bool))×Int×Int×Int×(List (Int×Int×Bool))×Int×(List (Int×Int×Bool))×Int×Int×(List (Int×Int×Bool))×Int×(List (Int×Int×Bool))×Int×Int×Int×(List (Int×Int×Bool))×(List Value),(List (Int×Bool))×Int,[1,2,4,6,20,21,22],λe x=>[.box 1000001 0,.box 1000002 0,.box 1000004 0,.map 1000018,.val (.list (.pair (.i .i64) (.pair (.i .i64) .bo))) e.2.2.2.2.2.2.2.1,.val (.i .i64) e.2.2.2.2.2.2.2.2.1,.val (.i .i64) x.2],λe x=>[(1000001,.slot 1,.cells [.val (.i .i64) e.1,.val (.list (.pair (.i .i64) (.pair (.i .i64) .bo))) e.2.1] (some 24)),(1000002,.slot 2,.cells [.val (.i .i64) e.2.2.1,.nilS,.val (.i .i64) e.2.2.2.1] (some 119)),(1000004,.slot 4,.cells [.val (.i .i64) e.2.2.2.2.1,.val (.list (.pair (.i .i64) (.pair (.i .i64) .bo))) e.2.2.2.2.2.1,.val (.i .i64) e.2.2.2.2.2.2.1] (some 119)),(1000018,.slot 6,.map (.i .i64) .bo x.1),(999999,.key 999999,.stk [.agg [.val (.i .i64) e.2.2.2.2.2.2.2.2.2.1,.val (.list (.pair (.i .i64) (.pair (.i .i64) .bo))) e.2.2.2.2.2.2.2.2.2.2.1],.box 1 0,.box 2 0,.val (.i .i64) e.2.2.2.2.2.2.2.2.2.2.2.2.2.2.1,.any,.any,.any,.any,.agg [.val (.i .i64) e.2.2.2.2.2.2.2.2.2.2.2.2.2.2.2.1,.val (.list (.pair (.i .i64) (.pair (.i .i64) .bo))) e.2.2.2.2.2.2.2.2.2.2.2.2.2.2.2.2.1],.any,.any,.any,.any,.any,.any,.any,.any,.any,.any,.any,.any,.any,.any,.any,.any,.any,.any,.any,.any,.any,.any,.any,.any,.any] e.2.2.2.2.2.2.2.2.2.2.2.2.2.2.2.2.2),(1,.key 1,.cells [.val (.i .i64) e.2.2.2.2.2.2.2.2.2.2.2.1,.val (.list (.pair (.i .i64) (.pair (.i .i64) .bo))) e.2.2.2.2.2.2.2.2.2.2.2.2.1] (some 24)),(2,.key 2,.cells [.val (.i .i64) e.2.2.2.2.2.2.2.2.2.2.2.2.2.1,.nilS] (some 24))]⟩)]
def QC:Cx:=⟨[],[],4,[],0,[],[],[],[],false,[],[],[],[]⟩
def QE:List (Nat×LoopAnn):=[]
def Q2:Cx:=⟨[],[],16,[],0,[],[],[],[],false,[],[],[],[]⟩
def Q3:List (Nat×LoopAnn):=[(0,⟨(List (Int×Int×Bool))×Int×Int×(List (Int×Int×Bool))×Int×(List (Int×Int×Bool))×Int×Int×Int×(List (Int×Int×Bool))×Int×Int×Int×(List (Int×Int×Bool))×Int×Int×Int×(List (Int×Int×Bool))×Int×(List (Int×Int×Bool))×Int×Int×Int×(List (Int×Int×Bool))×Int×Int×Int×(List (Int×Int×Bool))×(List (Int×Int×Bool))×(List Value)×(List Value)×(List Value)×LpD,Int×(List (Int×Int×Bool)),[0,5,6,7],λe x=>[.dd 20000080002500000 .yv,.val (.list (.pair (.i .i64) (.pair (.i .i64) .bo))) e.1,.val (.i .i64) e.2.1,.val (.i .i64) x.1],λe x=>[(1999999,.key 1999999,.stk [.agg [.val (.i .i64) e.2.2.1,.val (.list (.pair (.i .i64) (.pair (.i .i64) .bo))) e.2.2.2.1],.box 1 0,.box 2 0,.val (.i .i64) e.2.2.2.2.2.2.2.1,.box 4 0,.val (.i .i64) e.2.2.2.2.2.2.2.2.2.2.2.1,.any,.tup [.agg [.val (.i .i64) e.2.2.2.2.2.2.2.2.2.2.2.2.1,.val (.list (.pair (.i .i64) (.pair (.i .i64) .bo))) e.2.2.2.2.2.2.2.2.2.2.2.2.2.1,.val (.i .i64) e.2.2.2.2.2.2.2.2.2.2.2.2.2.2.1],.val (.i .i64) e.2.2.2.2.2.2.2.2.2.2.2.2.2.2.2.1],.agg [.val (.i .i64) e.2.2.2.2.2.2.2.2.2.2.2.2.2.2.2.2.1,.val (.list (.pair (.i .i64) (.pair (.i .i64) .bo))) e.2.2.2.2.2.2.2.2.2.2.2.2.2.2.2.2.2.1],.tup [.agg [.val (.i .i64) e.2.2.2.2.2.2.2.2.2.2.2.2.2.2.2.2.2.2.1,.val (.list (.pair (.i .i64) (.pair (.i .i64) .bo))) e.2.2.2.2.2.2.2.2.2.2.2.2.2.2.2.2.2.2.2.1,.val (.i .i64) e.2.2.2.2.2.2.2.2.2.2.2.2.2.2.2.2.2.2.2.2.1],.val (.i .i64) e.2.2.2.2.2.2.2.2.2.2.2.2.2.2.2.2.2.2.2.2.2.1],.agg [.val (.i .i64) e.2.2.2.2.2.2.2.2.2.2.2.2.2.2.2.2.2.2.2.2.2.2.1,.val (.list (.pair (.i .i64) (.pair (.i .i64) .bo))) e.2.2.2.2.2.2.2.2.2.2.2.2.2.2.2.2.2.2.2.2.2.2.2.1,.val (.i .i64) e.2.2.2.2.2.2.2.2.2.2.2.2.2.2.2.2.2.2.2.2.2.2.2.2.1],.val (.i .i64) e.2.2.2.2.2.2.2.2.2.2.2.2.2.2.2.2.2.2.2.2.2.2.2.2.2.1,.val (.i .i64) e.2.2.2.2.2.2.2.2.2.2.2.2.2.2.2.2.2.2.2.2.2.2.2.2.2.2.1,.any,.any,.any,.box 1 1,.val (.list (.pair (.i .i64) (.pair (.i .i64) .bo))) e.2.2.2.2.2.2.2.2.2.2.2.2.2.2.2.2.2.2.2.2.2.2.2.2.2.2.2.1,.fn 110 [] [.box 1900001 0],.any,.any,.any,.any,.any,.any,.any,.any,.any,.any,.any,.any,.any,.any,.any] e.2.2.2.2.2.2.2.2.2.2.2.2.2.2.2.2.2.2.2.2.2.2.2.2.2.2.2.2.2.1),(1,.key 1,.cells [.val (.i .i64) e.2.2.2.2.1,.val (.list (.pair (.i .i64) (.pair (.i .i64) .bo))) e.2.2.2.2.2.1] (some 24)),(2,.key 2,.cells [.val (.i .i64) e.2.2.2.2.2.2.1,.nilS] (some 24)),(4,.key 4,.cells [.val (.i .i64) e.2.2.2.2.2.2.2.2.1,.val (.list (.pair (.i .i64) (.pair (.i .i64) .bo))) e.2.2.2.2.2.2.2.2.2.1,.val (.i .i64) e.2.2.2.2.2.2.2.2.2.2.1] (some 119)),(1900001,.key 1900001,.cells [.val (.list (.pair (.i .i64) (.pair (.i .i64) .bo))) e.2.2.2.2.2.2.2.2.2.2.2.2.2.2.2.2.2.2.2.2.2.2.2.2.2.2.2.2.1] (some 22)),(200000799999,.key 200000799999,.stk [.fn 110 [] [.box 1900001 0],.fn 66 [] [],.any,.any,.nilS,.any,.fn 110 [] [.box 1900001 0],.any,.any,.any,.any,.any] e.2.2.2.2.2.2.2.2.2.2.2.2.2.2.2.2.2.2.2.2.2.2.2.2.2.2.2.2.2.2.1),(20000080000499999,.key 20000080000499999,.stk [.fn 110 [] [.box 1900001 0],.any,.nilS,.fn 110 [] [.box 1900001 0],.any] e.2.2.2.2.2.2.2.2.2.2.2.2.2.2.2.2.2.2.2.2.2.2.2.2.2.2.2.2.2.2.2.1),(20000080002500000,.key 20000080002500000,.lpf [.nilS,.fn 110 [] [.box 1900001 0],.box 20000080000500002 0,.any,.nilS,.any,.fn 110 [] [.box 1900001 0],.any,.any,.any,.any,.any,.any] e.2.2.2.2.2.2.2.2.2.2.2.2.2.2.2.2.2.2.2.2.2.2.2.2.2.2.2.2.2.2.2.2 .rdy),(20000080000500002,.key 20000080000500002,.cells [.lst 20000080000500011] (some 22)),(20000080000500011,.cell 20000080000500002 0,.lst 87 (.pair (.i .i64) (.pair (.i .i64) .bo)) x.2 (List.isEmpty x.2))]⟩)]
def Q6:Cx:=⟨[(87,(.pair (.i .i64) (.pair (.i .i64) .bo)))],[],13,[],0,[],[],[],[],false,[],[(110,Z7f Q2 Q3 Z6s 16)],[],[]⟩
def Q7:List (Nat×LoopAnn):=[]
def Qm:Cx:=⟨[],[],5,[],0,[(139,IF Q6 (λ_=>Q7) Z78 [.tmp 4] 13)],[],[],[],false,[],[],[],[]⟩
def Qn:List (Nat×LoopAnn):=[]
def Zb:Cx:=⟨[],[(66,YV)],12,[],0,[(108,IF Qm (λ_=>Qn) Z74 [.tmp 2] 5),(109,Qy)],[],[],[],false,[],[],[],[]⟩
def Z8:List (Nat×LoopAnn):=[]
def BX:Cx:=⟨[],[],34,[3000013],0,[(62,IF Xf (λ_=>Xn) c62 [.cell 2 true 3,.tmp 3] 43),(65,IF QC (λ_=>QE) c65 [.tmp 2] 4),(64,IF Zb (λ_=>Z8) c64 [.tmp 4] 12)],[],[],[],false,[],[],[13],[]⟩
def Aa (hk:Int) (cs:List (Int×Int×Bool)):List (Nat×LoopAnn):=[(0,⟨Int,(List (Int×Int×Bool))×Int,[1,2,23,24],λe x=>[.box 1 0,.box 2 0,.val (.i .i64) e,.val (.i .i64) x.2],λe x=>[(1,.slot 1,.cells [.val (.i .i64) hk,.lst 20000080000500011] (some 24)),(20000080000500011,.cell 1 1,.lst 87 (.pair (.i .i64) (.pair (.i .i64) .bo)) x.1 (List.isEmpty x.1)),(2,.slot 2,.cells [.val (.i .i64) (0:Int),.nilS] (some 24))]⟩)]
theorem Cf (d:Int×List (Int×Int×Bool)):gwp (BX) (Aa d.1 d.2) c18 0 (KQ [.cell 2 true 2,.tmp 3] (D5 d) (GZ d)) (QI 34 (AL.can H4 d))=KA d.1 d.2:=by kernel_rfl
abbrev Aq:Prop:=OkC Tryz.prog 18 Mr
theorem LV (h:∀ (hk:Int) (cs:List (Int×Int×Bool)),(cs.length<=1000/\(Qq hk cs=0->cs.length<=12))->KA hk cs):OkC Tryz.prog 18 Mr :=
 QT Z0u mixed (C:=BX) (V:=λ(d:Int×List (Int×Int×Bool))=>KA d.1 d.2) ⟨.nil,(XsOk.cons (Yy Q61 mixed (C:=Xf) ⟨(.cons Z_ (.cons ZG .nil)),(XsOk.cons Ud XsOk.nil),ItsOk.nil,YlOk.nil,IysOk.nil,XfOk.nil⟩ (λ_=>Xn)) (XsOk.cons (Yy Z09 mixed (C:=QC) ⟨.nil,XsOk.nil,ItsOk.nil,YlOk.nil,IysOk.nil,XfOk.nil⟩ (λ_=>QE)) (XsOk.cons (Yy Z0c mixed (C:=Zb) ⟨(.cons Mx .nil),(XsOk.cons (Yy Q3z mixed (C:=Qm) ⟨.nil,(XsOk.cons (Yy Q57 mixed (C:=Q6) ⟨.nil,XsOk.nil,ItsOk.nil,YlOk.nil,(IysOk.cons (I6 Q2m mixed (C:=Q2) ⟨.nil,XsOk.nil,ItsOk.nil,YlOk.nil,IysOk.nil,XfOk.nil⟩ Q3) IysOk.nil),XfOk.nil⟩ (λ_=>Q7)) XsOk.nil),ItsOk.nil,YlOk.nil,IysOk.nil,XfOk.nil⟩ (λ_=>Qn)) (XsOk.cons Jr XsOk.nil)),ItsOk.nil,YlOk.nil,IysOk.nil,XfOk.nil⟩ (λ_=>Z8)) XsOk.nil))),ItsOk.nil,YlOk.nil,IysOk.nil,XfOk.nil⟩ (Cf) λd hp=>h d.1 d.2 hp
set_option maxHeartbeats 2000000 in
theorem LY:Aq:=LV λhk cs h=>by
 obtain⟨h,lS⟩:=h;have cy:∀ e:Int,Qq hk cs=e->e≠0->0=Kz hk cs/\(e=Qq hk cs)/\J_ hk cs=[]/\(J_ hk cs).isEmpty=true:=λe h1 h2=>by
  have:J_ hk cs=[]:=by unfold J_;rw[z0 (by omega)]
  exact⟨by unfold Kz;rw[z0 (by omega)],h1.symm,this,by rw[this];rfl⟩
 have bt:∀ e:Int,Qg hk cs=e->e≠0->Qq hk cs=e:=λe h1 h2=>by unfold Qq;rw[z3 (by omega)];exact h1
 unfold KA
 (try delta Ku Cw GD GF Ct Cq Ci Cz q4)
 (try delta lI gD sT I64 X4 pj8 pj4)
 intro w1 w2;repeat (first|refine⟨trivial,?_⟩|refine⟨rfl,?_⟩)
 refine⟨λc1=>?_,λc1=>?_⟩
 .have e:Qg hk cs=3:=by unfold Qg;rw[z3 c1]
  obtain⟨t,u,v,w⟩:=cy 3 (bt 3 e (by decide)) (by decide);and_intros<;>first|rfl|trivial|assumption
 repeat (first|refine⟨trivial,?_⟩|refine⟨rfl,?_⟩)
 refine⟨λc2=>?_,λc2=>?_⟩
 .have c2:60<cs.length:=by have:=zg c2;omega
  have e:Qg hk cs=5:=by unfold Qg;rw[z0 (by rw[c1];decide),z3 c2]
  obtain⟨t,u,v,w⟩:=cy 5 (bt 5 e (by decide)) (by decide);and_intros<;>first|rfl|trivial|assumption
 have c2:cs.length<=60:=by have:=zm c2;omega
 obtain⟨i1,i2⟩:=IM c1;repeat (first|refine⟨trivial,?_⟩|refine⟨rfl,?_⟩)
 refine⟨⟨i1,i2,by omega⟩,λc3=>?_,λc3=>?_⟩
 .obtain⟨t,u,v,w⟩:=cy 2 (bt 2 (C7 c1 c2 c3) (by decide)) (by decide);and_intros<;>first|rfl|trivial|assumption
 obtain⟨be,b3,ai⟩:=EM c1 c2 c3;repeat (first|refine⟨trivial,?_⟩|refine⟨rfl,?_⟩)
 refine⟨(hk,cs,0,0,hk,cs,hk,cs,(cs.length:Int),hk,cs,hk,cs,0,0,hk,cs,w1),([],0),by and_intros<;>first|rfl|trivial,?_⟩;refine⟨λd=>∃ k:Nat,k<=cs.length/\d.2=(k:Int)/\SeenI (cs.map (·.1)) d.1 k,λd=>cs.length-d.2.toNat,⟨0,by omega,rfl,SeenI.nil _⟩,?_⟩;rintro⟨mm,_⟩ ⟨k,bc,rfl,hS⟩;dsimp only at hS |-;refine⟨λc=>?_,λc=>?_⟩
 .have af:k<cs.length:=by have:=zg c;omega
  have hp:=hS.put (by simpa using af);have eg:(cs.map (·.1)).getD k 0=(cs.getD k (0,(0,false))).1:=by
   rw[Qc (by simpa using af),Qc af,xS]
  rw[eg] at hp;simp only[zh];exact⟨by omega,by omega,by rw[Qd];omega,(Nf (.i .i64) mm (cs.getD k (0,(0,false))).1 true,(k:Int)+1),by and_intros<;>first|rfl|trivial,⟨k+1,af,rfl,hp⟩,by dsimp only;omega⟩
 .have al:k=cs.length:=by have:=zm c;omega
  subst al;have hl:(cs.map (·.1)).length=cs.length:=x6 ..;rw[<-hl] at hS;obtain⟨f1,f2⟩:=hS.full;rw[hl] at f2;refine⟨λc4=>?_,λc4=>?_⟩
  .rw[f1] at c4;have e:Qq hk cs=9:=by unfold Qq;rw[z0 (by omega),z3 (zg c4)]
   obtain⟨t,u,v,w⟩:=cy 9 e (by decide);and_intros<;>first|rfl|trivial|assumption
  rw[f1] at c4;have c4:=zm c4;refine⟨λc5=>?_,λc5=>?_⟩
  .rw[f2] at c5;have e:Qq hk cs=6:=by unfold Qq;rw[z0 (by omega),z0 c4,z0 (zg c5)]
   obtain⟨t,u,v,w⟩:=cy 6 e (by decide);and_intros<;>first|rfl|trivial|assumption
  rw[f2] at c5;have eM:(cs.map (·.1)).Nodup:=Decidable.not_not.1 (zm c5);have en:Qq hk cs=0:=by unfold Qq;rw[z0 (by omega),z0 c4,z3 eM]
  have em:J_ hk cs=CJ cs:=by unfold J_;rw[z3 en]
  have eh:Kz hk cs=hk:=by unfold Kz;rw[z3 en]
  have lS:=lS en;rw[en,em,eh];clear hS f1 f2;repeat (first|refine⟨trivial,?_⟩|refine⟨rfl,?_⟩)
  intro w7;repeat (first|refine⟨trivial,?_⟩|refine⟨rfl,?_⟩)
  intro w8 w9 gZ fM;refine⟨(cs,(cs.length:Int),hk,cs,hk,cs,0,0,hk,cs,hk,0,hk,cs,hk,0,hk,cs,hk,cs,hk,0,hk,cs,hk,0,0,cs,cs,w8,w9,gZ,fM),(0,[]),by and_intros<;>first|rfl|trivial,?_⟩;refine⟨λd=>∃ k:Nat,k<=cs.length/\d=((k:Int),cs.take k),λd=>cs.length-d.1.toNat,⟨0,by omega,rfl⟩,?_⟩;rintro _ ⟨k,bc,rfl⟩;refine⟨λc=>?_,λc=>?_⟩
  .have af:k<cs.length:=by have:=zg c;dsimp only at this;omega
   refine⟨by show (0:Int)<=(k:Int);omega,by show (k:Int)<(cs.length:Int);omega,rfl,?_⟩;intro u5;refine⟨by show ((cs.take k).length+1)*24<=70368744177664;rw[wa];omega,?_⟩;repeat (first|refine⟨rfl,?_⟩|refine⟨trivial,?_⟩)
   refine⟨(λc=>by simp at c),λ_=>?_⟩;refine⟨by rw[Qd];show _<=(k:Int)+1/\(k:Int)+1<=_;omega,((k:Int)+1,cs.take (k+1)),?_,⟨k+1,af,rfl⟩,by show cs.length-((k:Int)+1).toNat<cs.length-(k:Int).toNat;omega⟩;have e2:cs.take (k+1)=cs.take k++[cs.getD k (0,(0,false))]:=by rw[WB af,Qc af]
   rw[e2];and_intros<;>first|rfl|trivial|simp
  .have al:k=cs.length:=by have:=zm c;dsimp only at this;omega
   subst al;rw[List.take_length];have hp:=Vi (f:=OJ) (a:=0) (z7 cs.length);have jr:=hp.length_eq;have gR:CJ cs=(US OJ cs 0 cs.length).map λc=>((c.1,(c.2.1,false)):Ka):=rfl;repeat (first|refine⟨rfl,?_⟩|refine⟨trivial,?_⟩)
   refine⟨⟨lS,λ_ _ _ _=>trivial⟩,?_⟩;repeat (first|refine⟨rfl,?_⟩|refine⟨trivial,?_⟩)
   have aw:cs.isEmpty=false:=by cases cs with
    |nil=>exact(b3 rfl).elim
    |cons _ _=>rfl
   have oQ:(US OJ cs 0 cs.length).isEmpty=false:=by rw[<-aw];exact Bool.eq_iff_iff.2 (by rw[List.isEmpty_iff,List.isEmpty_iff,<-zW,<-zW,jr])
   refine⟨((US OJ cs 0 cs.length).length:Int),(US OJ cs 0 cs.length,0),by and_intros<;>first|rfl|trivial|exact aw.trans oQ.symm,?_⟩;generalize hS:US OJ cs 0 cs.length=S at *
   refine⟨λd=>∃ k:Nat,k<=S.length/\d=((S.take k).map (λc=>((c.1,(c.2.1,false)):Ka))++S.drop k,(k:Int)),λd=>S.length-d.2.toNat,⟨0,by omega,by simp⟩,?_⟩;rintro _ ⟨k,bc,rfl⟩;have sw:((S.take k).map (λc=>((c.1,(c.2.1,false)):Ka))++S.drop k).length=S.length:=by simp;omega
   refine⟨λc=>?_,λc=>?_⟩
   .have af:k<S.length:=by have:=zg c;dsimp only at this;omega
    have u6:((S.take k).map (λc=>((c.1,(c.2.1,false)):Ka))++S.drop k).getD k (0,(0,false))=S[k]:=by rw[Qc (by omega),List.getElem_append_right (by simp;omega)];simp[xX (Nat.le_of_lt af)]
    have a_:((S.take k).map (λc=>((c.1,(c.2.1,false)):Ka))++S.drop k).set k (S[k].1,(S[k].2.1,false))=(S.take (k+1)).map (λc=>((c.1,(c.2.1,false)):Ka))++S.drop (k+1):=by rw[List.set_append_right _ _ (by simp;omega),WB af,xC,zY,xK af];simp[xX (Nat.le_of_lt af)];rw[xK af,List.set_cons_zero]
    generalize hL:(S.take k).map (λc=>((c.1,(c.2.1,false)):Ka))++S.drop k=L at *
    generalize u7:(S.take (k+1)).map (λc=>((c.1,(c.2.1,false)):Ka))++S.drop (k+1)=L' at *
    have e1:L.set k ((L.getD k (0,(0,false))).1,((L.getD k (0,(0,false))).2.1,false))=L':=by rw[u6];exact a_
    have l1:L'.length=S.length:=by rw[<-a_,xU];exact sw
    have e2:L.isEmpty=L'.isEmpty:=Bool.eq_iff_iff.2 (by rw[List.isEmpty_iff,List.isEmpty_iff,<-zW,<-zW,sw,l1]);exact⟨by show (0:Int)<=(k:Int);omega,by show (k:Int)<(L.length:Int);omega,by rw[Qd];show _<=(k:Int)+1/\(k:Int)+1<=_;omega,(L',(k:Int)+1),by and_intros<;>first|rfl|trivial|exact e1|exact e2,⟨k+1,af,by rw[u7];rfl⟩,by show S.length-((k:Int)+1).toNat<S.length-(k:Int).toNat;omega⟩
   .have al:k=S.length:=by have:=zm c;dsimp only at this;omega
    subst al;rw[List.take_length,List.drop_length,xy,<-gR];have lE:(CJ cs).isEmpty=false:=by rw[gR,List.isEmpty_map];exact oQ
    and_intros<;>first|rfl|trivial|exact lE
def VD (n s:Nat):List Int:=(kpL s.testBit n).map λ(q:Nat)=>(q:Int)
def Vj (l:List Int):Nat->Int
 |0=>0
 |k+1=>Vj l k+if l.getD ((k+1) % l.length) 0<l.getD k 0 then 1 else 0
def Fl (nm:Nat->Int) (n s:Nat):Bool:=decide (Vj ((kpL s.testBit n).map nm) (kpL s.testBit n).length<=1)
def VE:List Int->List Int->Bool
 |[],[]=>false
 |[],_::_=>true
 |_::_,[]=>false
 |x::l,y::m=>if x=y then VE l m else decide (x<y)
def Q6d (l m:List Int):Bool:=decide (l.length<m.length)||(decide (l.length=m.length)&&VE l m)
def H0 (nm:Nat->Int) (n:Nat):Nat->List Int
 |0=>(List.range n).map λ(q:Nat)=>(q:Int)
 |s+1=>if (Fl nm n (2 ^ n-1-s)&&Q6d (VD n s) (H0 nm n s))=true then VD n s else H0 nm n s
def Q3l (l:List Int):Nat->Int
 |0=>0
 |k+1=>Q3l l k+if l.getD (k+1) 0<l.getD k 0 then 1 else 0
theorem EO (x:Int) (l:List Int):∀ k,Q3l (x::l) (k+1)=(if l.getD 0 0<x then 1 else 0)+Q3l l k
 |0=>by simp[Q3l]
 |k+1=>by rw[show Q3l (x::l) (k+1+1)=Q3l (x::l) (k+1)+if (x::l).getD (k+1+1) 0<(x::l).getD (k+1) 0 then 1 else 0 from rfl,EO x l k];rw[show (x::l).getD (k+1+1) 0=l.getD (k+1) 0 from rfl,show (x::l).getD (k+1) 0=l.getD k 0 from rfl];rw[show Q3l l (k+1)=Q3l l k+if l.getD (k+1) 0<l.getD k 0 then 1 else 0 from rfl];omega
theorem EE:∀ l:List Int,Q3l l (l.length-1)=(FP l:Int)
 |[]=>rfl
 |[x]=>rfl
 |x::y::t=>by have ih:=EE (y::t);rw[show (x::y::t).length-1=(y::t).length-1+1 by simp,EO,ih];simp only[FP];rw[show (y::t).getD 0 0=y from rfl];split<;>simp
theorem Q5p {l:List Int}(h:l≠[]):Vj l l.length=(Z6f l:Int):=by
 have key:∀ k,k<=l.length-1->Vj l k=Q3l l k:=by
  intro k;induction k with
  |zero=>intro _;rfl
  |succ k ih =>intro hk;unfold Vj Q3l;rw[ih (by omega),xk (by omega)]
 have hl:0<l.length:=xP.2 h;obtain⟨m,hm⟩:∃ m,l.length=m+1:=⟨l.length-1,by omega⟩;have k1:=key m (by omega);have k2:=EE l;rw[show l.length-1=m by omega] at k2;have e1:Vj l (m+1)=Vj l m+if l.getD ((m+1) % l.length) 0<l.getD m 0 then 1 else 0:=rfl
 rw[hm,e1,k1,k2,hm,Nat.mod_self];have e2:l.getD 0 0=l.headD 0:=by cases l<;>rfl
 have e3:l.getD m 0=l.getLastD 0:=by rw[Qc (by omega),xJ,List.getLast?_eq_getElem?,show l.length-1=m by omega,z5 (by omega)];rfl
 rw[e2,e3];unfold Z6f;split<;>simp
section
variable {nm:Nat->Int}{n:Nat}
theorem Z5w (kp:Nat->Bool) (hi:∀ i j,i<n->j<n->nm i=nm j->i=j):((kpL kp n).map nm).Nodup:=by rw[List.nodup_iff_pairwise_ne,xc];refine (List.Pairwise.and_mem.1 (YJ kp n)).imp λ{a b} h e=>?_;obtain⟨ha,hb,af⟩:=h;have:=hi a b (YE.1 ha).1 (YE.1 hb).1 e;omega
theorem Al (hi:∀ i j,i<n->j<n->nm i=nm j->i=j) (s:Nat):Fl nm n s=true<->Q94 ((kpL s.testBit n).map nm):=by
 unfold Fl;by_cases h:(kpL s.testBit n).map nm=[]
 .rw[h];have h0:kpL s.testBit n=[]:=List.map_eq_nil_iff.1 h;rw[h0];exact⟨λ_=>⟨[],[],rfl,.nil⟩,λ_=>by decide⟩
 .have e:=Q5p h;rw[x6] at e;rw[e,Q1x (Z5w _ hi),zn];omega
theorem LP (x y:Int) (l m:List Int):VE (x::l) (y::m)=if x=y then VE l m else decide (x<y):=by simp only[VE]
theorem Ea (p:List Int):∀ (a b:List Int),VE (p++a) (p++b)=VE a b:=by
 intro a b;induction p with
 |nil=>rfl
 |cons x p ih=>rw[zV,zV,LP,z3 rfl,ih]
theorem Q2l (kp:Nat->Bool):∀ {p n},p<n->kpL kp n=kpL kp p++((if kp p=true then [p] else [])++(List.range' (p+1) (n-p-1)).filter kp):=by
 intro p n h;unfold kpL;have e:List.range n=List.range p++(p::List.range' (p+1) (n-p-1)):=by rw[List.range_eq_range',List.range_eq_range',show (p::List.range' (p+1) (n-p-1))=List.range' p (n-p-1+1) from (List.range'_succ ..).symm];rw[show List.range' p (n-p-1+1)=List.range' (0+1*p) (n-p-1+1) by congr 1;omega,List.range'_append];congr 1;omega
 rw[e,List.filter_append,wb];split<;>simp
theorem ON {A B:Nat->Bool}{p:Nat}(hp:p<n) (h:∀ q,q<p->A q=B q) (hA:A p=true) (hB:B p=false) (hl:(kpL A n).length=(kpL B n).length) :
  VE ((kpL A n).map λ(q:Nat)=>(q:Int)) ((kpL B n).map λ(q:Nat)=>(q:Int))=true/\VE ((kpL B n).map λ(q:Nat)=>(q:Int)) ((kpL A n).map λ(q:Nat)=>(q:Int))=false:=by
 have eA:=Q2l A hp;have eB:=Q2l B hp;have iO:kpL A p=kpL B p:=List.filter_congr λq hq=>h q (zA.1 hq);rw[z3 hA] at eA;rw[hB,z0 (by decide)] at eB;have hb:∀ x∈(List.range' (p+1) (n-p-1)).filter B,p<x:=λx hx=>by have:=(List.mem_range'_1.1 (zt.1 hx).1).1;omega
 generalize (List.range' (p+1) (n-p-1)).filter B=R at *
 generalize (List.range' (p+1) (n-p-1)).filter A=Q at *
 rw[eA,eB,iO] at hl |-;cases R with
 |nil=>simp at hl
 |cons x R =>have hx:=hb x (zf ..);simp only[xC,zE,xt,List.singleton_append,Ea,zV];unfold VE;rw[z0 (by omega),z0 (by omega),zn,xn];omega
theorem Eo {s q:Nat}(hq:q<n) (hs:s<2 ^ n):(2 ^ n-1-s).testBit q=!s.testBit q:=by have h:=Nat.testBit_two_pow_sub_succ hs q;rw[show 2 ^ n-1-s=2 ^ n-(s+1) by omega,h];simp[hq]
def Z2u (kp:Nat->Bool):Nat->Nat
 |0=>0
 |k+1=>Z2u kp k+if kp k=true then 2 ^ k else 0
theorem AQ (kp:Nat->Bool):∀ k,Z2u kp k<2 ^ k/\∀ q,q<k->(Z2u kp k).testBit q=kp q
 |0=>⟨by simp[Z2u],λq hq=>by omega⟩
 |k+1=>by
  obtain⟨h1,h2⟩:=AQ kp k;have hp:2 ^ (k+1)=2*2 ^ k:=by rw[Nat.pow_succ];omega
  unfold Z2u;by_cases c:kp k=true
  .rw[z3 c];refine⟨by omega,λq hq=>?_⟩;rw[xV];rcases zk q k with h|h
   .rw[Nat.testBit_two_pow_add_gt h];exact h2 q h
   .obtain rfl:q=k:=by omega
    rw[Nat.testBit_two_pow_add_eq,Nat.testBit_lt_two_pow h1,c];rfl
  .rw[z0 c,zR];refine⟨by omega,λq hq=>?_⟩;rcases zk q k with h|h
   .exact h2 q h
   .obtain rfl:q=k:=by omega
    rw[Nat.testBit_lt_two_pow h1];cases h3:kp q
    .rfl
    .exact(c h3).elim
theorem GI {A B:Nat->Bool}(h:∀ q,q<n->A q=B q):kpL A n=kpL B n:=List.filter_congr λq hq=>h q (zA.1 hq)
theorem Z3e (hi:∀ i j,i<n->j<n->nm i=nm j->i=j):H0 nm n (2 ^ n)=mvK nm n n:=by
 obtain⟨m1,m2,m3,m4,m5⟩:=Q0b (nm:=nm) (n:=n);obtain⟨z1,z2⟩:=AQ (woL (mvK nm n n)) n;generalize hz:Z2u (woL (mvK nm n n)) n=z at z1 z2;have aO:VD n z=mvK nm n n:=by
  unfold VD;rw[GI z2];refine List.Perm.eq_of_pairwise (le:=(·<·)) (λa b _ _ h1 h2=>by omega) (xc.2 ((YJ _ n).imp λh=>by omega)) m1 ?_;refine (xG (xc.2 ((YJ _ n).imp λh=>by omega)) (m1.imp λh=>by omega)).2 λx=>?_;rw[zo];constructor
  .rintro⟨q,hq,rfl⟩;exact zg (YE.1 hq).2
  .intro hx;have hb:=m2 x hx;refine⟨x.toNat,YE.2 ⟨by omega,?_⟩,by omega⟩;unfold woL;rw[show ((x.toNat:Nat):Int)=x by omega,zX hx]
 have qI:Fl nm n (2 ^ n-1-z)=true:=by rw[Al hi,GI (B:=λp=>!woL (mvK nm n n) p) λq hq=>by rw[Eo hq z1,z2 q hq]];exact m3.1
 have sx:∀ s,s<2 ^ n->Fl nm n (2 ^ n-1-s)=true->VD n s≠mvK nm n n->Q6d (mvK nm n n) (VD n s)=true/\Q6d (VD n s) (mvK nm n n)=false:=by
  intro s hs ho aw;rw[Al hi] at ho;have hc:kpL (2 ^ n-1-s).testBit n=kpL (λq=>!s.testBit q) n:=GI λq hq=>Eo hq hs;rw[hc] at ho;have bB:=Q1u ho;have cz:=G0 s.testBit n;have jr:(VD n s).length=(kpL s.testBit n).length:=by unfold VD;rw[x6]
  unfold Q6d;by_cases af:(mvK nm n n).length<(VD n s).length
  .rw[zX af,xw (show ¬ (VD n s).length<(mvK nm n n).length by omega),xw (show ¬ (VD n s).length=(mvK nm n n).length by omega)];exact⟨rfl,rfl⟩
  .have heq:(VD n s).length=(mvK nm n n).length:=by omega
   have ru:Z17 nm n (λq=>!s.testBit q):=⟨ho,by omega⟩;have oR:∃ p,p<n/\s.testBit p≠z.testBit p:=by apply Classical.byContradiction;intro hn;refine aw ?_;rw[<-aO];unfold VD;rw[GI λq hq=>?_];apply Classical.byContradiction;intro h2;exact hn ⟨q,hq,h2⟩
   obtain⟨p,⟨hp,pH⟩,ly⟩:∃ p,(p<n/\s.testBit p≠z.testBit p)/\∀ q,q<p->¬ (q<n/\s.testBit q≠z.testBit q):=by
    obtain⟨p,hp⟩:=oR;induction p using Nat.strongRecOn with
    |ind p ih =>
     by_cases c:∃ q,q<p/\(q<n/\s.testBit q≠z.testBit q)
     .obtain⟨q,hq,nX⟩:=c;exact ih q hq nX
     .exact⟨p,hp,λq hq h2=>c ⟨q,hq,h2⟩⟩
   have ec:∀ q,q<p->s.testBit q=z.testBit q:=λq hq=>by apply Classical.byContradiction;intro h2;exact ly q hq ⟨by omega,h2⟩
   have dF:s.testBit p=false:=by
    cases sy:s.testBit p with
    |false=>rfl
    |true =>have h5:=m5 _ ru p hp (λq hq=>by rw[ec q hq,z2 q (by omega)]) (by rw[sy];rfl);have h6:woL (mvK nm n n) p=true:=zX h5;rw[z2 p hp,h6,sy] at pH;exact(pH rfl).elim
   have gO:z.testBit p=true:=by
    cases u9:z.testBit p with
    |true=>rfl
    |false=>rw[dF,u9] at pH;exact(pH rfl).elim
   have hle:(kpL z.testBit n).length=(kpL s.testBit n).length:=by rw[<-aO] at heq;unfold VD at heq;rw[x6,x6] at heq;exact heq.symm
   obtain⟨l1,l2⟩:=ON (A:=z.testBit) (B:=s.testBit) hp (λq hq=>(ec q hq).symm) gO dF hle;have l1:VE (VD n z) (VD n s)=true:=l1;have l2:VE (VD n s) (VD n z)=false:=l2;rw[aO] at l1 l2;rw[xw (show ¬ (mvK nm n n).length<(VD n s).length by omega),xw (show ¬ (VD n s).length<(mvK nm n n).length by omega),zX heq,zX heq.symm,l1,l2];exact⟨rfl,rfl⟩
 have oS:(List.range n).map (λ(q:Nat)=>(q:Int))=VD n (2 ^ n-1):=by unfold VD kpL;rw[List.filter_eq_self.2 λq hq=>?_];have:=zA.1 hq;rw[Nat.testBit_two_pow_sub_one];exact zX this
 have iS:Fl nm n (2 ^ n-1-(2 ^ n-1))=true:=by
  rw[wg,Al hi];have:kpL (0:Nat).testBit n=[]:=List.filter_eq_nil_iff.2 λq _=>by simp
  rw[this];exact⟨[],[],rfl,.nil⟩
 have bE:0<2 ^ n:=Nat.two_pow_pos n;have key:∀ s,s<=2 ^ n->(∃ t,t<2 ^ n/\Fl nm n (2 ^ n-1-t)=true/\H0 nm n s=VD n t)/\(z<s->H0 nm n s=mvK nm n n):=by
  intro s;induction s with
  |zero=>exactλ_=>⟨⟨2 ^ n-1,by omega,iS,oS⟩,λh=>by omega⟩
  |succ s ih =>
   intro hs;obtain⟨⟨t,t1,t2,t3⟩,i2⟩:=ih (by omega);have e:H0 nm n (s+1)=if (Fl nm n (2 ^ n-1-s)&&Q6d (VD n s) (H0 nm n s))=true then VD n s else H0 nm n s:=rfl
   refine⟨?_,λhz=>?_⟩
   .rw[e];split
    .rename_i c;rw[z4] at c;exact⟨s,by omega,c.1,rfl⟩
    .exact⟨t,t1,t2,t3⟩
   .rw[e];by_cases eu:z=s
    .subst eu;rw[aO,qI,Bool.true_and];by_cases hb:H0 nm n z=mvK nm n n
     .rw[hb];split<;>rfl
     .rw[t3] at hb |-;rw[(sx t t1 t2 hb).1,z3 rfl]
    .have hb:=i2 (by omega);rw[hb];split
     .rename_i c;rw[z4] at c;by_cases aw:VD n s=mvK nm n n
      .exact aw
      .have:=(sx s (by omega) c.1 aw).2;rw[this] at c;exact absurd c.2 (by decide)
     .rfl
 exact(key _ (z7 _)).2 z1
end
def strip (c:Ka):Ka:=(c.1,(c.2.1,false))
def rmI (cs:List Ka) (n m:Nat):List Ka:=((cs.take m).filter λc=>c.1==(n:Int)).map strip
def rmK (cs:List Ka):Nat->List Ka
 |0=>[]
 |n+1=>rmK cs n++rmI cs n cs.length
theorem Q6k {cs:List Ka}{n m:Nat}(h:m<cs.length):rmI cs n (m+1)=rmI cs n m++if (cs.getD m Vx).1=(n:Int) then [((n:Int),((cs.getD m Vx).2.1,false))] else []:=by
 unfold rmI;rw[WB h,List.filter_append,xC,Qc h];congr 1;by_cases c:cs[m].1=(n:Int)
 .rw[z3 c,wb,z3 (by simpa using c)];simp[strip,c]
 .rw[z0 c,wb,z0 (by simpa using c)];rfl
theorem FV {cs:List Ka}:∀ {n:Nat}{x:Ka},(∀ c∈cs,0<=c.1)->(x∈rmK cs n<->∃ c∈cs,c.1<(n:Int)/\strip c=x)
 |0,x,h=>by refine⟨(λhx=>by cases hx),λ⟨c,hc,hl,_⟩=>?_⟩;have:=h c hc;omega
 |n+1,x,h=>by
  unfold rmK rmI;rw[zz,FV h,List.take_length,zo];constructor
  .rintro (⟨c,hc,hl,e⟩|⟨c,hc,e⟩)
   .exact⟨c,hc,by omega,e⟩
   .obtain⟨h1,h2⟩:=zt.1 hc;have h2:c.1=(n:Int):=by simpa using h2
    exact⟨c,h1,by omega,e⟩
  .rintro⟨c,hc,hl,e⟩;by_cases h2:c.1=(n:Int)
   .exact .inr ⟨c,zt.2 ⟨hc,by simpa using h2⟩,e⟩
   .exact .inl ⟨c,hc,by omega,e⟩
theorem Z1t {cs:List Ka}(hn:(cs.map (·.1)).Nodup) (n:Nat):(rmI cs n cs.length).Pairwise λa b=>a.1<b.1:=by
 unfold rmI;rw[List.take_length,xc];have h1:(cs.filter λc=>c.1==(n:Int)).Pairwise λa b=>a.1≠b.1:=List.Pairwise.filter _ (xc.1 (List.nodup_iff_pairwise_ne.1 hn));refine (List.Pairwise.and_mem.1 h1).imp λ{a b} h=>?_;obtain⟨ha,hb,aw⟩:=h;have h2:a.1=(n:Int):=by simpa using (zt.1 ha).2
 have h3:b.1=(n:Int):=by simpa using (zt.1 hb).2
 exact(aw (h2.trans h3.symm)).elim
theorem Q3c {cs:List Ka}(hn:(cs.map (·.1)).Nodup) (h0:∀ c∈cs,0<=c.1):∀ n,(rmK cs n).Pairwise λa b=>a.1<b.1
 |0=>.nil
 |n+1=>by
  unfold rmK;refine List.pairwise_append.2 ⟨Q3c hn h0 n,Z1t hn n,λa ha b hb=>?_⟩;obtain⟨c,_,hl,rfl⟩:=(FV h0).1 ha;unfold rmI at hb;obtain⟨d,hd,rfl⟩:=zo.1 hb;have h2:d.1=(n:Int):=by simpa using (zt.1 hd).2
  show c.1<d.1;omega
theorem FT {cs:List Ka}:∀ n,(rmK cs n).length<=n*cs.length
 |0=>by simp[rmK]
 |n+1=>by
  have:=FT (cs:=cs) n;have h2:(rmI cs n cs.length).length<=cs.length:=by unfold rmI;rw[x6,List.take_length];exact List.length_filter_le _ _
  unfold rmK;rw[zH,Nat.succ_mul];omega
theorem Z0t {cs:List Ka}(hn:(cs.map (·.1)).Nodup) (hb:∀ c∈cs,0<=c.1/\c.1<=59):rmK cs 60=CJ cs:=by
 have hp:=Vi (f:=OJ) (a:=0) (z7 cs.length);have hs:=EP (f:=OJ) (λx y h h2=>by rw[Fo] at h h2;omega) (λx y z h1 h2 h3=>by rw[Fo] at h1 h2 h3;omega) cs;have dC:=(hp.map (·.1)).nodup_iff.2 hn;have oT:(CJ cs).Pairwise λa b=>a.1<b.1:=by
  unfold CJ;rw[xc];have h1:(US OJ cs 0 cs.length).Pairwise λa b=>a.1≠b.1:=xc.1 (List.nodup_iff_pairwise_ne.1 dC);exact(hs.and h1).imp λh=>by have a:=h.1;have b:=h.2;rw[Fo] at a;show _<_;dsimp only;omega
 have h0:∀ c∈cs,0<=c.1:=λc hc=>(hb c hc).1;have kQ:=Q3c hn h0 60;refine List.Perm.eq_of_pairwise (le:=λa b=>a.1<b.1) (λa b _ _ h1 h2=>by omega) kQ oT ?_;refine (xG (kQ.imp λh e=>by rw[e] at h;omega) (oT.imp λh e=>by rw[e] at h;omega)).2 λx=>?_;rw[FV h0];unfold CJ;rw[zo];constructor
 .rintro⟨c,hc,_,e⟩;exact⟨c,hp.mem_iff.2 hc,e⟩
 .rintro⟨c,hc,e⟩;have hc:=hp.mem_iff.1 hc;exact⟨c,hc,by have:=hb c hc;omega,e⟩
def Nz:AL (Int×List (Int×Int×Bool)):=(.one (.agg (.cons (.k (.i .i64)) (.one (.k (.list (.pair (.i .i64) (.pair (.i .i64) .bo))))))))
def HI (d:Int×List (Int×Int×Bool)):Prop:=d.2.length<=1000
def Un (d:Int×List (Int×Int×Bool)):SV:=.val (.i .i64) (JG d.2)
def UE (d:Int×List (Int×Int×Bool)):List OB:=[]
def Vh:CSp:=Ko Nz HI Un UE
def W8 (hk:Int) (cs:List (Int×Int×Bool)):Prop :=
 ∃ (e3:Unit) (d30:Int),((True/\(0:Int)=d30/\True)/\((hk=hk/\cs=cs/\(([]:List SV)=[]))/\True)) /\
 LoopP (λ(d3:Int) (q3:(Int)->Prop) =>
  ((decide (d3<(lI cs)))=true ->
   (0<=d3)/\(d3<(List.length cs))/\((decide ((gD cs d3 (0,(0,false))).1<(0:Int)))=true ->
    ((9:Int)=(JG cs)/\(True))) /\
   ((decide ((gD cs d3 (0,(0,false))).1<(0:Int)))=false ->
    (I64 (d3+(1:Int)))/\(∃ d4:Int,((True/\(d3+(1:Int))=d4/\True)/\((hk=hk/\cs=cs/\(([]:List SV)=[]))/\True))/\q3 d4))) /\
  ((decide (d3<(lI cs)))=false ->
   ∃ (e7:Unit) (d70:Int),((True/\(0:Int)=d70/\True)/\((hk=hk/\cs=cs/\(([]:List SV)=[]))/\True)) /\
   LoopP (λ(d7:Int) (q7:(Int)->Prop) =>
    ((decide (d7<(lI cs)))=true ->
     ∃ (aD:Int) (d100:Int),((True/\d7=aD/\(0:Int)=d100/\True)/\((hk=hk/\cs=cs/\(([]:List SV)=[]))/\True)) /\
     LoopP (λ(d10:Int) (jP:(Int)->Prop) =>
      ((decide (d10<aD))=true ->
       (0<=aD)/\(aD<(List.length cs))/\(0<=d10)/\(d10<(List.length cs))/\(((gD cs aD (0,(0,false))).1==(gD cs d10 (0,(0,false))).1)=true ->
        ((6:Int)=(JG cs)/\(True))) /\
       (((gD cs aD (0,(0,false))).1==(gD cs d10 (0,(0,false))).1)=false ->
        (I64 (d10+(1:Int)))/\(∃ d11:Int,((True/\aD=aD/\(d10+(1:Int))=d11/\True)/\((hk=hk/\cs=cs/\(([]:List SV)=[]))/\True))/\jP d11))) /\
      ((decide (d10<aD))=false ->
       (I64 (aD+(1:Int)))/\(∃ d12:Int,((True/\(aD+(1:Int))=d12/\True)/\((hk=hk/\cs=cs/\(([]:List SV)=[]))/\True))/\q7 d12))) d100) /\
    ((decide (d7<(lI cs)))=false ->
     ((0:Int)=(JG cs)/\(True)))) d70)) d30
def NA:Cx:=⟨[],[],45,[],0,[],[],[],[],false,[],[],[],[]⟩
def P_ (hk:Int) (cs:List (Int×Int×Bool)):List (Nat×LoopAnn):=[(0,⟨Unit,Int,[1,3],λe x=>[.box 1 0,.val (.i .i64) x],λe x=>[(1,.slot 1,.cells [.val (.i .i64) hk,.val (.list (.pair (.i .i64) (.pair (.i .i64) .bo))) cs] (some 24))]⟩),
 (2,⟨Unit,Int,[1,4],λe x=>[.box 1 0,.val (.i .i64) x],λe x=>[(1,.slot 1,.cells [.val (.i .i64) hk,.val (.list (.pair (.i .i64) (.pair (.i .i64) .bo))) cs] (some 24))]⟩),
 (4,⟨Int,Int,[1,4,5],λe x=>[.box 1 0,.val (.i .i64) e,.val (.i .i64) x],λe x=>[(1,.slot 1,.cells [.val (.i .i64) hk,.val (.list (.pair (.i .i64) (.pair (.i .i64) .bo))) cs] (some 24))]⟩)]
theorem PX (d:Int×List (Int×Int×Bool)):gwp (NA) (P_ d.1 d.2) c20 0 (KQ [.tmp 2] (Un d) (UE d)) (QI 45 (AL.can Nz d))=W8 d.1 d.2:=by kernel_rfl
abbrev PN:Prop:=OkC Tryz.prog 20 Vh
theorem PF (h:∀ (hk:Int) (cs:List (Int×Int×Bool)),(cs.length<=1000)->W8 hk cs):OkC Tryz.prog 20 Vh :=
 QT Z12 mixed (C:=NA) (V:=λ(d:Int×List (Int×Int×Bool))=>W8 d.1 d.2) ⟨.nil,XsOk.nil,ItsOk.nil,YlOk.nil,IysOk.nil,XfOk.nil⟩ (PX) λd hp=>h d.1 d.2 hp
theorem PI:PN:=PF λhk cs h=>by
 unfold W8;(try delta lI gD sT I64 X4 pj8 pj4);refine⟨(),0,(by and_intros<;>first|rfl|trivial|simp),?_⟩;refine⟨λd=>∃ k:Nat,k<=cs.length/\d=(k:Int)/\∀ j,j<k->0<=(cs.getD j (0,(0,false))).1,λd=>cs.length-d.toNat,⟨0,by omega,rfl,λj hj=>by omega⟩,?_⟩;rintro _ ⟨k,bc,rfl,hJ⟩;refine⟨λc=>?_,λc=>?_⟩
 .have af:k<cs.length:=by have:=zg c;omega
  simp only[zh];refine⟨by omega,by omega,λc2=>?_,λc2=>?_⟩
  .have c2:=zg c2;have e:9=JG cs:=by
    unfold JG;rw[z3];rw[xF];exact⟨cs[k],zu af,zX (by rwa [Qc af] at c2)⟩
   and_intros<;>first|exact e|rfl|trivial
  .have c2:=zm c2;refine⟨by rw[Qd];omega,(k:Int)+1,(by and_intros<;>first|rfl|trivial|simp),⟨k+1,af,rfl,λj hj=>?_⟩,by first|omega|(dsimp only;omega)⟩;by_cases e:j=k
   .subst e;omega
   .exact hJ j (by omega)
 .have al:k=cs.length:=by have:=zm c;omega
  subst al;have oU:(cs.any λc=>decide (c.1<0))=false:=by rw[xQ];intro x hx;obtain⟨i,hi,rfl⟩:=List.getElem_of_mem hx;have:=hJ i hi;rw[Qc hi] at this;simpa using this
  refine⟨(),0,(by and_intros<;>first|rfl|trivial|simp),?_⟩;refine⟨λd=>∃ i:Nat,i<=cs.length/\d=(i:Int)/\∀ a b,a<b->b<i->(cs.getD b (0,(0,false))).1≠(cs.getD a (0,(0,false))).1,λd=>cs.length-d.toNat,⟨0,by omega,rfl,λa b _ hb=>by omega⟩,?_⟩;rintro _ ⟨i,jI,rfl,hI⟩;refine⟨λc=>?_,λc=>?_⟩
  .have af:i<cs.length:=by have:=zg c;omega
   refine⟨(i:Int),0,(by and_intros<;>first|rfl|trivial|simp),?_⟩;refine⟨λd=>∃ b:Nat,b<=i/\d=(b:Int)/\∀ a,a<b->(cs.getD i (0,(0,false))).1≠(cs.getD a (0,(0,false))).1,λd=>i-d.toNat,⟨0,by omega,rfl,λa ha=>by omega⟩,?_⟩;rintro _ ⟨b,bk,rfl,hB⟩;refine⟨λc=>?_,λc=>?_⟩
   .have iR:b<i:=by have:=zg c;omega
    simp only[zh];refine⟨by omega,by omega,by omega,by omega,λc2=>?_,λc2=>?_⟩
    .have c2:(cs.getD i (0,(0,false))).1=(cs.getD b (0,(0,false))).1:=by simpa using c2
     have e:6=JG cs:=by
      unfold JG;rw[oU,z0 (by decide),z0];intro hn;rw[Qc af,Qc (show b<cs.length by omega)] at c2;have h1:(cs.map (·.1))[i]'(by simpa using af)=(cs.map (·.1))[b]'(by simp;omega):=by simpa using c2
      have:=(List.getElem_inj hn).1 h1;omega
     and_intros<;>first|exact e|rfl|trivial
    .have c2:¬ (cs.getD i (0,(0,false))).1=(cs.getD b (0,(0,false))).1:=by simpa using c2
     refine⟨by rw[Qd];omega,(b:Int)+1,(by and_intros<;>first|rfl|trivial|simp),⟨b+1,iR,rfl,λa ha=>?_⟩,by first|omega|(dsimp only;omega)⟩;by_cases e:a=b
     .subst e;exact c2
     .exact hB a (by omega)
   .have bt:b=i:=by have:=zm c;omega
    subst bt;refine⟨by rw[Qd];omega,(b:Int)+1,(by and_intros<;>first|rfl|trivial|simp),⟨b+1,af,rfl,λx y pI hy=>?_⟩,by first|omega|(dsimp only;omega)⟩;by_cases e:y=b
    .subst e;exact hB x pI
    .exact hI x y pI (by omega)
  .have gF:i=cs.length:=by have:=zm c;omega
   subst gF;have e:0=JG cs:=by unfold JG;rw[oU,z0 (by decide),z3];rw[List.nodup_iff_pairwise_ne,List.pairwise_iff_getElem];intro x y hx hy pI;rw[x6] at hx hy;have:=hI x y pI hy;rw[Qc hx,Qc hy] at this;simp only[xS];exactλe=>this e.symm
   and_intros<;>first|exact e|rfl|trivial
def Dh:AL ((Int×List (Int×Int×Bool))×Int):=(.cons (.agg (.cons (.k (.i .i64)) (.one (.k (.list (.pair (.i .i64) (.pair (.i .i64) .bo))))))) (.one (.k (.i .i64))))
def R0 (d:(Int×List (Int×Int×Bool))×Int):Prop:=d.1.2.length<=62/\0<=d.2/\d.2<4611686018427387904
def MF (d:(Int×List (Int×Int×Bool))×Int):SV:=.val .bo (Fl (nmC d.1.2) d.1.2.length d.2.toNat)
def Gi (d:(Int×List (Int×Int×Bool))×Int):List OB:=[]
def Ng:CSp:=Ko Dh R0 MF Gi
def YN (hk:Int) (cs:List (Int×Int×Bool)) (so:Int):Prop :=
 ∃ (e3:Unit) (d30:(List Int)×Int),((so=so/\True/\True/\(0:Int)=(0:Int)/\(0:Int)=d30.2/\True)/\((hk=hk/\cs=cs/\(([]:List SV)=[]))/\(([]:List Int)=d30.1/\false=false)/\True)) /\
 LoopP (λ(d3:(List Int)×Int) (q3:((List Int)×Int)->Prop) =>
  ((decide (d3.2<(lI cs)))=true ->
   (InK .u64 d3.2)/\(0<=d3.2)/\(((Qb .and .i64 (Zn .i64 so d3.2) (1:Int))==(1:Int))=true ->
    (0<=d3.2)/\(d3.2<(List.length cs))/\(((List.length d3.1)+(List.length [(gD cs d3.2 (0,(0,false))).1]))*8<=70368744177664)/\(I64 (d3.2+(1:Int)))/\(∃ d4:(List Int)×Int,((so=so/\True/\True/\(0:Int)=(0:Int)/\(d3.2+(1:Int))=d4.2/\True)/\((hk=hk/\cs=cs/\(([]:List SV)=[]))/\((d3.1++[(gD cs d3.2 (0,(0,false))).1])=d4.1/\false=false)/\True))/\q3 d4)) /\
   (((Qb .and .i64 (Zn .i64 so d3.2) (1:Int))==(1:Int))=false ->
    (I64 (d3.2+(1:Int)))/\(∃ d5:(List Int)×Int,((so=so/\True/\True/\(0:Int)=(0:Int)/\(d3.2+(1:Int))=d5.2/\True)/\((hk=hk/\cs=cs/\(([]:List SV)=[]))/\(d3.1=d5.1/\false=false)/\True))/\q3 d5))) /\
  ((decide (d3.2<(lI cs)))=false ->
   ∃ (e8:(List Int)) (d80:Int×Int),((True/\(0:Int)=d80.1/\(0:Int)=d80.2/\True)/\((d3.1=e8/\false=false)/\True)) /\
   LoopP (λ(d8:Int×Int) (q8:(Int×Int)->Prop) =>
    ((decide (d8.2<(lI e8)))=true ->
     (I64 (d8.2+(1:Int)))/\((lI e8)≠0)/\(0<=(Int.tmod (d8.2+(1:Int)) (lI e8)))/\((Int.tmod (d8.2+(1:Int)) (lI e8))<(List.length e8))/\(0<=d8.2)/\(d8.2<(List.length e8))/\((decide ((gD e8 (Int.tmod (d8.2+(1:Int)) (lI e8)) 0)<(gD e8 d8.2 0)))=true ->
      (I64 (d8.1+(1:Int)))/\(I64 (d8.2+(1:Int)))/\(∃ d9:Int×Int,((True/\(d8.1+(1:Int))=d9.1/\(d8.2+(1:Int))=d9.2/\True)/\((e8=e8/\false=false)/\True))/\q8 d9)) /\
     ((decide ((gD e8 (Int.tmod (d8.2+(1:Int)) (lI e8)) 0)<(gD e8 d8.2 0)))=false ->
      (I64 (d8.2+(1:Int)))/\(∃ d10:Int×Int,((True/\d8.1=d10.1/\(d8.2+(1:Int))=d10.2/\True)/\((e8=e8/\false=false)/\True))/\q8 d10))) /\
    ((decide (d8.2<(lI e8)))=false ->
     ((decide (d8.1<=(1:Int)))=(Fl (nmC cs) cs.length so.toNat)/\(True)))) d80)) d30
def Di:Cx:=⟨[(3,(.i .i64))],[],55,[],0,[],[],[],[],false,[],[],[],[]⟩
def SN (hk:Int) (cs:List (Int×Int×Bool)) (so:Int):List (Nat×LoopAnn):=[(0,⟨Unit,(List Int)×Int,[1,2,5,6,7],λe x=>[.val (.i .i64) so,.box 2 0,.lst 9,.val (.i .i64) (0:Int),.val (.i .i64) x.2],λe x=>[(2,.slot 2,.cells [.val (.i .i64) hk,.val (.list (.pair (.i .i64) (.pair (.i .i64) .bo))) cs] (some 24)),(9,.slot 5,.lst 3 (.i .i64) x.1 false)]⟩),
 (2,⟨(List Int),Int×Int,[5,6,8],λe x=>[.lst 9,.val (.i .i64) x.1,.val (.i .i64) x.2],λe x=>[(9,.slot 5,.lst 3 (.i .i64) e false)]⟩)]
theorem RV (d:(Int×List (Int×Int×Bool))×Int):gwp (Di) (SN d.1.1 d.1.2 d.2) c70 0 (KQ [.tmp 4] (MF d) (Gi d)) (QI 55 (AL.can Dh d))=YN d.1.1 d.1.2 d.2:=by kernel_rfl
abbrev Sk:Prop:=OkC Tryz.prog 70 Ng
theorem SD (h:∀ (hk:Int) (cs:List (Int×Int×Bool)) (so:Int),(cs.length<=62/\0<=so/\so<4611686018427387904)->YN hk cs so):OkC Tryz.prog 70 Ng :=
 QT Z1s mixed (C:=Di) (V:=λ(d:(Int×List (Int×Int×Bool))×Int)=>YN d.1.1 d.1.2 d.2) ⟨.nil,XsOk.nil,ItsOk.nil,YlOk.nil,IysOk.nil,XfOk.nil⟩ (RV) λd hp=>h d.1.1 d.1.2 d.2 hp
theorem Sw:Sk:=SD λhk cs so h=>by
 obtain⟨h1,h2,h3⟩:=h;unfold YN;(try delta lI gD sT I64 X4 pj8 pj4);refine⟨(),([],0),(by and_intros<;>first|rfl|trivial|simp),?_⟩;refine⟨λd=>∃ k:Nat,k<=cs.length/\d=((kpL so.toNat.testBit k).map (nmC cs),(k:Int)),λd=>cs.length-d.2.toNat,⟨0,by omega,rfl⟩,?_⟩;rintro _ ⟨k,bc,rfl⟩;dsimp only;have a9:((kpL so.toNat.testBit k).map (nmC cs)).length<=k:=by rw[x6];exact Q3g _ _
 refine⟨λc=>?_,λc=>?_⟩
 .have af:k<cs.length:=by have:=zg c;omega
  have hb:=IQ (x:=so) (h:=(k:Int)) ⟨h2,h3⟩ (by omega);rw[zh] at hb;have hs:=Ir so.toNat.testBit k;simp only[zh,hb];refine⟨⟨by show (0:Int)<=_;omega,by show _<=(18446744073709551615:Int);omega⟩,by omega,λc2=>?_,λc2=>?_⟩
  .rw[z3 c2] at hs;refine⟨by omega,by omega,by simp only[xe];omega,by rw[Qd];omega,((kpL so.toNat.testBit (k+1)).map (nmC cs),(k:Int)+1),?_,⟨k+1,af,rfl⟩,by first|omega|(dsimp only;omega)⟩;rw[hs,xC];and_intros<;>first|rfl|trivial
  .rw[z0 (by rw[c2];decide),xy] at hs;refine⟨by rw[Qd];omega,((kpL so.toNat.testBit (k+1)).map (nmC cs),(k:Int)+1),?_,⟨k+1,af,rfl⟩,by first|omega|(dsimp only;omega)⟩;rw[hs];and_intros<;>first|rfl|trivial
 .have al:k=cs.length:=by have:=zm c;omega
  subst al;have eo:Fl (nmC cs) cs.length so.toNat=decide (Vj ((kpL so.toNat.testBit cs.length).map (nmC cs)) ((kpL so.toNat.testBit cs.length).map (nmC cs)).length<=1):=by unfold Fl;rw[x6]
  rw[eo];generalize (kpL so.toNat.testBit cs.length).map (nmC cs)=l at a9 |-;refine⟨l,(0,0),(by and_intros<;>first|rfl|trivial|simp),?_⟩;refine⟨λd=>∃ j:Nat,j<=l.length/\d=(Vj l j,(j:Int))/\0<=Vj l j/\Vj l j<=j,λd=>l.length-d.2.toNat,⟨0,by omega,rfl,Int.le_refl _,Int.le_refl _⟩,?_⟩;rintro _ ⟨j,jH,rfl,uk,jW⟩;dsimp only;refine⟨λc=>?_,λc=>?_⟩
  .have af:j<l.length:=by have:=zg c;omega
   have em:Int.tmod ((j:Int)+1) (l.length:Int)=(((j+1) % l.length:Nat):Int):=by rw[Int.tmod_eq_emod_of_nonneg (by omega)];rfl
   have hZ:=w5 (j+1) (show 0<l.length by omega);have hs:Vj l (j+1)=Vj l j+if l.getD ((j+1) % l.length) 0<l.getD j 0 then 1 else 0:=rfl
   rw[em];simp only[zh];refine⟨by rw[Qd];omega,by omega,by omega,by omega,by omega,by omega,λc2=>?_,λc2=>?_⟩
   .rw[z3 (zg c2)] at hs;refine⟨by rw[Qd];omega,by rw[Qd];omega,(Vj l (j+1),(j:Int)+1),?_,⟨j+1,af,rfl,by omega,by omega⟩,by first|omega|(dsimp only;omega)⟩;rw[hs];and_intros<;>first|rfl|trivial
   .rw[z0 (zm c2),Int.add_zero] at hs;refine⟨by rw[Qd];omega,(Vj l (j+1),(j:Int)+1),?_,⟨j+1,af,rfl,by omega,by omega⟩,by first|omega|(dsimp only;omega)⟩;rw[hs];and_intros<;>first|rfl|trivial
  .have eE:j=l.length:=by have:=zm c;omega
   subst eE;and_intros<;>first|rfl|trivial
def Hl:AL (List Int×List Int):=(.cons (.k (.list (.i .i64))) (.one (.k (.list (.i .i64)))))
def Sp (d:List Int×List Int):Prop:=d.1.length<=1000/\d.2.length<=1000
def Dp (d:List Int×List Int):SV:=.val .bo (VE d.1 d.2)
def Dm (d:List Int×List Int):List OB:=[]
def ME:CSp:=Ko Hl Sp Dp Dm
def KL (a:List Int) (b:List Int):Prop :=
 ∃ (e2:Unit) (d20:Int),((a=a/\b=b/\(0:Int)=d20/\True)/\(True)) /\
 LoopP (λ(d2:Int) (q2:(Int)->Prop) =>
  (((decide (d2<(lI a)))&&(decide (d2<(lI b))))=true ->
   (0<=d2)/\(d2<(List.length a))/\(0<=d2)/\(d2<(List.length b))/\(((gD a d2 0) != (gD b d2 0))=true ->
    (0<=d2)/\(d2<(List.length a))/\(0<=d2)/\(d2<(List.length b))/\((decide ((gD a d2 0)<(gD b d2 0)))=(VE a b)/\(True))) /\
   (((gD a d2 0) != (gD b d2 0))=false ->
    (I64 (d2+(1:Int)))/\(∃ d3:Int,((a=a/\b=b/\(d2+(1:Int))=d3/\True)/\(True))/\q2 d3))) /\
  (((decide (d2<(lI a)))&&(decide (d2<(lI b))))=false ->
   ((decide ((lI a)<(lI b)))=(VE a b)/\(True)))) d20
def He:Cx:=⟨[],[],41,[],0,[],[],[],[],false,[],[],[],[]⟩
def C4 (a:List Int) (b:List Int):List (Nat×LoopAnn):=[(0,⟨Unit,Int,[0,1,5],λe x=>[.val (.list (.i .i64)) a,.val (.list (.i .i64)) b,.val (.i .i64) x],λe x=>[]⟩)]
theorem CF (d:List Int×List Int):gwp (He) (C4 d.1 d.2) c71 0 (KQ [.tmp 4] (Dp d) (Dm d)) (QI 41 (AL.can Hl d))=KL d.1 d.2:=by kernel_rfl
abbrev Ad:Prop:=OkC Tryz.prog 71 ME
theorem Ae (h:∀ (a:List Int) (b:List Int),(a.length<=1000/\b.length<=1000)->KL a b):OkC Tryz.prog 71 ME :=
 QT Z06 mixed (C:=He) (V:=λ(d:List Int×List Int)=>KL d.1 d.2) ⟨.nil,XsOk.nil,ItsOk.nil,YlOk.nil,IysOk.nil,XfOk.nil⟩ (CF) λd hp=>h d.1 d.2 hp
theorem CG:Ad:=Ae λa b h=>by
 obtain⟨h1,h2⟩:=h;unfold KL;(try delta lI gD sT I64 X4 pj8 pj4);refine⟨(),0,(by and_intros<;>first|rfl|trivial|simp),?_⟩;refine⟨λd=>∃ j:Nat,j<=a.length/\j<=b.length/\d=(j:Int)/\VE a b=VE (a.drop j) (b.drop j),λd=>a.length-d.toNat,⟨0,by omega,by omega,rfl,rfl⟩,?_⟩;rintro _ ⟨j,jH,eE,rfl,hJ⟩;refine⟨λc=>?_,λc=>?_⟩
 .simp only[z4,zn] at c;have ha:j<a.length:=by omega
  have hb:j<b.length:=by omega
  rw[xK ha,xK hb] at hJ;simp only[zh,Qc ha,Qc hb];refine⟨by omega,by omega,by omega,by omega,λc2=>?_,λc2=>?_⟩
  .have c2:¬ a[j]=b[j]:=by simpa using c2
   rw[LP,z0 c2] at hJ;rw[hJ];and_intros<;>first|omega|rfl|trivial
  .have c2:a[j]=b[j]:=by simpa using c2
   rw[LP,z3 c2] at hJ;exact⟨by rw[Qd];omega,(j:Int)+1,(by and_intros<;>first|rfl|trivial|simp),⟨j+1,ha,hb,rfl,hJ⟩,by first|omega|(dsimp only;omega)⟩
 .simp only[Bool.and_eq_false_iff,xn] at c;rw[hJ];have e:decide ((a.length:Int)<(b.length:Int))=VE (a.drop j) (b.drop j):=by
   by_cases ha:j<a.length
   .have hb:b.length<=j:=by omega
    rw[List.drop_eq_nil_of_le hb,xK ha,xw (by omega)];rfl
   .rw[List.drop_eq_nil_of_le (show a.length<=j by omega)];by_cases hb:j<b.length
    .rw[xK hb,zX (by omega)];rfl
    .rw[List.drop_eq_nil_of_le (show b.length<=j by omega),xw (by omega)];rfl
  and_intros<;>first|exact e|rfl|trivial
def Dt:AL (Int×List (Int×Int×Bool)):=(.one (.agg (.cons (.k (.i .i64)) (.one (.k (.list (.pair (.i .i64) (.pair (.i .i64) .bo))))))))
def R7 (d:Int×List (Int×Int×Bool)):Prop:=d.2.length<=10
def ML (d:Int×List (Int×Int×Bool)):SV:=.lst 0
def M_ (d:Int×List (Int×Int×Bool)):List OB:=[.lst 3 (.i .i64) (H0 (nmC d.2) d.2.length (2 ^ d.2.length)) false]
def Nl:CSp:=Ko Dt R7 ML M_
def YO (hk:Int) (cs:List (Int×Int×Bool)):Prop :=
 ∃ (e3:Unit) (d30:(List Int)×Int),((True/\(lI cs)=(lI cs)/\True/\(0:Int)=d30.2/\True)/\((hk=hk/\cs=cs/\(([]:List SV)=[]))/\(([]:List Int)=d30.1/\false=false)/\True)) /\
 LoopP (λ(d3:(List Int)×Int) (q3:((List Int)×Int)->Prop) =>
  ((decide (d3.2<(lI cs)))=true ->
   (((List.length d3.1)+(List.length [d3.2]))*8<=70368744177664)/\(I64 (d3.2+(1:Int)))/\(∃ d4:(List Int)×Int,((True/\(lI cs)=(lI cs)/\True/\(d3.2+(1:Int))=d4.2/\True)/\((hk=hk/\cs=cs/\(([]:List SV)=[]))/\((d3.1++[d3.2])=d4.1/\false=false)/\True))/\q3 d4)) /\
  ((decide (d3.2<(lI cs)))=false ->
   ∃ (e7:Unit) (d70:(List Int)×Int),((True/\(lI cs)=(lI cs)/\True/\(0:Int)=d70.2/\True)/\((hk=hk/\cs=cs/\(([]:List SV)=[]))/\(d3.1=d70.1/\false=false)/\True)) /\
   LoopP (λ(d7:(List Int)×Int) (q7:((List Int)×Int)->Prop) =>
    (InK .u64 (lI cs))/\(0<=(lI cs))/\(I64 (JL .i64 (1:Int) (lI cs)))/\((decide (d7.2<(JL .i64 (1:Int) (lI cs))))=true ->
     ∃ (aD:(List Int)×Int) (d100:(List Int)×Int),((True/\(lI cs)=(lI cs)/\True/\d7.2=aD.2/\True/\(0:Int)=d100.2/\True)/\((hk=hk/\cs=cs/\(([]:List SV)=[]))/\(d7.1=aD.1/\false=false)/\(([]:List Int)=d100.1/\false=false)/\True)) /\
     LoopP (λ(d10:(List Int)×Int) (jP:((List Int)×Int)->Prop) =>
      ((decide (d10.2<(lI cs)))=true ->
       (InK .u64 d10.2)/\(0<=d10.2)/\(((Qb .and .i64 (Zn .i64 aD.2 d10.2) (1:Int))==(1:Int))=true ->
        (((List.length d10.1)+(List.length [d10.2]))*8<=70368744177664)/\(I64 (d10.2+(1:Int)))/\(∃ d11:(List Int)×Int,((True/\(lI cs)=(lI cs)/\True/\aD.2=aD.2/\True/\(d10.2+(1:Int))=d11.2/\True)/\((hk=hk/\cs=cs/\(([]:List SV)=[]))/\(aD.1=aD.1/\false=false)/\((d10.1++[d10.2])=d11.1/\false=false)/\True))/\jP d11)) /\
       (((Qb .and .i64 (Zn .i64 aD.2 d10.2) (1:Int))==(1:Int))=false ->
        (I64 (d10.2+(1:Int)))/\(∃ d12:(List Int)×Int,((True/\(lI cs)=(lI cs)/\True/\aD.2=aD.2/\True/\(d10.2+(1:Int))=d12.2/\True)/\((hk=hk/\cs=cs/\(([]:List SV)=[]))/\(aD.1=aD.1/\false=false)/\(d10.1=d12.1/\false=false)/\True))/\jP d12))) /\
      ((decide (d10.2<(lI cs)))=false ->
       (InK .u64 (lI cs))/\(0<=(lI cs))/\(I64 (JL .i64 (1:Int) (lI cs)))/\(I64 ((JL .i64 (1:Int) (lI cs))-(1:Int)))/\(I64 (((JL .i64 (1:Int) (lI cs))-(1:Int))-aD.2))/\(cs.length<=62/\0<=(((JL .i64 (1:Int) (lI cs))-(1:Int))-aD.2)/\(((JL .i64 (1:Int) (lI cs))-(1:Int))-aD.2)<4611686018427387904)/\((Fl (nmC cs) cs.length (((JL .i64 (1:Int) (lI cs))-(1:Int))-aD.2).toNat)=true->(decide ((lI d10.1)<(lI aD.1)))=false->((lI d10.1)==(lI aD.1))=true->d10.1.length<=1000/\aD.1.length<=1000)/\(((Fl (nmC cs) cs.length (((JL .i64 (1:Int) (lI cs))-(1:Int))-aD.2).toNat)&&((decide ((lI d10.1)<(lI aD.1)))||(((lI d10.1)==(lI aD.1))&&(VE d10.1 aD.1))))=true ->
        (I64 (aD.2+(1:Int)))/\(∃ d13:(List Int)×Int,((True/\(lI cs)=(lI cs)/\True/\(aD.2+(1:Int))=d13.2/\True)/\((hk=hk/\cs=cs/\(([]:List SV)=[]))/\(d10.1=d13.1/\false=false)/\True))/\q7 d13)) /\
       (((Fl (nmC cs) cs.length (((JL .i64 (1:Int) (lI cs))-(1:Int))-aD.2).toNat)&&((decide ((lI d10.1)<(lI aD.1)))||(((lI d10.1)==(lI aD.1))&&(VE d10.1 aD.1))))=false ->
        (I64 (aD.2+(1:Int)))/\(∃ d14:(List Int)×Int,((True/\(lI cs)=(lI cs)/\True/\(aD.2+(1:Int))=d14.2/\True)/\((hk=hk/\cs=cs/\(([]:List SV)=[]))/\(aD.1=d14.1/\false=false)/\True))/\q7 d14)))) d100) /\
    ((decide (d7.2<(JL .i64 (1:Int) (lI cs))))=false ->
     (True/\((d7.1=(H0 (nmC cs) cs.length (2 ^ cs.length))/\false=false)/\True)))) d70)) d30
def Db:Cx:=⟨[(3,(.i .i64))],[(70,Ng),(71,ME)],74,[],0,[],[],[],[],false,[],[],[],[]⟩
def RW (hk:Int) (cs:List (Int×Int×Bool)):List (Nat×LoopAnn):=[(0,⟨Unit,(List Int)×Int,[1,3,4,5],λe x=>[.box 1 0,.val (.i .i64) (((List.length cs):Nat):Int),.lst 12,.val (.i .i64) x.2],λe x=>[(1,.slot 1,.cells [.val (.i .i64) hk,.val (.list (.pair (.i .i64) (.pair (.i .i64) .bo))) cs] (some 24)),(12,.slot 4,.lst 3 (.i .i64) x.1 false)]⟩),
 (2,⟨Unit,(List Int)×Int,[1,3,4,6],λe x=>[.box 1 0,.val (.i .i64) (((List.length cs):Nat):Int),.lst 12,.val (.i .i64) x.2],λe x=>[(1,.slot 1,.cells [.val (.i .i64) hk,.val (.list (.pair (.i .i64) (.pair (.i .i64) .bo))) cs] (some 24)),(12,.slot 4,.lst 3 (.i .i64) x.1 false)]⟩),
 (4,⟨(List Int)×Int,(List Int)×Int,[1,3,4,6,7,8],λe x=>[.box 1 0,.val (.i .i64) (((List.length cs):Nat):Int),.lst 12,.val (.i .i64) e.2,.lst 29,.val (.i .i64) x.2],λe x=>[(1,.slot 1,.cells [.val (.i .i64) hk,.val (.list (.pair (.i .i64) (.pair (.i .i64) .bo))) cs] (some 24)),(12,.slot 4,.lst 3 (.i .i64) e.1 false),(29,.slot 7,.lst 3 (.i .i64) x.1 false)]⟩)]
theorem S3 (d:Int×List (Int×Int×Bool)):gwp (Db) (RW d.1 d.2) c23 0 (KQ [.tmp 2] (ML d) (M_ d)) (QI 74 (AL.can Dt d))=YO d.1 d.2:=by kernel_rfl
abbrev SQ:Prop:=OkC Tryz.prog 23 Nl
theorem SL (h:∀ (hk:Int) (cs:List (Int×Int×Bool)),(cs.length<=10)->YO hk cs):OkC Tryz.prog 23 Nl :=
 QT Z0m mixed (C:=Db) (V:=λ(d:Int×List (Int×Int×Bool))=>YO d.1 d.2) ⟨(.cons Sw (.cons CG .nil)),XsOk.nil,ItsOk.nil,YlOk.nil,IysOk.nil,XfOk.nil⟩ (S3) λd hp=>h d.1 d.2 hp
theorem S_:SQ:=SL λhk cs h=>by
 unfold YO;(try delta lI gD sT I64 X4 pj8 pj4);refine⟨(),([],0),(by and_intros<;>first|rfl|trivial|simp),?_⟩;refine⟨λd=>∃ k:Nat,k<=cs.length/\d=((List.range k).map (λ(q:Nat)=>(q:Int)),(k:Int)),λd=>cs.length-d.2.toNat,⟨0,by omega,rfl⟩,?_⟩;rintro _ ⟨k,bc,rfl⟩;dsimp only;have a9:((List.range k).map (λ(q:Nat)=>(q:Int))).length=k:=by simp
 refine⟨λc=>?_,λc=>?_⟩
 .have af:k<cs.length:=by have:=zg c;omega
  refine⟨by simp only[xe];omega,by rw[Qd];omega,((List.range (k+1)).map (λ(q:Nat)=>(q:Int)),(k:Int)+1),?_,⟨k+1,af,rfl⟩,by first|omega|(dsimp only;omega)⟩;rw[List.range_succ,xC];and_intros<;>first|rfl|trivial
 .have al:k=cs.length:=by have:=zm c;omega
  subst al;clear a9;have hp:0<2 ^ cs.length/\2 ^ cs.length<=1024:=⟨Nat.two_pow_pos _,Nat.pow_le_pow_right (n:=2) (by omega) h⟩;have ez:=Z6q (k:=cs.length) (by omega);rw[ez];generalize hP:2 ^ cs.length=P at *
  have hu:∀ x:Nat,x<=1000->InK .u64 (x:Int):=λx hx=>⟨by show (0:Int)<=_;omega,by show _<=(18446744073709551615:Int);omega⟩;have iR:∀ s,s<=P->(H0 (nmC cs) cs.length s).length<=cs.length:=by
   intro s;induction s with
   |zero=>intro _;simp[H0]
   |succ s ih =>
    intro hs;unfold H0;split
    .unfold VD;rw[x6];exact Q3g _ _
    .exact ih (by omega)
  refine⟨(),(H0 (nmC cs) cs.length 0,0),(by and_intros<;>first|rfl|trivial|simp),?_⟩;refine⟨λd=>∃ s:Nat,s<=P/\d=(H0 (nmC cs) cs.length s,(s:Int)),λd=>P-d.2.toNat,⟨0,by omega,rfl⟩,?_⟩;rintro _ ⟨s,iE,rfl⟩;dsimp only;have b9:=iR s iE;refine⟨hu _ (by omega),by omega,by rw[Qd];omega,λc=>?_,λc=>?_⟩
  .have af:s<P:=by have:=zg c;omega
   have dA:H0 (nmC cs) cs.length (s+1)=if (Fl (nmC cs) cs.length (2 ^ cs.length-1-s)&&Q6d (VD cs.length s) (H0 (nmC cs) cs.length s))=true then VD cs.length s else H0 (nmC cs) cs.length s:=rfl
   rw[hP] at dA;generalize hB:H0 (nmC cs) cs.length s=B at *
   refine⟨(B,(s:Int)),([],0),(by and_intros<;>first|rfl|trivial|simp),?_⟩;refine⟨λd=>∃ k:Nat,k<=cs.length/\d=(VD k s,(k:Int)),λd=>cs.length-d.2.toNat,⟨0,by omega,rfl⟩,?_⟩;rintro _ ⟨k,bc,rfl⟩;dsimp only;have a9:(VD k s).length<=k:=by unfold VD;rw[x6];exact Q3g _ _
   refine⟨λc2=>?_,λc2=>?_⟩
   .have pB:k<cs.length:=by have:=zg c2;omega
    have hb:=IQ (x:=(s:Int)) (h:=(k:Int)) (by omega) (by omega);rw[zh,zh] at hb;have cO:VD (k+1) s=VD k s++if s.testBit k=true then [(k:Int)] else []:=by unfold VD;rw[Ir,xC];split<;>rfl
    rw[hb];refine⟨hu _ (by omega),by omega,λc3=>?_,λc3=>?_⟩
    .rw[z3 c3] at cO;refine⟨by simp only[xe];omega,by rw[Qd];omega,(VD (k+1) s,(k:Int)+1),?_,⟨k+1,pB,rfl⟩,by first|omega|(dsimp only;omega)⟩;rw[cO];and_intros<;>first|rfl|trivial
    .rw[z0 (by rw[c3];decide),xy] at cO;refine⟨by rw[Qd];omega,(VD (k+1) s,(k:Int)+1),?_,⟨k+1,pB,rfl⟩,by first|omega|(dsimp only;omega)⟩;rw[cO];and_intros<;>first|rfl|trivial
   .have al:k=cs.length:=by have:=zm c2;omega
    subst al;have et:((P:Int)-1-(s:Int)).toNat=P-1-s:=by omega
    rw[et];have rv:(decide (((VD cs.length s).length:Int)<(B.length:Int))||(((VD cs.length s).length:Int)==(B.length:Int))&&VE (VD cs.length s) B)=Q6d (VD cs.length s) B:=by
     unfold Q6d;congr 1
     .exact decide_eq_decide.2 (by omega)
     .congr 1
      rw[Bool.eq_iff_iff,zK,zn];omega
    have oV:(decide (((VD cs.length s).length:Int)<(B.length:Int))||((((VD cs.length s).length:Int)==(B.length:Int))&&VE (VD cs.length s) B))=Q6d (VD cs.length s) B:=rv;simp only[oV];refine⟨hu _ (by omega),by omega,by rw[Qd];omega,by rw[Qd];omega,by rw[Qd];omega,⟨by omega,by omega,by omega⟩,λ_ _ _=>⟨by omega,by omega⟩,λc3=>?_,λc3=>?_⟩
    .rw[z3 c3] at dA;refine⟨by rw[Qd];omega,(H0 (nmC cs) cs.length (s+1),(s:Int)+1),?_,⟨s+1,af,rfl⟩,by first|omega|(dsimp only;omega)⟩;rw[dA];and_intros<;>first|rfl|trivial
    .rw[z0 (by rw[c3];decide)] at dA;refine⟨by rw[Qd];omega,(H0 (nmC cs) cs.length (s+1),(s:Int)+1),?_,⟨s+1,af,rfl⟩,by first|omega|(dsimp only;omega)⟩;rw[dA];and_intros<;>first|rfl|trivial
  .have cO:s=P:=by have:=zm c;omega
   subst cO;and_intros<;>first|rfl|trivial
def BF:AL (Int×List (Int×Int×Bool)):=(.one (.agg (.cons (.k (.i .i64)) (.one (.k (.list (.pair (.i .i64) (.pair (.i .i64) .bo))))))))
def Ss (d:Int×List (Int×Int×Bool)):Prop:=1<=d.1/\d.1<=24/\d.2.length<=60/\∀ c∈d.2,QL d.1 c=true
def D6 (d:Int×List (Int×Int×Bool)):SV:=.agg [.val (.i .i64) d.1,.lst 0]
def GW (d:Int×List (Int×Int×Bool)):List OB:=[.lst 87 (.pair (.i .i64) (.pair (.i .i64) .bo)) (rmK d.2 60) ((rmK d.2 60).isEmpty)]
def Gb:CSp:=Ko BF Ss D6 GW
def KI (hk:Int) (cs:List (Int×Int×Bool)):Prop :=
 ∃ (e4:Unit) (d40:(List (Int×Int×Bool))×Int),((True/\True/\True/\(0:Int)=d40.2/\True)/\((hk=hk/\cs=cs/\(([]:List SV)=[]))/\((0:Int)=(0:Int)/\True/\(([]:List SV)=[]))/\(hk=hk/\True/\(([]:List SV)=[]))/\(d40.1=[]/\(List.isEmpty d40.1)=true)/\True)) /\
 LoopP (λ(d4:(List (Int×Int×Bool))×Int) (q4:((List (Int×Int×Bool))×Int)->Prop) =>
  ((decide (d4.2<(60:Int)))=true ->
   ∃ (e7:Int) (d70:(List (Int×Int×Bool))×Int),((True/\True/\True/\d4.2=e7/\(0:Int)=d70.2/\True)/\((hk=hk/\cs=cs/\(([]:List SV)=[]))/\((0:Int)=(0:Int)/\True/\(([]:List SV)=[]))/\(hk=hk/\True/\(([]:List SV)=[]))/\(d4.1=d70.1/\(List.isEmpty d4.1)=(List.isEmpty d70.1))/\True)) /\
   LoopP (λ(d7:(List (Int×Int×Bool))×Int) (q7:((List (Int×Int×Bool))×Int)->Prop) =>
    ((decide (d7.2<(lI cs)))=true ->
     (0<=d7.2)/\(d7.2<(List.length cs))/\(((gD cs d7.2 (0,(0,false))).1==e7)=true ->
      (1<=hk/\hk<=24/\0<=((gD cs d7.2 (0,(0,false))).2.1)/\((gD cs d7.2 (0,(0,false))).2.1)<2 ^ hk.toNat)/\(((List.length d7.1)+(List.length [(e7,((DM hk ((0:Int),(((gD cs d7.2 (0,(0,false))).2.1),false))),false))]))*24<=70368744177664)/\(I64 (d7.2+(1:Int)))/\(∃ d8:(List (Int×Int×Bool))×Int,((True/\True/\True/\e7=e7/\(d7.2+(1:Int))=d8.2/\True)/\((hk=hk/\cs=cs/\(([]:List SV)=[]))/\((0:Int)=(0:Int)/\True/\(([]:List SV)=[]))/\(hk=hk/\True/\(([]:List SV)=[]))/\((d7.1++[(e7,((DM hk ((0:Int),(((gD cs d7.2 (0,(0,false))).2.1),false))),false))])=d8.1/\false=(List.isEmpty d8.1))/\True))/\q7 d8)) /\
     (((gD cs d7.2 (0,(0,false))).1==e7)=false ->
      (I64 (d7.2+(1:Int)))/\(∃ d9:(List (Int×Int×Bool))×Int,((True/\True/\True/\e7=e7/\(d7.2+(1:Int))=d9.2/\True)/\((hk=hk/\cs=cs/\(([]:List SV)=[]))/\((0:Int)=(0:Int)/\True/\(([]:List SV)=[]))/\(hk=hk/\True/\(([]:List SV)=[]))/\(d7.1=d9.1/\(List.isEmpty d7.1)=(List.isEmpty d9.1))/\True))/\q7 d9))) /\
    ((decide (d7.2<(lI cs)))=false ->
     (I64 (e7+(1:Int)))/\(∃ d10:(List (Int×Int×Bool))×Int,((True/\True/\True/\(e7+(1:Int))=d10.2/\True)/\((hk=hk/\cs=cs/\(([]:List SV)=[]))/\((0:Int)=(0:Int)/\True/\(([]:List SV)=[]))/\(hk=hk/\True/\(([]:List SV)=[]))/\(d7.1=d10.1/\(List.isEmpty d7.1)=(List.isEmpty d10.1))/\True))/\q4 d10))) d70) /\
  ((decide (d4.2<(60:Int)))=false ->
   ((hk=hk/\True/\(([]:List SV)=[]))/\((d4.1=(rmK cs 60)/\(List.isEmpty d4.1)=(rmK cs 60).isEmpty)/\True)))) d40
def HA:Cx:=⟨[(87,(.pair (.i .i64) (.pair (.i .i64) .bo)))],[(72,Nh)],44,[],0,[],[],[],[],false,[],[],[],[]⟩
def A9 (hk:Int) (cs:List (Int×Int×Bool)):List (Nat×LoopAnn):=[(0,⟨Unit,(List (Int×Int×Bool))×Int,[1,2,3,4],λe x=>[.box 1 0,.box 2 0,.box 3 0,.val (.i .i64) x.2],λe x=>[(1,.slot 1,.cells [.val (.i .i64) hk,.val (.list (.pair (.i .i64) (.pair (.i .i64) .bo))) cs] (some 24)),(2,.slot 2,.cells [.val (.i .i64) (0:Int),.nilS] (some 24)),(3,.slot 3,.cells [.val (.i .i64) hk,.lst 41] (some 24)),(41,.cell 3 1,.lst 87 (.pair (.i .i64) (.pair (.i .i64) .bo)) x.1 (List.isEmpty x.1))]⟩),
 (2,⟨Int,(List (Int×Int×Bool))×Int,[1,2,3,4,5],λe x=>[.box 1 0,.box 2 0,.box 3 0,.val (.i .i64) e,.val (.i .i64) x.2],λe x=>[(1,.slot 1,.cells [.val (.i .i64) hk,.val (.list (.pair (.i .i64) (.pair (.i .i64) .bo))) cs] (some 24)),(2,.slot 2,.cells [.val (.i .i64) (0:Int),.nilS] (some 24)),(3,.slot 3,.cells [.val (.i .i64) hk,.lst 41] (some 24)),(41,.cell 3 1,.lst 87 (.pair (.i .i64) (.pair (.i .i64) .bo)) x.1 (List.isEmpty x.1))]⟩)]
theorem CR (d:Int×List (Int×Int×Bool)):gwp (HA) (A9 d.1 d.2) c24 0 (KQ [.cell 2 true 2] (D6 d) (GW d)) (QI 44 (AL.can BF d))=KI d.1 d.2:=by kernel_rfl
abbrev Ai:Prop:=OkC Tryz.prog 24 Gb
theorem CL (h:∀ (hk:Int) (cs:List (Int×Int×Bool)),(1<=hk/\hk<=24/\cs.length<=60/\∀ c∈cs,QL hk c=true)->KI hk cs):OkC Tryz.prog 24 Gb :=
 QT Z1r mixed (C:=HA) (V:=λ(d:Int×List (Int×Int×Bool))=>KI d.1 d.2) ⟨(.cons RU .nil),XsOk.nil,ItsOk.nil,YlOk.nil,IysOk.nil,XfOk.nil⟩ (CR) λd hp=>h d.1 d.2 hp
theorem CE:Ai:=CL λhk cs h=>by
 obtain⟨h1,h2,h3,h4⟩:=h;unfold KI;(try delta lI gD sT I64 X4 pj8 pj4);refine⟨(),([],0),(by and_intros<;>first|rfl|trivial|simp),?_⟩;refine⟨λd=>∃ n:Nat,n<=60/\d=(rmK cs n,(n:Int)),λd=>60-d.2.toNat,⟨0,by omega,rfl⟩,?_⟩;rintro _ ⟨n,fG,rfl⟩;dsimp only;have df:=FT (cs:=cs) n;have u_:n*cs.length<=60*60:=Nat.mul_le_mul fG h3;refine⟨λc=>?_,λc=>?_⟩
 .have af:n<60:=by have:=zg c;omega
  refine⟨(n:Int),(rmK cs n,0),(by and_intros<;>first|rfl|trivial|simp),?_⟩;refine⟨λd=>∃ m:Nat,m<=cs.length/\d=(rmK cs n++rmI cs n m,(m:Int)),λd=>cs.length-d.2.toNat,⟨0,by omega,by simp[rmI]⟩,?_⟩;rintro _ ⟨m,mJ,rfl⟩;dsimp only;have gS:(rmI cs n m).length<=m:=by unfold rmI;rw[x6];have:=List.length_filter_le (λc:Ka=>c.1==(n:Int)) (cs.take m);rw[wa] at this;omega
  refine⟨λc2=>?_,λc2=>?_⟩
  .have mV:m<cs.length:=by have:=zg c2;omega
   have hs:=Q6k (cs:=cs) (n:=n) mV;unfold Vx at hs;have cY:=Lq (h4 _ (zu mV));simp only[zh];refine⟨by omega,by omega,λc3=>?_,λc3=>?_⟩
   .have c3:(cs.getD m (0,(0,false))).1=(n:Int):=by simpa using c3
    rw[z3 c3] at hs;have el:DM hk (0,((cs.getD m (0,(0,false))).2.1,false))=(cs.getD m (0,(0,false))).2.1:=rfl;rw[el];have e2:rmK cs n++rmI cs n m++[((n:Int),((cs.getD m (0,(0,false))).2.1,false))]=rmK cs n++rmI cs n (m+1):=by rw[hs,zY]
    have e3:(rmK cs n++rmI cs n (m+1)).isEmpty=false:=by rw[<-e2];simp
    rw[e2];refine⟨⟨h1,h2,by rw[Qc mV];exact cY.1,by rw[Qc mV];exact cY.2⟩,by rw[zH];simp only[xe];omega,by rw[Qd];omega,(rmK cs n++rmI cs n (m+1),(m:Int)+1),?_,⟨m+1,mV,rfl⟩,by first|omega|(dsimp only;omega)⟩;and_intros<;>first|rfl|trivial|exact e3.symm
   .have c3:¬ (cs.getD m (0,(0,false))).1=(n:Int):=by simpa using c3
    rw[z0 c3,xy] at hs;refine⟨by rw[Qd];omega,(rmK cs n++rmI cs n (m+1),(m:Int)+1),?_,⟨m+1,mV,rfl⟩,by first|omega|(dsimp only;omega)⟩;rw[hs];and_intros<;>first|rfl|trivial
  .have gU:m=cs.length:=by have:=zm c2;omega
   subst gU;exact⟨by rw[Qd];omega,(rmK cs (n+1),(n:Int)+1),by and_intros<;>first|rfl|trivial,⟨n+1,af,rfl⟩,by first|omega|(dsimp only;omega)⟩
 .have dC:n=60:=by have:=zm c;omega
  subst dC;and_intros<;>first|rfl|trivial
end Go.Proofs.Tryz
namespace Go.V
open Go
theorem Q5o {P:Program}{M:Heap}:Ret P M (.val .bo true) [] (.bool true) M :=
 ⟨⟨.refl _,Dead.refl _⟩,λ_=>rfl,Xd,λj b hj=>by simp at hj,λj j' i hj=>by simp at hj,by simp[SR,KC]⟩
theorem Q6n {P:Program}{f:Nat}(h:∀ (M:Heap) (K:Value->Heap->Prop),K (.bool true) M->VCalled P f [] M K):OkC P f (Ko (.nil:AL Unit) (λ_=>True) (λ_=>.val .bo true) (λ_=>[])):=by
 intro ap dz M args vs c v bs az hs hv b9 hc;unfold Ko at hs;split at hs
 .rename_i d hd;obtain⟨rfl,rfl,rfl⟩:=(by simpa using hs:True=c/\SV.val .bo true=v/\[]=bs);have:vs=[]:=by
   cases args with
   |nil=>simpa [SRs] using az
   |cons a l=>simp[AL.dec] at hd
  subst this;refine⟨h M _ Q5o,λ_ _=>h M _ ⟨rfl,?_⟩⟩;unfold PT;cases M;simp only[List.length_nil,zR,List.getElem?_nil,Option.bind_none,Heap.mk.injEq,and_true];funext i;split
  .rfl
  .rename_i wf hi;exact wf i (by simpa using hi)
 .cases hs
end Go.V
namespace Go.V
open Go Go.ChangeShapes Go.WideShapes Go.RowKit Go.Deep Go.Joins
def Heap.RO (M:Heap):Prop:=∀ i b,M.get i=some b->b.wr=false
structure View (w:World) (ρ:Plc) (M:Heap):Prop where
 rel:HRel ρ M w
 ro:M.RO
structure More (ρ:Plc) (M:Heap) (ρ':Plc) (M':Heap):Prop where
 n:M.n<=M'.n
 pl:∀ i,i<M.n->∀ p,ρ' i=some p->ρ i=some p
 ag:Agree M M'
theorem More.refl (ρ:Plc) (M:Heap):More ρ M ρ M:=⟨z7 _,λ_ _ _ h=>h,Agree.refl _⟩
theorem More.trans {ρ ρ' eP:Plc}{M M' aE:Heap}(h:More ρ M ρ' M') (k:More ρ' M' eP aE):More ρ M eP aE :=
 ⟨x8 h.n k.n,λi hi p hp=>h.pl i hi p (k.pl i (x7 hi h.n) p hp),h.ag.trans k.ag h.n⟩
def J0t (w:World):Prop:=∀ g cs,Q7c g=some cs->∃ e f,w.heap[g]?=some (.cells cs.toArray e f)
theorem View.emptyT (w:World) (ht:J0t w):View w (λ_=>none) Heap.empty where
 rel:=⟨⟨λi b h=>(by cases h),λ_ _=>rfl,λi p h=>(by cases h),λi j p q b _ h=>(by cases h)⟩,λg cs hg=>⟨ht g cs hg,λ⟨_,_,_,h,_⟩=>by cases h⟩⟩
 ro:=λi b h=>by cases h
theorem View.add {w:World}{ρ:Plc}{M:Heap}(h:View w ρ M) (p:Pl) (c:List Value) {C:Array Value}{e:TypeId}{f:Nat×Nat}(hb:w.heap[p.blk]?=some (.cells C e f)) (hs:p.shift+p.ext<=C.size) (hl:c.length<=p.ext) (ht:e=p.esz.ty)
  (hc:∀ (k:Nat) (v:Value),c[k]?=some v->∃ u,w.cell? ⟨p.blk,p.shift+k,none⟩=some u/\VRel ρ M.n v u) :
  View w (ρ.put M.n (some p)) (M.push (.cells c p.esz false p.tight))/\More ρ M (ρ.put M.n (some p)) (M.push (.cells c p.esz false p.tight)):=by
 have aU:∀ i,i<M.n->∀ q,(ρ.put M.n (some p)) i=some q->ρ i=some q:=λi hi q hq=>by unfold Plc.put at hq;rwa [z0 (by omega)] at hq
 have bK:(M.push (.cells c p.esz false p.tight)).RO:=λi b hi=>by
  by_cases e:i=M.n
  .subst e;rw[Heap.q0a] at hi;obtain rfl:=osj hi;rfl
  .rw[Heap.q0e _ _ e] at hi;exact h.ro i b hi
 refine⟨⟨⟨⟨?_,?_,?_,?_⟩,λg cs hg=>⟨(h.rel.tab g cs hg).1,λ⟨i,_,b,_,hi,hw,_⟩=>by rw[bK i b hi] at hw;cases hw⟩⟩,bK⟩,⟨by simp,aU,λi hi=>Heap.q0i _ _ hi⟩⟩
 .intro i b hi;by_cases aQ:i=M.n
  .subst aQ;rw[Heap.q0a] at hi;obtain rfl:=osj hi;refine⟨p,by simp[Plc.put],rfl,rfl,hl,⟨C,e,f,hb,hs,ht⟩,λk v hk=>?_,λh=>by cases h⟩;obtain⟨u,hu,hv⟩:=hc k v hk;exact⟨u,hu,hv.mono (by simp) aU⟩
  .rw[Heap.q0e _ _ aQ] at hi;obtain⟨q,hq,hB⟩:=h.rel.live i b hi;exact⟨q,by simp[Plc.put,aQ,hq],hB.mono (by simp) aU rfl⟩
 .intro i hi;by_cases aQ:i=M.n
  .subst aQ;rw[Heap.q0a] at hi;cases hi
  .rw[Heap.q0e _ _ aQ] at hi;simp[Plc.put,aQ,h.rel.dead i hi]
 .intro i q hq;by_cases aQ:i=M.n
  .subst aQ;simp[Plc.put] at hq;subst hq;exact(xH.1 hb).1
  .simp[Plc.put,aQ] at hq;exact h.rel.lt i q hq
 .intro i j q r b _ _ _ cf hw _;rw[bK i b cf] at hw;cases hw
theorem Q2a {P:Program}{fits:TypeId->Bool}{d:Nat}{e:TypeId}{count off n:Nat}(h:rowAt P fits d e count off n=true):off<=count*P.cellsOf e:=by
 cases d with
 |zero=>cases h
 |succ d =>
  unfold rowAt at h;by_cases hs:P.cellsOf e=0
  .simp[hs] at h
  .have bE:0<P.cellsOf e:=Nat.pos_of_ne_zero hs;simp only[hs,if_false,zx,z4,zK,zn] at h;have hd:=Nat.div_add_mod off (P.cellsOf e);have hm:=w5 off bE;rcases h with⟨⟨h1,h2⟩,_⟩|⟨h1,_⟩
   .have:P.cellsOf e*(off / P.cellsOf e)<=P.cellsOf e*count:=Nat.mul_le_mul_left _ (by omega);rw[wk count];omega
   .have:P.cellsOf e*(off / P.cellsOf e+1)<=P.cellsOf e*count:=Nat.mul_le_mul_left _ (by omega);rw[Nat.mul_add] at this;rw[wk count];omega
theorem Lb {P:Program}:∀ {d:Nat}{e:TypeId}{count off:Nat}{u:TypeId}{n:Nat},liesAt P d e count off u n=true->off<=count*P.cellsOf e
 |0,_,_,_,_,_,h=>by cases h
 |d+1,e,count,off,u,n,h=>by
  unfold liesAt at h;rw[zx] at h;rcases h with h|h
  .exact Q2a h
  .split at h
   .exact Lb h
   .cases h
theorem Q1v {P:Program}{w:World}{r:Reach}{base:Nat}{a:Addr}{e:TypeId}{n:Nat}(h:w.has P r base a e n):∃ C row f,w.heap[a.block]?=some (.cells C row f)/\a.off<=C.size/\a.spot=none:=by
 obtain⟨_,hs,row,cells,ez,hl⟩:=h;unfold World.shape? at ez;split at ez
 .rename_i C e' f hb;obtain⟨rfl,rfl⟩:=(by simpa using ez:e'=row/\C.size=cells);exact⟨C,e',f,hb,x8 (Lb hl) (Nat.div_mul_le_self _ _),hs⟩
 .cases ez
theorem Fg {P:Program}{w:World}{r:Reach}{base:Nat}{t e:TypeId}{v:Value}(ht:P.underlying t=some (.slice e)) (h:Cell.okWide P w r base t v) :
  v=.slice none 0 0\/∃ a len cap,v=.slice (some a) len cap/\w.has P r base a e cap:=by
 unfold Cell.okWide at h;rw[ht] at h;have h':Cell.ok P w r base t v:=by split at h<;>first|exact h|simp_all
 unfold Cell.ok at h';rw[ht] at h';split at h'<;>first|exact .inl rfl|(cases h';done)|skip
 all_goals first|(rename_i h1 h2;simp_all;done)|skip
 all_goals first|(simp_all;exact⟨_,_,_,⟨rfl,rfl,rfl⟩,h'.2.2⟩)|(simp_all)
theorem Z4l {k:IntKind}{x:Int}(h:(Lit.int k x).wf=true):k.min<=x/\x<=k.max:=by simpa [Lit.wf] using h
theorem View.calls {P:Program}{f:FuncId}{w:World}{ρ:Plc}{M:Heap}(h:View w ρ M) {args:List Value}{aA:Array Value}(hl:LRel ρ M.n args aA.toList) (hc:VCallsTo P f args M λv _=>v=.bool true) :
  Calls P f aA w λe w'=>e=.returned (.bool true)/\Below w.heap.size w w':=by
 refine (hc ρ w aA h.rel hl).mono λe w' ⟨c,he,v,ρ',M',hv,hr,_,hx⟩=>?_;subst hv;have:c=.bool true:=by cases hr;rfl
 subst this;exact⟨he,hx.os,hx.tape,hx.output,hx.size,λB hB=>hx.keep B hB λ⟨i,p,b,_,hi,hw,_⟩=>by rw[h.ro i b hi] at hw;cases hw⟩
theorem BS {H:Type}{enc:TypeId×Value->H}{P:Program}(hl:laidOutB P=true) {W W':World}{sp:Nat->Bool}(hb:Below W.heap.size W W') :
  ∀ {ts:List TypeId}{vs:List Value}{ds:List (DataW H)}{ps:List MemPlace},(∀ t∈ts,P.readableRec t=true/\t<P.types.size)->DataW.TrodAll enc P W 0 (λ_=>true) true ts vs ds ps->(∀ p∈ps,p.block<W.heap.size)->(∀ p∈ps,sp p.block=true) ->
   DataW.TrodAll enc P W' 0 sp true ts vs ds ps
 |[],vs,ds,ps,_,h,_,_=>by obtain⟨rfl,rfl,rfl⟩:=trodAll_nil h;rfl
 |t::ts,vs,ds,ps,ht,h,af,hs=>by
  obtain⟨v,cL,d,ds',p,q,rfl,rfl,rfl,h1,h2⟩:=trodAll_cons h;obtain⟨r1,r2⟩:=ht t (by simp);exact⟨p,q,WideElems.Trod_stays hl r1 r2 h1 (λx hx=>hb.same (af x (by simp[hx]))) (λx hx=>hs x (by simp[hx])),
   BS hl hb (λt mC=>ht t (by simp[mC])) h2 (λx hx=>af x (by simp[hx])) (λx hx=>hs x (by simp[hx])),rfl⟩
theorem Q1e {H:Type}{enc:TypeId×Value->H}{P:Program}{f:Func}{s:ChangeSpec}{apart fresh handsOn again:Bool}{W W':World}{args:Array Value}{ds gs:List (DataW H)}{before:List MemPlace}{tb:TypeId}
  (hl:laidOutB P=true) (hp:f.params.toList.all (λt=>P.readableRec t&&decide (t<P.types.size))=true) (kR:s.vars=[]) (hr:f.resultTypes=#[tb]) (bk:P.underlying tb=some .bool) (hs:s.fn H ds={results:=[.lit (.bool true)],args:=ds})
  (hW:DataW.Whole enc P f.params.toList s.vars apart W args.toList ds gs before) (hb:Below W.heap.size W W'):s.post enc P f apart fresh handsOn again W args (.bool true) W':=by
 have af:∀ p∈before,p.block<W.heap.size:=λp hp=>hW.lt p hp;have vd:=hW;obtain⟨p,q,hA,hV,rfl,hz,hn⟩:=hW;rw[kR] at hV;obtain⟨rfl,rfl⟩:=trodVars_none hV;have bm:∀ t∈f.params.toList,P.readableRec t=true/\t<P.types.size:=λt ht=>by have:=z8.1 hp t ht;simpa using this
 have eU:s.fn H (ds++[])={results:=[.lit (.bool true)],args:=ds}:=by rw[xy];exact hs
 have c_:∀ (b:Nat) (sp:Nat->Bool) (hd:Bool),DataW.TrodAll enc P W' b sp hd f.resultTypes.toList ((Value.bool true).resultList f.resultTypes.size) (s.fn H (ds++[])).results []:=λb sp hd=>by rw[eU,hr];exact trodAll_mk1 (shut_bool bk _)
 have az:∀ sp:Nat->Bool,(∀ x∈p++[],sp x.block=true)->DataW.TrodAll enc P W' 0 sp true f.params.toList args.toList (s.fn H (ds++[])).args p:=λsp dF=>by rw[eU];exact BS hl hb bm hA (λx hx=>af x (by simp[hx])) (λx hx=>dF x (by simp[hx]))
 have cC:∀ sp:Nat->Bool,DataW.TrodVars enc P W' sp s.vars (s.fn H (ds++[])).vars []:=λsp=>by rw[eU,kR];rfl
 have hold:∀ x∈p++[],(λb=>decide (b<W.heap.size)) x.block=true:=λx hx=>by simpa using af x hx
 refine⟨ds,[],p++[],[],p,[],vd,c_ _ _ _,az _ hold,cC _,World.keptBut_mono (λx hx=>⟨hx,?_⟩) (hb.frame (·∈p++[])),λ_=>?_⟩
 .exact .inr (by simpa using hx)
 .refine⟨ok_one hr rfl (okWide_bool_mk bk _),_,_,([]++p)++[],⟨[]++p,[],trodAll_append (az _ (λ_ _=>rfl)) (c_ _ _ _),cC _,rfl,?_,?_⟩,?_⟩
  .intro b off hx;have aQ:MemPlace.cell b off∈p++[]:=by simpa using hx
   rw[hb.frozen (af _ aQ)];exact hz b off aQ
  .intro ha;simpa using hn ha
  .intro x hx _;simpa using hx
def KFs (T:Kind->TypeId->Bool) (sz:TypeId->Nat):Kind->List (TypeId×Nat)->Nat->Bool
 |_,[],_=>false
 |k,[p],off=>p.2==off&&(sz p.1==k.size&&T k p.1)
 |.pair a b,p::q::r,off=>p.2==off&&(sz p.1==a.size&&(T a p.1&&KFs T sz b (q::r) (off+a.size)))
 |_,_::_::_,_=>false
def KTy (P:Program):Nat->Kind->TypeId->Bool
 |0,_,_=>false
 |n+1,k,t=>match P.underlying t with
  |some (.struct fs)=>P.cellsOf t==k.size&&KFs (KTy P n) P.cellsOf k (fs.toList.map λf=>(f.type,f.offset)) 0
  |some (.array m e)=>P.cellsOf t==k.size&&KFs (KTy P n) P.cellsOf k ((List.range m).map λi=>(e,i*P.cellsOf e)) 0
  |some (.int ik)=>(match k with|.i k'=>decide (k'=ik)|_=>false)
  |some .bool=>(match k with|.bo=>true|_=>false)
  |some .string=>(match k with|.st=>true|_=>false)
  |some (.slice e)=>(match k with|.list k'=>P.cellsOf e==k'.size&&(k'.flat&&KTy P n k' e)|_=>false)
  |_=>false
def KWf:(k:Kind)->k.T->Prop
 |.i ik,x=>InK ik x
 |.bo,_=>True
 |.st,s=>s.length<=maxLen
 |.list k,l=>l.length<=maxLen/\∀ x∈l,KWf k x
 |.pair a b,x=>KWf a x.1/\KWf b x.2
theorem More.le {ρ ρ':Plc}{M M':Heap}(h:More ρ M ρ' M'):M.Le M':=⟨h.n,λi b hb=>by rw[h.ag i (M.lt hb)];exact hb⟩
def ArgIs (w:World) (ρ:Plc) (M:Heap) (k:Kind) (cs:List Value):Prop :=
 ∃ ρ' M' vs x,View w ρ' M'/\More ρ M ρ' M'/\LRel ρ' M'.n vs cs/\KC M' k x vs/\KWf k x
theorem ArgIs.pair {w:World}{ρ:Plc}{M:Heap}{a b:Kind}{cs ds:List Value}(h1:ArgIs w ρ M a cs) (h2:∀ ρ M,View w ρ M->ArgIs w ρ M b ds):ArgIs w ρ M (.pair a b) (cs++ds):=by obtain⟨ρ1,σ1,sA,x1,k1,k2,k3,k4,k5⟩:=h1;obtain⟨ρ2,M2,kE,x2,m1,m2,m3,m4,m5⟩:=h2 ρ1 σ1 k1;exact⟨ρ2,M2,sA++kE,(x1,x2),m1,k2.trans m2,(k3.mono m2.n m2.pl).append m3,⟨sA,kE,rfl,k4.mono m2.le,m4⟩,k5,m5⟩
section
variable {H:Type}{enc:TypeId×Value->H}{P:Program}{w:World}{r:Reach}{base:Nat}
def okc (P:Program) (w:World) (r:Reach) (base:Nat) (ts:List TypeId) (cs:List Value):Prop:=∀ (i:Nat) v u,cs[i]?=some v->ts[i]?=some u->Cell.okWide P w r base u v
theorem FG {T:Kind->TypeId->Bool}{sz:TypeId->Nat}{g:TypeId->Option (List TypeId)}(hT:∀ k t ts,T k t=true->g t=some ts->ts.length=k.size) :
  ∀ {k:Kind}{L:List (TypeId×Nat)}{off:Nat}{g8:List (List TypeId)},KFs T sz k L off=true->L.mapM (λp=>g p.1)=some g8->g8.flatten.length=k.size
 |k,[],_,_,h,_=>by simp[KFs] at h
 |k,[p],off,g8,h,hm=>by
  simp only[KFs,z4] at h;cases hg:g p.1 with
  |none=>simp[hg] at hm
  |some ts =>simp[hg] at hm;subst hm;simpa using hT _ _ _ h.2.2 hg
 |.pair a b,p::q::r,off,g8,h,hm=>by
  simp only[KFs,z4] at h;rw[xl] at hm;cases hg:g p.1 with
  |none=>simp[hg] at hm
  |some ts =>
   cases hr:(q::r).mapM (λp=>g p.1) with
   |none=>simp[hg,hr] at hm
   |some tr =>simp[hg,hr] at hm;subst hm;have:=FG hT h.2.2.2 hr;simp only[List.flatten_cons,zH,this,hT _ _ _ h.2.2.1 hg,Kind.size]
 |.i _,_::_::_,_,_,h,_|.bo,_::_::_,_,_,h,_|.st,_::_::_,_,_,h,_|.list _,_::_::_,_,_,h,_=>by cases h
theorem H3 {α β γ:Type}{f:α->β}{g:β->Option γ}:∀ (l:List α),(l.map f).mapM g=l.mapM (λx=>g (f x))
 |[]=>rfl
 |a::l=>by simp only[zE,xl,H3 l]
theorem HK {β:Type}{x:β}{f:Nat->Option β}(h:∀ i,f i=some x):∀ l:List Nat,l.mapM f=some (List.replicate l.length x)
 |[]=>rfl
 |a::l=>by simp[xl,h,HK h l,xD]
theorem FE:∀ {n:Nat}{k:Kind}{t:TypeId}{d:Nat}{ts:List TypeId},KTy P n k t=true->P.cellTypes d t=some ts->ts.length=k.size
 |0,_,_,_,_,h,_=>by cases h
 |_+1,_,_,0,_,_,h=>by cases h
 |n+1,k,t,d+1,ts,h,ht=>by
  have ih:∀ k t ts,KTy P n k t=true->P.cellTypes d t=some ts->ts.length=k.size:=λk t ts h1 h2=>FE h1 h2;unfold Program.cellTypes at ht;unfold KTy at h;cases hu:P.underlying t with
  |none=>rw[hu] at h;cases h
  |some u =>
   rw[hu] at h ht;cases u<;>first|(cases h;done)|skip
   all_goals simp only at h ht
   .split at h<;>first|(cases h;done)|(obtain rfl:=osj ht;rfl)
   .split at h<;>first|(cases h;done)|(obtain rfl:=osj ht;rfl)
   .split at h<;>first|(cases h;done)|(obtain rfl:=osj ht;rfl)
   .split at h<;>first|(cases h;done)|(obtain rfl:=osj ht;rfl)
   .rename_i m e;rw[z4] at h;cases hc:P.cellTypes d e with
    |none=>rw[hc] at ht;cases ht
    |some te =>rw[hc] at ht;obtain rfl:=osj ht;refine FG (g:=λt=>P.cellTypes d t) ih h.2 ?_;rw[H3,HK (x:=te) (λ_=>hc)];simp
   .rename_i fs;rw[z4] at h;cases hc:fs.toList.mapM λf=>P.cellTypes d f.type with
    |none=>rw[hc] at ht;cases ht
    |some g8 =>rw[hc] at ht;obtain rfl:=osj ht;refine FG (g:=λt=>P.cellTypes d t) ih h.2 ?_;rw[H3];exact hc
theorem BU {T:Kind->TypeId->Bool}{sz:TypeId->Nat}{Q:TypeId->List Value->Prop}{R:Kind->List Value->Prop}(hT:∀ k t cs,T k t=true->Q t cs->R k cs) (hR:∀ a b cs ds,R a cs->R b ds->R (.pair a b) (cs++ds)) (cs:List Value) :
  ∀ {k:Kind}{L:List (TypeId×Nat)}{off:Nat},KFs T sz k L off=true->(∀ p∈L,Q p.1 ((cs.drop p.2).take (sz p.1)))->R k ((cs.drop off).take k.size)
 |k,[],_,h,_=>by simp[KFs] at h
 |k,[p],off,h,hq=>by simp only[KFs,z4,zK] at h;have:=hq p (by simp);rw[h.1,h.2.1] at this;exact hT _ _ _ h.2.2 this
 |.pair a b,p::q::r,off,h,hq=>by
  simp only[KFs,z4,zK] at h;have h1:=hq p (by simp);rw[h.1,h.2.1] at h1;have h2:=BU hT hR cs h.2.2.2 λx hx=>hq x (ze _ hx);have e:(cs.drop off).take (Kind.pair a b).size=(cs.drop off).take a.size++(cs.drop (off+a.size)).take b.size:=by rw[Kind.size,List.take_add,List.drop_drop]
  rw[e];exact hR _ _ _ _ (hT _ _ _ h.2.2.1 h1) h2
 |.i _,_::_::_,_,h,_|.bo,_::_::_,_,h,_|.st,_::_::_,_,h,_|.list _,_::_::_,_,h,_=>by cases h
def FlatIs (k:Kind) (cs:List Value):Prop:=∃ y:k.T,(∀ h,KC h k y cs)/\KWf k y/\∀ ρ m,LRel ρ m cs cs
theorem FlatIs.pair {a b:Kind}{cs ds:List Value}(h1:FlatIs a cs) (h2:FlatIs b ds):FlatIs (.pair a b) (cs++ds):=by obtain⟨x,k1,k2,k3⟩:=h1;obtain⟨y,m1,m2,m3⟩:=h2;exact⟨(x,y),λh=>⟨cs,ds,rfl,k1 h,m1 h⟩,⟨k2,m2⟩,fun ρ m=>(k3 ρ m).append (m3 ρ m)⟩
theorem LRel.one {ρ:Plc}{n:Nat}{v c:Value}(h:VRel ρ n v c):LRel ρ n [v] [c]:=.cons h (.nil _ _)
theorem H6 {fs:Array Field}{f:Field}(h:f∈fs.toList):∃ i:Nat,fs[i]?=some f:=by obtain⟨i,hi,rfl⟩:=List.mem_iff_getElem.1 h;exact⟨i,by simp at hi;simp[hi]⟩
theorem Cu {sp:Nat->Bool}{held:Bool}:∀ {n:Nat}{k:Kind}{t:TypeId}{fuel:Nat}{cs:List Value}{x:DataW H×List MemPlace},KTy P n k t=true->k.flat=true->DataW.trod enc P w base sp held fuel t cs=some x->FlatIs k cs
 |0,_,_,_,_,_,h,_,_=>by cases h
 |n+1,k,t,fuel,cs,x,h,hf,hx=>by
  unfold KTy at h;cases hu:P.underlying t with
  |none=>rw[hu] at h;cases h
  |some u =>
   rw[hu] at h;have hR:∀ a b cs ds,((a.flat=true->FlatIs a cs)/\True)->((b.flat=true->FlatIs b ds)/\True)->(((Kind.pair a b).flat=true->FlatIs (.pair a b) (cs++ds))/\True):=λa b cs ds h1 h2=>⟨λhf=>by
    simp only[Kind.flat,z4] at hf;exact(h1.1 hf.1).pair (h2.1 hf.2),trivial⟩
   have hT:∀ k t cs,KTy P n k t=true->(∃ fuel x,DataW.trod enc P w base sp held fuel t cs=some x)->((k.flat=true->FlatIs k cs)/\True):=λk t cs h1 ⟨fuel,x,h2⟩=>⟨λhf=>Cu h1 hf h2,trivial⟩;cases u<;>first|(cases h;done)|skip
   all_goals simp only at h
   .split at h<;>first|(cases h;done)|skip
    obtain⟨b,rfl,_⟩:=DataW.trod_bool hu hx;exact⟨b,λ_=>rfl,trivial,λ_ _=>.one (.bool _)⟩
   .split at h<;>first|(cases h;done)|skip
    obtain rfl:=zg h;obtain⟨z,rfl,_,hw⟩:=DataW.trod_int hu hx;exact⟨z,λ_=>rfl,Z4l hw,λ_ _=>.one (.int _ _)⟩
   .split at h<;>first|(cases h;done)|skip
    obtain⟨s,rfl,_,hs⟩:=DataW.trod_string hu hx;exact⟨s.data.toList,λ_=>rfl,hs,λ_ _=>.one (.string _)⟩
   .split at h<;>first|(cases h;done)|(cases hf;done)
   .rename_i m e;simp only[z4,zK] at h;obtain⟨xs,m',_,_,hl,gQ,hx⟩:=DataW.trod_array hu hx;have:=(BU (R:=λk cs=>(k.flat=true->FlatIs k cs)/\True) hT hR cs h.2 λp hp=>by
     simp only[zo,zA] at hp;obtain⟨i,hi,rfl⟩:=hp;have:=hx i hi;rw[z5 (by omega)] at this;exact⟨_,_,this⟩).1 hf
    rwa [xg,zM (by omega)] at this
   .rename_i fs;simp only[z4,zK] at h;obtain⟨xs,m',_,_,hl,gQ,hx⟩:=DataW.trod_struct hu hx;have:=(BU (R:=λk cs=>(k.flat=true->FlatIs k cs)/\True) hT hR cs h.2 λp hp=>by
     simp only[zo] at hp;obtain⟨f,lH,rfl⟩:=hp;obtain⟨i,hi⟩:=H6 lH;have:=hx i f hi;have gS:i<fs.size:=(xH.1 hi).1;rw[z5 (by omega)] at this;exact⟨_,_,this⟩).1 hf
    rwa [xg,zM (by omega)] at this
theorem Rows.range {α:Type}{R:α->List Value->Prop}{n:Nat}{c:List Value}{x:Nat->α}:∀ (m:Nat),(∀ i,i<m->R (x i) ((c.drop (i*n)).take n))->Rows R ((List.range m).map x) (c.take (m*n))
 |0,_=>by simp;exact .nil
 |m+1,h=>by
  have e:c.take ((m+1)*n)=c.take (m*n)++(c.drop (m*n)).take n:=by rw[zN,xR,List.take_add]
  rw[List.range_succ,xC,e];exact(Rows.range m λi hi=>h i (by omega)).append (by simpa using Rows.cons (h m (by omega)) .nil)
theorem F4 {α:Type}[Inhabited α] {m:Nat}{p:Nat->α->Prop}(h:∀ i,i<m->∃ x,p i x):∃ f:Nat->α,∀ i,i<m->p i (f i) :=
 ⟨λi=>if hi:i<m then (h i hi).choose else default,λi hi=>by simp only[hi,dif_pos];exact(h i hi).choose_spec⟩
instance KInh (k:Kind):Inhabited k.T:=⟨k.dflt⟩
theorem View.list {ρ:Plc}{M:Heap}(h:View w ρ M) {n:Nat}{k:Kind}{t e:TypeId}{fuel:Nat}{cs:List Value}{x:DataW H×List MemPlace}(hu:P.underlying t=some (.slice e)) (hs:P.cellsOf e=k.size) (hf:k.flat=true) (hk:KTy P n k e=true)
  (hx:DataW.trod enc P w 0 (λ_=>true) true fuel t cs=some x) (ai:okc P w r base [t] cs):ArgIs w ρ M (.list k) cs:=by
 rcases open_slice hu hx with⟨rfl,_⟩|⟨a,len,cap,m,fu,D,Pl,rfl,hb,hl,hm,ij,_,hel⟩
 .exact⟨ρ,M,[.slice none 0 0],[],h,More.refl _ _,.one .nilSl,⟨_,rfl,.inl ⟨rfl,rfl⟩⟩,by simp[maxLen],λ_ hx=>by cases hx⟩
 simp only[zB] at ij;subst ij;rw[hs] at hel;have ry:w.has P r base a e m:=by
  rcases Fg hu (ai 0 _ t rfl rfl) with hh|⟨a',ve,av,hh,h2⟩
  .cases hh
  .cases hh;exact h2
 obtain⟨C,row,f,aF,a8,dF⟩:=Q1v ry;obtain⟨blk,off,spot⟩:=a;simp only at aF a8 dF;subst dF;have lz:∀ i,(⟨blk,off,none⟩:Addr).add i=⟨blk,off+i,none⟩:=λi=>by unfold Addr.add;split<;>simp_all
 obtain⟨X,hX⟩:=F4 (α:=k.T×List Value) (m:=m) (p:=λi p=>p.2.length=k.size/\(∀ j,j<k.size->w.cell? ⟨blk,off+i*k.size+j,none⟩=p.2[j]?)/\(∀ h,KC h k p.1 p.2)/\KWf k p.1/\∀ ρ m,LRel ρ m p.2 p.2) λi hi=>by
  obtain⟨cs',h1,h2⟩:=hel i hi;obtain⟨_,k1,k2⟩:=World.cells?_some h1;obtain⟨y,m1,m2,m3⟩:=Cu hk hf h2;refine⟨(y,cs'),k1,λj hj=>?_,m1,m2,m3⟩;have:=k2 j hj;rw[lz] at this;have e2:(⟨blk,off+i*k.size,none⟩:Addr).add j=⟨blk,off+i*k.size+j,none⟩:=by unfold Addr.add;split<;>simp_all
  rw[e2] at this;exact this
 have bE:=k.size_pos;let c:List Value:=(List.range (m*k.size)).map λj=>((X (j / k.size)).2[j % k.size]?).getD undef;have cz:c.length=m*k.size:=by simp[c]
 have hdiv:∀ j,j<m*k.size->j / k.size<m:=λj hj=>Nat.div_lt_of_lt_mul (by rw[wk];exact hj);have bA:∀ j,j<m*k.size->∃ v,c[j]?=some v/\w.cell? ⟨blk,off+j,none⟩=some v/\∀ ρ m,VRel ρ m v v:=λj hj=>by
  have h1:=hX (j / k.size) (hdiv j hj);have fY:j % k.size<k.size:=w5 _ bE;have h2:=h1.2.1 _ fY;have e:off+j / k.size*k.size+j % k.size=off+j:=by rw[zp,Nat.div_add_mod']
  rw[e] at h2;have h3:j % k.size<(X (j / k.size)).2.length:=by rw[h1.1];exact fY
  refine⟨(X (j / k.size)).2[j % k.size],?_,?_,fun ρ m=>(h1.2.2.2.2 ρ m).2 _ _ _ (z5 h3) (z5 h3)⟩
  .simp only[c,zU,List.getElem?_range hj,xB,z5 h3,Option.getD_some]
  .rw[h2,z5 h3]
 have rz:∀ i,i<m->(c.drop (i*k.size)).take k.size=(X i).2:=λi hi=>by
  have h1:=hX i hi;have hle:i*k.size+k.size<=m*k.size:=by have:(i+1)*k.size<=m*k.size:=zD _ hi;rw[zN] at this;omega
  apply zZ;intro j;by_cases hj:j<k.size
  .rw[List.getElem?_take_of_lt hj,zC];have eE:i*k.size+j<m*k.size:=by omega
   have e1:(i*k.size+j) / k.size=i:=by rw[wk,Nat.mul_add_div bE,Nat.div_eq_of_lt hj,zR]
   have e2:(i*k.size+j) % k.size=j:=by rw[wk,Nat.mul_add_mod,xk hj]
   have h3:j<(X i).2.length:=by rw[h1.1];exact hj
   simp only[c,zU,List.getElem?_range eE,xB,e1,e2,z5 h3,Option.getD_some]
  .rw[zr (by simp;omega),zr (by omega)]
 have aL:off+m*k.size<=C.size:=by
  rcases Nat.eq_zero_or_pos (m*k.size) with h0|h0
  .omega
  .obtain⟨v,_,h2,_⟩:=bA (m*k.size-1) (by omega);unfold World.cell? at h2;simp only[aF] at h2;have:=(xH.1 (by simpa using h2)).1;omega
 obtain⟨hv,mU⟩:=h.add ⟨blk,off,m*k.size,⟨k.size,row⟩,false⟩ c aF aL (by simp[cz]) rfl (λj v hj=>by
  have cj:j<m*k.size:=by rw[<-cz];exact(z9.1 hj).1
  obtain⟨v',h1,h2,h3⟩:=bA j cj;obtain rfl:=osj (hj.symm.trans h1);exact⟨v,h2,h3 _ _⟩)
 have hlen:((List.range len).map λi=>(X i).1).length=len:=by simp
 refine⟨_,_,[.slice (some ⟨M.n,0,none⟩) len m],(List.range len).map λi=>(X i).1,hv,mU,.one ?_,⟨_,rfl,.inr ⟨M.n,0,m,c,⟨k.size,row⟩,false,false,by rw[hlen],by rw[hlen];exact hl,Heap.q0a _ _,rfl,?_,?_⟩⟩,?_,λy hy=>?_⟩
 .refine .sl _ _ _ _ _ _ (by simp) λp hp=>?_;simp[Plc.put] at hp;subst hp;exact⟨z7 _,(λh=>by cases h),0,by simp,by simp,.inl rfl⟩
 .rw[hlen,cz,xh];exact zD _ hl
 .rw[hlen,xg];refine Rows.range len λi hi=>?_;rw[rz i (by omega)];exact(hX i (by omega)).2.2.1 _
 .rw[hlen];exact x8 hl hm
 .obtain⟨i,hi,rfl⟩:=zo.1 hy;exact(hX i (by have:=zA.1 hi;omega)).2.2.2.1
def Kind.lev1:Kind->Bool
 |.list k=>k.flat
 |.pair a b=>a.lev1&&b.lev1
 |_=>true
theorem Ix {ts:List TypeId}{cs:List Value}(h:okc P w r base ts cs) (o n:Nat):okc P w r base ((ts.drop o).take n) ((cs.drop o).take n):=λi v u h1 h2=>by
 have hi:i<n:=by have:=(z9.1 h1).1;rw[wa] at this;omega
 rw[List.getElem?_take_of_lt hi,zC] at h1 h2;exact h _ v u h1 h2
theorem Tu {T:Kind->TypeId->Bool}{sz:TypeId->Nat}{g:TypeId->Option (List TypeId)}(hT:∀ k t ts,T k t=true->g t=some ts->ts.length=k.size) :
  ∀ {k:Kind}{L:List (TypeId×Nat)}{off:Nat}{g8:List (List TypeId)},KFs T sz k L off=true->L.mapM (λp=>g p.1)=some g8->∀ p∈L,off<=p.2/\g p.1=some ((g8.flatten.drop (p.2-off)).take (sz p.1))
 |k,[],_,_,h,_=>by simp[KFs] at h
 |k,[p],off,g8,h,hm=>by
  simp only[KFs,z4,zK] at h;intro p' hp;obtain rfl:=zd.1 hp;cases hg:g p'.1 with
  |none=>simp[hg] at hm
  |some ts =>
   simp[hg] at hm;subst hm;refine⟨by omega,?_⟩;rw[h.1,wg,xg,h.2.1,zM]
   .simp
   .simp[hT _ _ _ h.2.2 hg]
 |.pair a b,p::q::r,off,g8,h,hm=>by
  simp only[KFs,z4,zK] at h;rw[xl] at hm;intro p' hp;cases hg:g p.1 with
  |none=>simp[hg] at hm
  |some ts =>
   cases hr:(q::r).mapM (λp=>g p.1) with
   |none=>simp[hg,hr] at hm
   |some tr =>
    simp[hg,hr] at hm;subst hm;have hlen:=hT _ _ _ h.2.2.1 hg;rcases zj.1 hp with rfl|hp
    .refine⟨by omega,?_⟩;rw[hg,h.1,wg,xg,h.2.1,List.flatten_cons,List.take_append,<-hlen,wg,wx,xy,List.take_length]
    .obtain⟨h1,h2⟩:=Tu hT h.2.2.2 hr p' hp;refine⟨by omega,?_⟩;have e1:ts.drop (p'.2-off)=[]:=List.drop_eq_nil_of_le (by omega);have e2:p'.2-off-a.size=p'.2-(off+a.size):=by omega
     rw[h2,List.flatten_cons,List.drop_append,hlen,e1,e2,xt]
 |.i _,_::_::_,_,_,h,_|.bo,_::_::_,_,_,h,_|.st,_::_::_,_,_,h,_|.list _,_::_::_,_,_,h,_=>by cases h
theorem LU:∀ {n:Nat}{k:Kind}{t:TypeId}{d:Nat}{ts:List TypeId}{fuel:Nat}{cs:List Value}{x:DataW H×List MemPlace},KTy P n k t=true->k.lev1=true->P.cellTypes d t=some ts->okc P w r base ts cs->DataW.trod enc P w 0 (λ_=>true) true fuel t cs=some x->∀ ρ M,View w ρ M->ArgIs w ρ M k cs
 |0,_,_,_,_,_,_,_,h,_,_,_,_=>by cases h
 |_+1,_,_,0,_,_,_,_,_,_,h,_,_=>by cases h
 |n+1,k,t,d+1,ts,fuel,cs,x,h,hf,e_,ai,hx=>by
  intro ρ M hv;by_cases bC:k.flat=true
  .obtain⟨y,h1,h2,h3⟩:=Cu h bC hx;exact⟨ρ,M,cs,y,hv,More.refl _ _,h3 _ _,h1 _,h2⟩
  unfold KTy at h;cases hu:P.underlying t with
  |none=>rw[hu] at h;cases h
  |some u =>
   rw[hu] at h;let Q:TypeId->List Value->Prop:=λt cs=>(∃ fuel x,DataW.trod enc P w 0 (λ_=>true) true fuel t cs=some x)/\∃ ts,P.cellTypes d t=some ts/\okc P w r base ts cs;let R:Kind->List Value->Prop:=λk cs=>k.lev1=true->∀ ρ M,View w ρ M->ArgIs w ρ M k cs;have hR:∀ a b cs ds,R a cs->R b ds->R (.pair a b) (cs++ds):=λa b cs ds h1 h2 hl ρ M hv=>by simp only[Kind.lev1,z4] at hl;exact(h1 hl.1 ρ M hv).pair fun ρ M hv=>h2 hl.2 ρ M hv
   have hT:∀ k t cs,KTy P n k t=true->Q t cs->R k cs:=λk t cs h1 ⟨⟨fuel,x,h2⟩,ts,h3,h4⟩ hl=>LU h1 hl h3 h4 h2;have hlen:∀ k t ts,KTy P n k t=true->P.cellTypes d t=some ts->ts.length=k.size:=λk t ts h1 h2=>FE h1 h2;unfold Program.cellTypes at e_;rw[hu] at e_;cases u<;>first|(cases h;done)|skip
   all_goals simp only at h
   .split at h<;>first|(cases h;done)|(exact absurd rfl bC)
   .split at h<;>first|(cases h;done)|(exact absurd rfl bC)
   .split at h<;>first|(cases h;done)|(exact absurd rfl bC)
   .rename_i e;split at h<;>first|(cases h;done)|skip
    simp only[z4,zK] at h;simp only[x9] at e_;subst e_;exact hv.list hu h.1 h.2.1 h.2.2 hx ai
   .rename_i m e;simp only[z4,zK] at h;obtain⟨xs,m',_,_,hl,gQ,hx⟩:=DataW.trod_array hu hx;simp only at e_;cases hc:P.cellTypes d e with
    |none=>rw[hc] at e_;cases e_
    |some te =>
     rw[hc] at e_;obtain rfl:=osj e_;have nQ:((List.range m).map λi=>(e,i*P.cellsOf e)).mapM (λp:TypeId×Nat=>P.cellTypes d p.1)=some (List.replicate m te):=by rw[H3,HK (x:=te) (λ_=>hc)];simp
     have:=BU (Q:=Q) (R:=R) hT hR cs h.2 (λp hp=>by
      have j5:=Tu (g:=λt=>P.cellTypes d t) hlen h.2 nQ p hp;simp only[zo,zA] at hp;obtain⟨i,hi,rfl⟩:=hp;have:=hx i hi;rw[z5 (by omega)] at this;exact⟨⟨_,_,this⟩,_,j5.2,Ix ai _ _⟩) hf ρ M hv
     rwa [xg,zM (by omega)] at this
   .rename_i fs;simp only[z4,zK] at h;obtain⟨xs,m',_,_,hl,gQ,hx⟩:=DataW.trod_struct hu hx;simp only at e_;cases hc:fs.toList.mapM λf=>P.cellTypes d f.type with
    |none=>rw[hc] at e_;cases e_
    |some g8 =>
     rw[hc] at e_;obtain rfl:=osj e_;have nQ:(fs.toList.map λf=>(f.type,f.offset)).mapM (λp:TypeId×Nat=>P.cellTypes d p.1)=some g8:=by rw[H3];exact hc
     have:=BU (Q:=Q) (R:=R) hT hR cs h.2 (λp hp=>by
      have j5:=Tu (g:=λt=>P.cellTypes d t) hlen h.2 nQ p hp;simp only[zo] at hp;obtain⟨f,lH,rfl⟩:=hp;obtain⟨i,hi⟩:=H6 lH;have:=hx i f hi;have gS:i<fs.size:=(xH.1 hi).1;rw[z5 (by omega)] at this;exact⟨⟨_,_,this⟩,_,j5.2,Ix ai _ _⟩) hf ρ M hv
     rwa [xg,zM (by omega)] at this
def isAgg (P:Program) (t:TypeId):Bool:=match P.underlying t with
 |some (.struct _)=>true
 |some (.array _ _)=>true
 |_=>false
theorem View.arg {ρ:Plc}{M:Heap}(h:View w ρ M) {n:Nat}{k:Kind}{t:TypeId}{v:Value}{d:DataW H}{p:List MemPlace}(hk:KTy P n k t=true) (hl:k.lev1=true) (ha:isAgg P t=!k.one) (ai:Value.okWide P w r base t v) (hd:DataW.Trod enc P w 0 (λ_=>true) true t v d p) :
  ∃ ρ' M' vv x,View w ρ' M'/\More ρ M ρ' M'/\VRel ρ' M'.n vv v/\KV M' k x vv/\KWf k x:=by
 obtain⟨fuel,hd⟩:=hd;by_cases eD:isAgg P t=true
 .have bP:k.one=false:=by rw[eD] at ha;simpa using ha.symm
  have:∃ cs,v=.agg cs/\cs.size=P.cellsOf t/\Row.okWide P w r base t cs:=by
   unfold isAgg at eD;unfold Value.okWide at ai;split at eD<;>first|(cases eD;done)|skip
   .rename_i hu;rw[hu] at ai;exact ai
   .rename_i hu;rw[hu] at ai;exact ai
  obtain⟨cs,rfl,aL,ts,e_,_,cK⟩:=this;have hlen:=FE hk e_;have aB:P.cellsOf t=k.size:=by
   unfold isAgg at eD;cases n with
   |zero=>cases hk
   |succ n =>
    unfold KTy at hk;split at eD<;>first|(cases eD;done)|skip
    all_goals
     rename_i hu;rw[hu] at hk;simp only[z4,zK] at hk;exact hk.1
  have mr:okc P w r base ts cs.toList:=λi v u h1 h2=>by have hi:i<ts.length:=(z9.1 h2).1;obtain⟨u',h3,h4⟩:=cK i v (by simpa using h1);rw[xk hi] at h3;obtain rfl:=osj (h2.symm.trans h3);exact h4
  obtain⟨ρ',M',vs,x,k1,k2,k3,k4,k5⟩:=LU hk hl e_ mr (show DataW.trod enc P w 0 _ true fuel t cs.toList=_ from hd) ρ M h;exact⟨ρ',M',.agg vs.toArray,x,k1,k2,VRel.q1m (ds:=cs.toList) k3,.inr ⟨bP,vs,rfl,k4⟩,k5⟩
 .have bP:k.one=true:=by
   have:isAgg P t=false:=by simpa using eD
   rw[this] at ha;simpa using ha.symm
  have iI:=Kind.q1p bP;have bA:Cell.okWide P w r base t v/\v.cells.toList=[v]:=by
   have h1:isAgg P t=false:=by simpa using eD
   unfold isAgg at h1;have h2:Cell.okWide P w r base t v:=by
    unfold Value.okWide at ai;split at ai
    .rename_i hu;rw[hu] at h1;cases h1
    .rename_i hu;rw[hu] at h1;cases h1
    .exact ai
   refine⟨h2,?_⟩;cases v<;>first|rfl|skip
   all_goals
    exfalso;cases n with
    |zero=>cases hk
    |succ n =>
     unfold KTy at hk;unfold Cell.okWide Cell.ok at h2;cases hu:P.underlying t with
     |none=>rw[hu] at hk;cases hk
     |some u =>rw[hu] at hk h2 h1;cases u<;>first|(cases hk;done)|(cases h1;done)|(cases h2;done)|(simp at h2;done)
  have e_:P.cellTypes 1 t=some [t]:=by
   have h1:isAgg P t=false:=by simpa using eD
   unfold isAgg at h1;unfold Program.cellTypes;cases n with
   |zero=>cases hk
   |succ n =>
    unfold KTy at hk;cases hu:P.underlying t with
    |none=>rw[hu] at hk;cases hk
    |some u =>rw[hu] at h1;cases u<;>first|rfl|(cases h1;done)
  rw[bA.2] at hd;have mr:okc P w r base [t] [v]:=λi v' u h1 h2=>by
   cases i with
   |zero=>cases h1;cases h2;exact bA.1
   |succ i=>simp at h1
  obtain⟨ρ',M',vs,x,k1,k2,k3,k4,k5⟩:=LU hk hl e_ mr hd ρ M h;have:vs.length=1:=by rw[KC.length k4];exact iI
  obtain⟨vv,rfl⟩:=xj.1 this;exact⟨ρ',M',vv,x,k1,k2,k3.2 0 _ _ rfl rfl,.inl ⟨bP,k4⟩,k5⟩
def AWf:(ks:List Kind)->AT ks->Prop
 |[],_=>True
 |[k],x=>KWf k x
 |k::k'::ks,x=>KWf k x.1/\AWf (k'::ks) x.2
def Z2t (P:Program):List Kind->List TypeId->Bool
 |[],[]=>true
 |k::ks,t::ts=>(KTy P 8 k t&&(k.lev1&&(isAgg P t==!k.one)))&&Z2t P ks ts
 |_,_=>false
theorem View.args:∀ {ks:List Kind}{ts:List TypeId}{vs:List Value}{ds:List (DataW H)}{ps:List MemPlace}{ρ:Plc}{M:Heap},View w ρ M->Z2t P ks ts=true->(∀ (j:Nat) t v,ts[j]?=some t->vs[j]?=some v->Value.okWide P w r base t v)->DataW.TrodAll enc P w 0 (λ_=>true) true ts vs ds ps ->
  ∃ ρ' M' mW x,View w ρ' M'/\More ρ M ρ' M'/\LRel ρ' M'.n mW vs/\LK M' ks x mW/\AWf ks x
 |[],[],vs,ds,ps,ρ,M,h,_,_,hA=>by obtain⟨rfl,rfl,rfl⟩:=trodAll_nil hA;exact⟨ρ,M,[],(),h,More.refl _ _,.nil _ _,rfl,trivial⟩
 |[k],[t],vs,ds,ps,ρ,M,h,hk,hv,hA=>by obtain⟨v,cL,d,ds',p,q,rfl,rfl,rfl,h1,h2⟩:=trodAll_cons hA;obtain⟨rfl,rfl,rfl⟩:=trodAll_nil h2;simp only[Z2t,z4,zK] at hk;obtain⟨ρ',M',vv,x,k1,k2,k3,k4,k5⟩:=h.arg hk.1.1 hk.1.2.1 hk.1.2.2 (hv 0 t v rfl rfl) h1;exact⟨ρ',M',[vv],x,k1,k2,.one k3,⟨vv,rfl,k4⟩,k5⟩
 |k::k'::ks,t::ts,vs,ds,ps,ρ,M,h,hk,hv,hA=>by obtain⟨v,cL,d,ds',p,q,rfl,rfl,rfl,h1,h2⟩:=trodAll_cons hA;simp only[Z2t,z4,zK] at hk;obtain⟨ρ1,σ1,vv,x,k1,k2,k3,k4,k5⟩:=h.arg hk.1.1 hk.1.2.1 hk.1.2.2 (hv 0 t v rfl rfl) h1;obtain⟨ρ2,M2,mW,y,m1,m2,m3,m4,m5⟩:=k1.args (ks:=k'::ks) hk.2 (λj t v h1 h2=>hv (j+1) t v h1 h2) h2;exact⟨ρ2,M2,vv::mW,(x,y),m1,k2.trans m2,.cons (k3.mono m2.n m2.pl) m3,⟨vv,mW,rfl,k4.vcall m2.le,m4⟩,k5,m5⟩
 |[],_::_,_,_,_,_,_,_,hk,_,_|_::_,[],_,_,_,_,_,_,hk,_,_|[_],_::_::_,_,_,_,_,_,_,hk,_,_=>by simp[Z2t] at hk
theorem Q44 (hT:J0t w) {f:Nat}{sp:CSp}(dF:OkC P f sp) (he:W1 P f) {ks:List Kind}{ts:List TypeId}{args:Array Value}{ds:List (DataW H)}{ps:List MemPlace}(hk:Z2t P ks ts=true)
  (hv:∀ (j:Nat) t v,ts[j]?=some t->args.toList[j]?=some v->Value.okWide P w r base t v) (hA:DataW.TrodAll enc P w 0 (λ_=>true) true ts args.toList ds ps)
  (hs:∀ x:AT ks,AWf ks x->∃ c,sp (λ_ _=>none) (L_ ks x)=some (c,.val .bo true,[])/\c):Calls P f args w λe w'=>e=.returned (.bool true)/\Below w.heap.size w w':=by
 obtain⟨ρ,M,mW,x,k1,k2,k3,k4,k5⟩:=(View.emptyT w hT).args hk hv hA;obtain⟨c,h1,h2⟩:=hs x k5;exact k1.calls k3 (dF.true he (B8 k4) h1 h2)
end
end Go.V
namespace Go.V
open Go
theorem RE {H:Type}{enc:TypeId×Value->H}{P:Program}{w:World}{b:Nat}{sp:Nat->Bool}{hd:Bool}:∀ {ts:List TypeId}{vs:List Value}{ds:List (DataW H)}{ps:List MemPlace},DataW.TrodAll enc P w b sp hd ts vs ds ps->ds.length=ts.length
 |[],[],[],_,_=>rfl
 |t::ts,v::vs,d::ds,ps,h=>by obtain⟨p,q,_,h2,_⟩:=h;simp[RE h2]
 |[],[],_::_,_,h|[],_::_,_,_,h|_::_,[],_,_,h|_::_,_::_,[],_,h=>h.elim
end Go.V
namespace Go.Proofs.Tryz
open Go Go.V
def J0a:List (Option FEnt):=[
 none,
 none,
 some (.code c2 [] 1),
 some (.code c3 [.tmp 2] 84),
 some (.code c4 [.tmp 4] 203),
 some (.code c5 [.tmp 2] 92),
 some (.code c6 [.tmp 6] 129),
 some (.code c7 [.tmp 4] 283),
 some (.code c8 [.tmp 6] 207),
 some (.code c9 [.tmp 2] 249),
 some (.code c10 [.tmp 6] 205),
 some (.code c11 [.tmp 2] 265),
 some (.code c12 [.tmp 4] 132),
 some (.code c13 [.tmp 4] 228),
 some (.code c14 [.tmp 6] 133),
 some (.code c15 [.tmp 0] 226),
 some (.code c16 [.cell 2 true 2] 9),
 some (.codeJ c17 [.tmp 2,.tmp 3] 49),
 some (.codeJ c18 [.cell 2 true 2,.tmp 3] 34),
 some (.code c19 [.tmp 2] 32),
 some (.code c20 [.tmp 2] 45),
 some (.code c21 [.tmp 4] 17),
 some (.code c22 [.tmp 4] 26),
 some (.code c23 [.tmp 2] 74),
 some (.code c24 [.cell 2 true 2] 44),
 some (.code c25 [.tmp 2] 6),
 some (.codeJ c26 [.tmp 4,.tmp 5,.tmp 6,.tmp 7] 79),
 some (.codeJ c27 [.tmp 6,.tmp 7] 29),
 some (.codeJ c28 [.tmp 6,.tmp 7] 33),
 some (.code c29 [.tmp 4] 15),
 some (.code c30 [.tmp 6] 15),
 some (.code c31 [.cell 4 true 4,.tmp 5] 41),
 some (.code c32 [.tmp 6,.tmp 7] 60),
 some (.code c33 [.tmp 2] 37),
 some (.code c34 [.cell 2 true 3] 34),
 some (.code c35 [.tmp 2] 36),
 some (.codeJ c36 [.tmp 2,.tmp 3] 34),
 some (.codeJ c37 [.cell 2 false 1,.tmp 3] 44),
 some (.code c38 [.tmp 2] 78),
 some (.code c39 [.tmp 4] 63),
 some (.code c40 [.tmp 2] 5),
 some (.code c41 [.tmp 4] 27),
 some (.codeJ c42 [.tmp 6,.tmp 7] 57),
 some (.codeJ c43 [.tmp 2,.tmp 3] 45),
 some (.code c44 [.tmp 8] 46),
 some (.code c45 [.tmp 4] 66),
 some (.code c46 [.cell 2 true 2] 50),
 some (.codeJ c47 [.cell 2 true 2,.tmp 3] 54),
 some (.codeJ c48 [.tmp 6,.tmp 7,.tmp 8] 58),
 some (.code c49 [.tmp 4] 20),
 some (.code c50 [.tmp 4] 16),
 some (.code c51 [.cell 2 true 2] 74),
 some (.code c52 [.tmp 4] 52),
 some (.code c53 [.cell 2 true 2] 37),
 some (.code c54 [.tmp 4,.tmp 5,.tmp 6,.tmp 7,.tmp 8] 91),
 some (.code c55 [.cell 2 true 3,.tmp 3] 165),
 some (.code c56 [.tmp 4] 37),
 some (.code c57 [.tmp 2] 11),
 some (.code c58 [.cell 2 true 2,.tmp 3] 54),
 some (.code c59 [.tmp 6,.tmp 7,.tmp 8] 65),
 some (.code c60 [.cell 0 true 2] 8),
 some (.code c61 [.cell 2 true 3] 23),
 some (.code c62 [.cell 2 true 3,.tmp 3] 43),
 some (.code c63 [.tmp 4] 25),
 some (.code c64 [.tmp 4] 12),
 some (.code c65 [.tmp 2] 4),
 some (.code c66 [.tmp 4] 10),
 some (.code c67 [.tmp 4] 20),
 some (.code c68 [.tmp 4] 14),
 some (.code c69 [.tmp 4] 26),
 some (.code c70 [.tmp 4] 55),
 some (.code c71 [.tmp 4] 41),
 some (.code c72 [.tmp 4] 33),
 some (.code c73 [.cell 4 true 4,.tmp 5] 33),
 some (.code c74 [.tmp 2] 70),
 some (.code c75 [.tmp 2] 25),
 some (.code c76 [.tmp 4] 19),
 some (.code c77 [.tmp 2] 5),
 some (.code c78 [.tmp 6] 15),
 some (.code c79 [.tmp 6,.tmp 7] 28),
 some (.code c80 [.tmp 2] 9),
 some (.code c81 [.tmp 2] 4),
 some (.code c82 [.tmp 4] 30),
 some (.code c83 [.tmp 4] 24),
 some (.code c84 [.tmp 2] 7),
 some (.code c85 [.tmp 3] 9),
 some (.code c86 [.tmp 4] 16),
 some (.code c87 [.tmp 2] 6),
 some (.code c88 [.tmp 6] 11),
 some (.code c89 [.tmp 4] 9),
 some (.code c90 [.cell 4 false 1] 39),
 some (.code c91 [.tmp 4] 76),
 some (.code c92 [.cell 6 false 1] 110),
 some (.code c93 [.tmp 4] 26),
 some (.code c94 [.tmp 4] 19),
 some (.code c95 [.tmp 6] 29),
 some (.code c96 [.tmp 4] 9),
 some (.code c97 [.tmp 2] 9),
 some (.code c98 [.tmp 6] 88),
 some (.code c99 [.tmp 4] 6),
 some (.code Z8k [.tmp 4] 9),
 some (.code Z9q [.tmp 4] 23),
 some (.code Z6o [.tmp 4] 10),
 some (.code Z6m [.cell 2 true 3,.tmp 3] 30),
 some (.code Z70 [.tmp 4] 26),
 some (.code Z6a [.tmp 4] 11),
 some (.code Z98 [.cell 2 true 3] 5),
 some (.code Z62 [.cell 6 false 1] 73),
 some (.code Z74 [.tmp 2] 5),
 some (.code Z7e [] 14),
 some (.code Z6s [] 16),
 some (.code Z6n [.tmp 2] 6),
 some (.code Z73 [.tmp 3] 14),
 some (.code Z7b [.tmp 4] 9),
 some (.code Z9y [.tmp 2] 4),
 some (.code Z9x [.tmp 4] 48),
 some (.code Z6z [.tmp 6] 25),
 some (.code Z8o [] 28),
 some (.code Z6t [.tmp 4] 52),
 some (.code Z69 [.tmp 2] 5),
 some (.code Z76 [] 11),
 some (.code Z67 [] 14),
 some (.code Z8t [.tmp 6] 79),
 some (.code Z64 [.tmp 3] 17),
 some (.code Z7a [.tmp 4] 9),
 some (.code Z79 [.tmp 4] 13),
 some (.code Z8m [.tmp 4] 19),
 some (.code Z9j [.tmp 6] 8),
 some (.code Z97 [] 14),
 some (.code Z7o [.tmp 4] 36),
 some (.code Z9w [.tmp 4] 66),
 some (.code Z85 [.tmp 4] 26),
 some (.code Z8l [.tmp 6] 22),
 some (.code Z7w [.tmp 3] 12),
 some (.code Z7y [.tmp 4] 143),
 some (.code Z7r [] 31),
 some (.code Z99 [.tmp 4] 19),
 some (.code Z6v [.tmp 4] 13),
 some (.code Z6c [.tmp 4] 6),
 some (.code Z78 [.tmp 4] 13),
 some (.code Z63 [] 148),
 some (.code Z6h [.tmp 2] 8),
 some (.code Z6y [.tmp 4] 19),
 some (.code Z91 [] 19),
 some (.code Z9m [.tmp 4,.tmp 5] 30),
 some (.code Z6r [] 39),
 some (.code Z65 [.tmp 4] 13),
 some (.code Z71 [] 134),
 some (.code Z6x [.tmp 4] 19),
 some (.code Z8i [] 45),
 some (.code Z83 [.tmp 8] 55),
 some (.code Z80 [] 148),
 some (.code Z93 [.tmp 4] 18),
 some (.code Z6u [.tmp 2] 26),
 some (.code Z66 [] 20),
 some (.code Z6l [] 53),
 some (.code Z9i [] 60),
 some (.code Z7g [] 67),
 some (.code Z8b [.tmp 8,.tmp 9] 63),
 some (.code Z9b [] 34),
 some (.code Z9n [.tmp 8] 141),
 some (.code Z96 [.tmp 10] 90),
 some (.code Z9t [.tmp 10,.tmp 11] 178),
 some (.code Z68 [.tmp 2] 19),
 some (.code Z77 [.tmp 2] 25),
 some (.code Z9c [.tmp 4,.tmp 5] 17),
 some (.code Z7h [.tmp 4,.tmp 5] 51),
 some (.code Z6d [] 49),
 some (.code Z86 [] 56),
 some (.code Z9p [] 65),
 some (.code Z7l [.tmp 6,.tmp 7] 57),
 some (.code Z89 [] 32),
 some (.code Z8z [.tmp 6] 133),
 some (.code Z75 [.tmp 4] 17),
 some (.code Z7t [.tmp 8] 84),
 some (.code Z9f [.tmp 8,.tmp 9] 168),
 some (.code Z9r [] 53),
 some (.code Z8w [] 60),
 some (.code Z8p [] 67),
 some (.code Z7k [.tmp 8,.tmp 9] 63),
 some (.code Z8q [] 34),
 some (.code Z7q [.tmp 8] 141),
 some (.code Z94 [.tmp 10] 90),
 some (.code Z8x [.tmp 10,.tmp 11] 178),
 some (.code Z72 [.tmp 2] 22),
 some (.code Z7p [] 82),
 some (.code Z8c [.tmp 2] 7),
 some (.code Z8r [.tmp 2] 33),
 some (.code Z9s [.tmp 8] 18),
 some (.code Z9u [.tmp 12] 41),
 some (.code Z9d [] 76),
 some (.code Z9l [.tmp 6] 15),
 some (.code Z8y [.tmp 10] 36),
 some (.code Z81 [] 82),
 some (.code Z8d [.tmp 8] 18),
 some (.code Z84 [.tmp 12] 41),
 some (.code Z8h [.tmp 10,.tmp 11] 32),
 some (.code Z90 [.tmp 8,.tmp 9] 28),
 some (.code Z9h [.tmp 10,.tmp 11] 32)]
def Q1b:Tab:=λf=>(J0a[f]?).join
theorem Z1z:EntsOk Tryz.prog 0 J0a:=⟨trivial,trivial,J03,fun3,J0p,J0m,J0j,J0s,J0h,J0g,Z3v,Z54,Z42,Z4w,Z5r,Z0e,Z1w,Z05,Z0u,Z11,Z12,Z29,Z1h,Z0m,Z1r,Z3i,Z5e,Z2d,Z10,Z32,Z1o,Z51,Z3l,Z4g,Z36,Z41,Z48,Z4z,Z4v,Z52,Z4u,Z2y,Z5l,Z5y,Z38,Z4s,Z3z,Z5u,Z3u,Z59,Z5g,Z5c,Z4j,Z4p,Z53,Z4k,Z5n,Z3y,Z47,Z40,Z5h,Z4f,Q61,Z0r,Z0c,Z09,Z2a,Z16,Z1u,Z0q,Z1s,Z06,Z2b,Z1f,Z5k,Z49,Z33,Z0l,Z19,Z04,Z0y,Z1g,Z30,Z5f,Z4a,Z3g,Z0v,Z0w,Z1c,Z4t,Z4o,Z3p,Z3n,Z3s,Z3r,Z5x,Z45,Z5q,Z3k,Z60,Q99,Q9p,Q33,Q1t,Q4e,Q43,Q8s,Q4i,Q3z,Q4h,Q2m,Q29,Q2p,Q2h,Q97,Q8g,Q34,Q9w,Q53,Q4c,Q4y,Q4q,Q9l,Q48,Q4v,Q2i,Q98,Q7z,Q81,Q9r,Q9j,Q7h,Q9t,Q9g,Q8h,Q8e,Q8z,Q58,Q3b,Q57,Q4d,Q3h,Q54,Q8k,Q8c,Q4z,Q1k,Q42,Q18,Q93,Q9h,Q9v,Q7r,Q38,Q4r,Q2x,Q7n,Q7l,Q9d,Q7u,Q7y,Q8o,Q84,Q30,Q27,Q8b,Q9k,Q37,Q9i,Q8q,Q9x,Q89,Q8p,Q3a,Q83,Q7v,Q86,Q8a,Q96,Z00,Q9q,Q8m,Q9u,Q85,Q3q,Q9o,Q7j,Q9b,Q8w,Q8u,Q8i,Q9f,Q9m,Q8j,Q7t,Q7q,Q91,Q7s,Q8v,trivial⟩
theorem Tm:TabOk Tryz.prog Q1b:=IS Z1z
def mMoved:Memo:=⟨[.agg #[.int .i64 4,.slice (some ⟨0,0,none⟩) 5 5]],[⟨[.int .i64 0,.int .i64 1,.bool false,.int .i64 3,.int .i64 8,.bool false,.int .i64 1,.int .i64 2,.bool false,.int .i64 2,.int .i64 4,.bool false,.int .i64 4,.int .i64 15,.bool false],⟨3,87⟩,true⟩],.tuple #[.slice (some ⟨1,0,none⟩) 1 1,.int .i64 0],[⟨[.int .i64 1],⟨1,3⟩,false⟩]⟩
end Go.Proofs.Tryz
