/- A framework for walks, contracts of functions, and their proofs: part 6. -/
import Derived.ProofKit
import Derived.OpenShut
import Derived.LaidMore
import Derived.Carry
import Derived.Lib.SmallJoins
import Derived.Deep.Slices
import Derived.Test.YthponhelanafhaaGreatDoorR5
noncomputable section
set_option linter.unusedVariables false
set_option maxRecDepth 100000
namespace Go.Proofs.Tryz
open Go Go.V Go.Proofs
theorem Q0k {lw:List Int}{w:Nat}(hw:w<lw.length):lw.getD w 0∈lw:=by rw[Q6 hw];exact List.getElem_mem hw
theorem Q29 {l:List Lot}{sm:List Int}{i:Nat}(h:i<sm.length):(UN l sm).getD i Xh=l.getD (sm.getD i 0).toNat Xh:=by rw[Q6 (by simpa [UN] using h),Q6 h];simp[UN]
theorem OP {p:List Lot}{t:Int}:TL p t=true↔∀ i,i<p.length→∀ k,k<p.length→Q1y (p.getD i Xh) (p.getD k Xh) t=true:=by simp only[TL,List.all_eq_true,List.mem_range]
def alP (l:List Lot) (tl:Int) (i k:Int):Bool:=Q1y (l.getD i.toNat Xh) (l.getD k.toNat Xh) tl
def U0 (l:List Lot) (tl:Int):Bool:=(List.range l.length).all fun k=>WJ l tl (Q8 (2 ^ k))
def Q78 (l:List Lot) (tl:Int):Bool:=(List.range l.length).all fun k=>alP l tl (k:Int) (k:Int)
theorem Q34 (a b:Lot):Fe a b=Fe b a:=by unfold Fe;simp only[Nl];omega
theorem MH {l:List Lot}{tl i k:Int}:alP l tl i k=true↔(l.getD i.toNat Xh).1=(l.getD k.toNat Xh).1∧Fe (l.getD i.toNat Xh) (l.getD k.toNat Xh)≤tl∧Fe (l.getD i.toNat Xh) (l.getD i.toNat Xh)≤tl∧Fe (l.getD k.toNat Xh) (l.getD k.toNat Xh)≤tl:=by simp only[alP,Q1y,Bool.and_eq_true,beq_iff_eq,decide_eq_true_eq,and_assoc]
theorem Im {l:List Lot}{tl i k:Int}(h:alP l tl i k=true):alP l tl k i=true:=by rw[MH] at h ⊢;obtain⟨h1,h2,h3,h4⟩:=h;exact⟨h1.symm,by rw[Q34];exact h2,h4,h3⟩
theorem DX {l:List Lot}{tl:Int}{S:List Int}:TL (UN l S) tl=true↔∀ i∈S,∀ k∈S,alP l tl i k=true:=by
 have hlen:(UN l S).length=S.length:=List.length_map ..;have dW:∀ j,(h:j<S.length)→(UN l S).getD j Xh=l.getD S[j].toNat Xh:=fun j h=>by rw[Q29 h,Q6 h]
 rw[OP,hlen];constructor
 ·intro h i hi k hk;obtain⟨p,hp,rfl⟩:=List.getElem_of_mem hi;obtain⟨q,hq,rfl⟩:=List.getElem_of_mem hk;have:=h p hp q hq;rw[dW p hp,dW q hq] at this;exact this
 ·intro h p hp q hq;rw[dW p hp,dW q hq];exact h _ (List.getElem_mem hp) _ (List.getElem_mem hq)
theorem Ff {l:List Lot}{tl:Int}{n:Nat}(h0:0<n):WJ l tl (Q8 n)=true↔∀ i∈Q8 n,∀ k∈Q8 n,alP l tl i k=true:=by unfold WJ;rw[Q0m fun e=>CM h0 (by simpa [UN] using e),DX]
theorem C4 {a b:Nat}(ha:a<64) (hb:b<64) (i:Int):i∈Q8 (2 ^ a ||| 2 ^ b)↔i=a∨i=b:=by
 have h1:2 ^ a<2 ^ 64:=Nat.pow_lt_pow_right (by omega) ha;have h2:2 ^ b<2 ^ 64:=Nat.pow_lt_pow_right (by omega) hb;rw[Nr (Nat.or_lt_two_pow h1 h2)];simp only[Nat.testBit_or,Nat.testBit_two_pow,Bool.or_eq_true,decide_eq_true_eq];constructor
 ·rintro⟨k,rfl,h|h⟩
  ·exact .inl (by rw[h])
  ·exact .inr (by rw[h])
 ·rintro (rfl|rfl)
  ·exact⟨a,rfl,.inl rfl⟩
  ·exact⟨b,rfl,.inr rfl⟩
theorem Ao {l:List Lot}{tl:Int}{a b:Nat}(ha:a<64) (hb:b<64):WJ l tl (Q8 (2 ^ a ||| 2 ^ b))=alP l tl a b:=by
 have dH:0<2 ^ a ||| 2 ^ b:=Nat.lt_of_lt_of_le (Nat.two_pow_pos a) Nat.left_le_or
 rw[Bool.eq_iff_iff,Ff dH];constructor
 ·intro h;exact h a ((C4 ha hb _).2 (.inl rfl)) b ((C4 ha hb _).2 (.inr rfl))
 ·intro h i hi k hk;have h2:=Im h;have h3:=MH.1 h;have xl:alP l tl a a=true:=MH.2 ⟨rfl,h3.2.2.1,h3.2.2.1,h3.2.2.1⟩;have jG:alP l tl b b=true:=MH.2 ⟨rfl,h3.2.2.2,h3.2.2.2,h3.2.2.2⟩;rcases (C4 ha hb _).1 hi with rfl|rfl<;>rcases (C4 ha hb _).1 hk with rfl|rfl<;>assumption
theorem Af {l:List Lot}{tl:Int}{a:Nat}(ha:a<64):WJ l tl (Q8 (2 ^ a))=alP l tl a a:=by
 have:=Ao (l:=l) (tl:=tl) ha ha
 rwa [Nat.or_self] at this
theorem Q13 {l:List Lot}{tl:Int}(h:l.length≤12):U0 l tl=Q78 l tl:=by unfold U0 Q78;rw[Bool.eq_iff_iff,List.all_eq_true,List.all_eq_true];exact⟨fun h2 k hk=>by rw[←Af (by have:=List.mem_range.1 hk;omega)];exact h2 k hk,fun h2 k hk=>by rw[Af (by have:=List.mem_range.1 hk;omega)];exact h2 k hk⟩
def U2 (al:Int→Int→Bool):Nat→List Int→List Int×List (List Int)
 |0,_=>([],[])
 |n+1,L=>match L with
  |[]=>([],[])
  |h::t=>(h::(U2 al n ((h::t).filter fun i=>!al h i)).1,Vk Ku ((h::t).filter (al h)) 0 ((h::t).filter (al h)).length::(U2 al n ((h::t).filter fun i=>!al h i)).2)
section
variable {al:Int→Int→Bool}
theorem Cs {h:Int}{t:List Int}(hr:al h h=true):((h::t).filter fun i=>!al h i).length≤t.length:=by rw[List.filter_cons,if_neg (by simp[hr])];exact List.length_filter_le ..
theorem L0:∀ n m (L:List Int),(∀ i∈L,al i i=true)→L.length≤n→L.length≤m→U2 al n L=U2 al m L
 |n,m,[],_,_,_=>by cases n<;>cases m<;>rfl
 |0,m,h::t,_,h1,_=>by simp at h1
 |n+1,0,h::t,_,_,h2=>by simp at h2
 |n+1,m+1,h::t,hr,h1,h2=>by have hl:=Cs (t:=t) (hr h (List.mem_cons_self ..));have fX:∀ i∈((h::t).filter fun i=>!al h i),al i i=true:=fun i hi=>hr i (List.mem_filter.1 hi).1;simp only[List.length_cons] at h1 h2;have:=L0 n m _ fX (by omega) (by omega);simp only[U2];rw[this]
theorem Ep:∀ n (L:List Int),(U2 al n L).1.length=(U2 al n L).2.length
 |0,_=>rfl
 |n+1,[]=>rfl
 |n+1,h::t=>by simp only[U2,List.length_cons];rw[Ep n]
theorem Tq {p:Int→Bool}:∀ L:List Int,(L.filter p++L.filter fun i=>!p i).Perm L
 |[]=>.refl _
 |x::L=>by
  have ih:=Tq (p:=p) L;cases hp:p x with
  |true=>rw[List.filter_cons,if_pos hp,List.filter_cons,if_neg (by simp[hp])];exact ih.cons x
  |false =>rw[List.filter_cons,if_neg (by simp[hp]),List.filter_cons,if_pos (by simp[hp])];exact List.perm_middle.trans (ih.cons x)
theorem LC:∀ n (L:List Int),(∀ i∈L,al i i=true)→L.length≤n→((U2 al n L).2.flatten).Perm L
 |0,L,_,h=>by cases L with|nil=>exact .refl _|cons x t=>simp at h
 |n+1,[],_,_=>.refl _
 |n+1,h::t,hr,h1=>by have hl:=Cs (t:=t) (hr h (List.mem_cons_self ..));have fX:∀ i∈((h::t).filter fun i=>!al h i),al i i=true:=fun i hi=>hr i (List.mem_filter.1 hi).1;simp only[List.length_cons] at h1;have ih:=LC n _ fX (by omega);simp only[U2,List.flatten_cons];exact((Xa (Nat.le_refl _)).append ih).trans (Tq _)
theorem Lo {R:Int→Int→Prop}:∀ n (L:List Int),(∀ i∈L,al i i=true)→L.Pairwise R→L.length≤n →
  (∀ h∈(U2 al n L).1,h∈L)∧(U2 al n L).1.Pairwise (fun a b=>al a b=false)∧(∀ c∈(U2 al n L).2,c.Pairwise (·≤·)∧∃ h,h∈c∧∀ i∈c,al h i=true∧(i=h∨R h i))
 |0,L,_,_,h=>⟨(fun h hh=>by cases hh),.nil,(fun h hh=>by cases hh)⟩
 |n+1,[],_,_,_=>⟨(fun h hh=>by cases hh),.nil,(fun h hh=>by cases hh)⟩
 |n+1,h::t,hr,hp,h1=>by
  have hl:=Cs (t:=t) (hr h (List.mem_cons_self ..));have fX:∀ i∈((h::t).filter fun i=>!al h i),al i i=true:=fun i hi=>hr i (List.mem_filter.1 hi).1;simp only[List.length_cons] at h1;obtain⟨g1,g2,g3⟩:=Lo n _ fX (hp.filter _) (by omega);simp only[U2];refine⟨fun x hx=>?_,List.Pairwise.cons (fun x hx=>?_) g2,fun c hc=>?_⟩
  ·rcases List.mem_cons.1 hx with rfl|hx
   ·exact List.mem_cons_self ..
   ·exact(List.mem_filter.1 (g1 x hx)).1
  ·have:=(List.mem_filter.1 (g1 x hx)).2;simpa using this
  ·rcases List.mem_cons.1 hc with rfl|hc
   ·refine⟨Z05 _,h,?_,fun i hi=>?_⟩
    ·exact(Xa (Nat.le_refl _)).mem_iff.2 (List.mem_filter.2 ⟨List.mem_cons_self ..,hr h (List.mem_cons_self ..)⟩)
    ·have hi:=List.mem_filter.1 ((Xa (Nat.le_refl _)).mem_iff.1 hi);refine⟨hi.2,?_⟩;rcases List.mem_cons.1 hi.1 with rfl|h3
     ·exact .inl rfl
     ·exact .inr ((List.pairwise_cons.1 hp).1 i h3)
   ·exact g3 c hc
end
def Fj (l:List Lot):List Int:=Vk (Q61 l) (Q8 (2 ^ l.length-1)) 0 (Q8 (2 ^ l.length-1)).length
def alC (l:List Lot) (tl:Int) (i k:Int):Bool:=WJ l tl (Q8 (2 ^ i.toNat ||| 2 ^ k.toNat))
def Cd (l:List Lot) (tl:Int):List Int×List (List Int):=U2 (alC l tl) (Fj l).length (Fj l)
def L2 (l:List Lot) (tl:Int):List Int:=Vk Ku (Cd l tl).1 0 (Cd l tl).1.length
def HR (l:List Lot) (tl:Int):List (List Int):=Vk (fun p:List Int×List Int=>Hc p.1 p.2) (Cd l tl).2 0 (Cd l tl).2.length
def Zv (l:List Lot) (tl:Int):Int:=if Ze l tl≠0 then Ze l tl else if U0 l tl then 0 else 9
def Mn (l:List Lot) (tl:Int):List Int:=if Zv l tl=0 then L2 l tl else []
def W6 (l:List Lot) (tl:Int):List (List Int):=if Zv l tl=0 then HR l tl else []
theorem Q14 (a b:Int):BI a b =-BI b a:=by unfold BI;split<;>split<;>(try split)<;>omega
theorem N2:∀ a b:List Int,Hc a b =-Hc b a
 |[],[]=>rfl
 |[],_::_=>rfl
 |_::_,[]=>rfl
 |x::a,y::b=>by simp only[Hc];have h:=Q14 x y;have ih:=N2 a b;split<;>split<;>omega
theorem Lz:∀ a b c:List Int,Hc a b≤0→Hc b c≤0→Hc a c≤0
 |[],_,[],_,_=>by simp[Hc]
 |[],_,_::_,_,_=>by simp[Hc]
 |_::_,[],_,h,_=>by simp[Hc] at h
 |_::_,_::_,[],_,h=>by simp[Hc] at h
 |x::a,y::b,z::c,h1,h2=>by simp only[Hc] at h1 h2 ⊢;have ih:=Lz a b c;unfold BI at h1 h2 ⊢;by_cases e1:x<y<;>by_cases e2:y<x<;>by_cases e3:y<z<;>by_cases e4:z<y<;>by_cases e5:x<z<;>by_cases e6:z<x<;>simp only[e1,e2,e3,e4,e5,e6,if_true,if_false] at h1 h2 ⊢<;>first|omega|(simp at h1 h2 ⊢;first|omega|exact ih h1 h2)
theorem Z3f (xs:List (List Int)):(Vk (fun p:List Int×List Int=>Hc p.1 p.2) xs 0 xs.length).Pairwise fun x y=>Hc x y≤0 :=
 (To (f:=fun p:List Int×List Int=>Hc p.1 p.2) (fun x y h h2=>by have:=N2 x y;dsimp only at h h2;omega) (fun x y z h1 h2 h3=>by
  dsimp only at h1 h2 h3;have a1:=N2 x y;have a2:=N2 y z;have a3:=N2 x z;have:=Lz x y z (by omega) (by omega);omega) xs).imp fun {x y} h=>by
  dsimp only at h;have:=N2 x y;omega
theorem CT {l:List Lot}{x y:Int}:Q61 l (x,y)<0↔(l.getD x.toNat Xh).1<(l.getD y.toNat Xh).1∨(l.getD x.toNat Xh).1=(l.getD y.toNat Xh).1∧(l.getD x.toNat Xh).2.1.1<(l.getD y.toNat Xh).2.1.1:=by
 have e:∀ a b:Int,orI [a,b]=if a≠0 then a else b:=fun a b=>by
  unfold orI;by_cases h:a=0
  ·subst h;by_cases h2:b=0
   ·subst h2;rfl
   ·simp[h2]
  ·simp[h]
 unfold Q61;rw[e];dsimp only;generalize (l.getD x.toNat Xh).1=c1;generalize (l.getD y.toNat Xh).1=c2;unfold BI;split<;>split<;>(try split)<;>(try split)<;>omega
theorem Z3n (l:List Lot) (xs:List Int):(Vk (Q61 l) xs 0 xs.length).Pairwise fun x y=>¬ Q61 l (y,x)<0 :=
 To (fun x y h h2=>by rw[CT] at h h2;omega) (fun x y z h1 h2 h3=>by rw[CT] at h1 h2 h3;omega) xs
theorem Cf {n:Nat}(hn:n≤64):Q8 (2 ^ n-1)=(List.range n).map fun (k:Nat)=>(k:Int):=by rw[EI (m:=n) (by have:=Nat.two_pow_pos n;omega) hn];unfold Cv;rw[List.filter_eq_self.2 fun k hk=>by rw[Nat.testBit_two_pow_sub_one];simpa using hk]
theorem TF {l:List Lot}(h:l.length≤12):(Fj l).Perm ((List.range l.length).map fun (k:Nat)=>(k:Int)):=by unfold Fj;rw[←Cf (by omega)];exact Xa (Nat.le_refl _)
theorem Gt {l:List Lot}(h:l.length≤12) {i:Int}:i∈Fj l↔0≤i∧i<l.length:=by
 rw[(TF h).mem_iff,List.mem_map];constructor
 ·rintro⟨k,hk,rfl⟩;have:=List.mem_range.1 hk;omega
 ·intro h2;exact⟨i.toNat,List.mem_range.2 (by omega),by omega⟩
theorem LD {l:List Lot}{tl i k:Int}(hl:l.length≤12) (hi:0≤i∧i<l.length) (hk:0≤k∧k<l.length):alC l tl i k=alP l tl i k:=by unfold alC;rw[Ao (by omega) (by omega),show ((i.toNat:Nat):Int)=i by omega,show ((k.toNat:Nat):Int)=k by omega]
theorem Et {l:List Lot}{tl:Int}(hl:l.length≤12) (he:U0 l tl=true):∀ i∈Fj l,alC l tl i i=true:=fun i hi=>by
 have hi:=(Gt hl).1 hi;rw[LD hl hi hi];rw[Q13 hl] at he;have:=List.all_eq_true.1 he i.toNat (List.mem_range.2 (by omega))
 rwa [show ((i.toNat:Nat):Int)=i by omega] at this
theorem Ez {l:List Lot}{tl:Int}(hl:l.length≤12) (ah:∀ y∈l,Zi y=true) (he:U0 l tl=true) :
  (HR l tl).flatten.Perm ((List.range l.length).map fun (k:Nat)=>(k:Int))∧(∀ c∈HR l tl,c.Pairwise (·≤·)∧c≠[]∧TL (UN l c) tl=true)∧(HR l tl).Pairwise (fun x y=>Hc x y≤0) ∧
  (L2 l tl).Pairwise (·<·)∧(∀ i∈L2 l tl,0≤i∧i<l.length)∧(∀ i∈L2 l tl,∀ k∈L2 l tl,i≠k→alP l tl i k=false)∧(L2 l tl).length=(HR l tl).length:=by
 have hr:=Et hl he;have jq:=Z3n l (Q8 (2 ^ l.length-1));obtain⟨g1,g2,g3⟩:=Lo (al:=alC l tl) (Fj l).length (Fj l) hr jq (Nat.le_refl _);have gp:=LC (al:=alC l tl) (Fj l).length (Fj l) hr (Nat.le_refl _);have gl:=Ep (al:=alC l tl) (Fj l).length (Fj l);change ∀ h∈(Cd l tl).1,h∈Fj l at g1;change (Cd l tl).1.Pairwise _ at g2;change ∀ c∈(Cd l tl).2,_ at g3;change (Cd l tl).2.flatten.Perm _ at gp;change (Cd l tl).1.length=(Cd l tl).2.length at gl;have hC:(HR l tl).Perm (Cd l tl).2:=Xa (Nat.le_refl _);have hH:(L2 l tl).Perm (Cd l tl).1:=Xa (Nat.le_refl _);have aL:∀ i∈(Cd l tl).1,0≤i∧i<l.length:=fun i hi=>(Gt hl).1 (g1 i hi);have mq:∀ c∈(Cd l tl).2,∀ i∈c,0≤i∧i<l.length:=fun c hc i hi=>(Gt hl).1 (gp.mem_iff.1 (List.mem_flatten.2 ⟨c,hc,hi⟩));have gO:(Cd l tl).1.Nodup:=by refine g2.imp_of_mem fun {a b} ha _ h e=>?_;subst e;rw[hr a (g1 a ha)] at h;cases h
 refine⟨(hC.flatten.trans gp).trans (TF hl),fun c hc=>?_,Z3f _,Z2j gO,fun i hi=>aL i (hH.mem_iff.1 hi),fun i hi k hk aA=>?_,?_⟩
 ·have hc:=hC.mem_iff.1 hc;obtain⟨s1,h,s2,s3⟩:=g3 c hc;have pq:=mq c hc h s2;refine⟨s1,List.ne_nil_of_mem s2,DX.2 fun i hi k hk=>?_⟩;have rU:=mq c hc i hi;have rV:=mq c hc k hk;obtain⟨a1,a2⟩:=s3 i hi;obtain⟨b1,b2⟩:=s3 k hk;rw[LD hl pq rU,MH] at a1;rw[LD hl pq rV,MH] at b1;obtain⟨p1,p2,p3,p4⟩:=a1;obtain⟨q1,q2,q3,q4⟩:=b1;refine MH.2 ⟨p1.symm.trans q1,?_,p4,q4⟩;have la:(l.getD h.toNat Xh).2.1.1≤(l.getD i.toNat Xh).2.1.1:=by
   rcases a2 with rfl|a2
   ·exact Int.le_refl _
   ·rw[CT] at a2;omega
  have lb:(l.getD h.toNat Xh).2.1.1≤(l.getD k.toNat Xh).2.1.1:=by
   rcases b2 with rfl|b2
   ·exact Int.le_refl _
   ·rw[CT] at b2;omega
  unfold Fe at p2 q2 ⊢;simp only[Nl] at p2 q2 ⊢;omega
 ·have b6:=hH.mem_iff.1 hi;have jx:=hH.mem_iff.1 hk;have key:alC l tl i k=false∨alC l tl k i=false:=by
   obtain⟨p,hp,rfl⟩:=List.getElem_of_mem b6;obtain⟨q,hq,rfl⟩:=List.getElem_of_mem jx;rcases Nat.lt_trichotomy p q with h|h|h
   ·exact .inl (List.pairwise_iff_getElem.1 g2 p q hp hq h)
   ·subst h;exact(aA rfl).elim
   ·exact .inr (List.pairwise_iff_getElem.1 g2 q p hq hp h)
  rcases key with h|h
  ·rwa [LD hl (aL i b6) (aL k jx)] at h
  ·rw[LD hl (aL k jx) (aL i b6)] at h;cases h2:alP l tl i k with
   |false=>rfl
   |true=>rw[Im h2] at h;cases h
 ·rw[hH.length_eq,hC.length_eq,gl]
theorem MY {α:Type}{a b:List α}(h:a.Perm b):a.isEmpty=b.isEmpty:=by have:=h.length_eq;cases a<;>cases b<;>simp_all
theorem VB {i:Int}(h0:0≤i) (h:i≤63):Qo .u64 1 i=((2 ^ i.toNat:Nat):Int):=by unfold Qo;rw[show Nat.min i.toNat (IntKind.bits .u64)=i.toNat from Nat.min_eq_left (show i.toNat≤64 by omega),Int.one_mul];simp
theorem Z19 {a b:Nat}(ha:a<2 ^ 64) (hb:b<2 ^ 64):Qd .or .u64 (a:Int) (b:Int)=((a ||| b:Nat):Int):=by
 have e:(BitVec.ofInt 64 ((a:Nat):Int) ||| BitVec.ofInt 64 ((b:Nat):Int)).toNat=a ||| b:=by rw[BitVec.toNat_or,BitVec.toNat_ofInt,BitVec.toNat_ofInt];congr 1<;>omega
 have aj:=Nat.or_lt_two_pow ha hb;show IntKind.wrap .u64 ((BitVec.ofInt 64 ((a:Nat):Int) ||| BitVec.ofInt 64 ((b:Nat):Int)).toNat:Int)=_;rw[e];simp[IntKind.wrap,IntKind.bits,IntKind.signed];omega
theorem FJ {i k:Int}(hi:0≤i∧i≤12) (hk:0≤k∧k≤12):Qd .or .u64 (Qo .u64 1 i) (Qo .u64 1 k)=((2 ^ i.toNat ||| 2 ^ k.toNat:Nat):Int):=by rw[VB hi.1 (by omega),VB hk.1 (by omega)];exact Z19 (Nat.pow_lt_pow_right (by omega) (by omega)) (Nat.pow_lt_pow_right (by omega) (by omega))
theorem YT {n:Nat}(h:n≤12):2 ^ n≤4096:=Nat.pow_le_pow_right (n:=2) (by omega) h
theorem C9 {l:List Lot}{tl e:Int}(h:Zv l tl=e) (h0:e≠0):Mn l tl=[]∧W6 l tl=[]:=by unfold Mn W6;rw[if_neg (by omega),if_neg (by omega)];exact⟨rfl,rfl⟩
theorem C7 {k:Nat}(h:k≤62):Qo .i64 1 (k:Int)=((2 ^ k:Nat):Int):=by unfold Qo;rw[Int.toNat_natCast,show Nat.min k (IntKind.bits .i64)=k from Nat.min_eq_left (show k≤64 by omega),Int.one_mul];simp
end Go.Proofs.Tryz
namespace Go.Proofs.Tryz
open Go Go.V Go.Proofs
def Ve:AL ((List (Int×(Int×Int)×Int))×Int):=(.one (.agg (.cons (.k (.list (.pair (.i .i64) (.pair (.pair (.i .i64) (.i .i64)) (.i .i64))))) (.one (.k (.i .i64))))))
def GJ (d:(List (Int×(Int×Int)×Int))×Int):Prop:=d.1.length≤12∧(∀ y∈d.1,Zi y=true)
def Kz (d:(List (Int×(Int×Int)×Int))×Int):SV:=.val .bo (U0 d.1 d.2)
def KK (d:(List (Int×(Int×Int)×Int))×Int):List OB:=[]
def Y7:CSp:=Yo Ve GJ Kz KK
def JT (l:List (Int×(Int×Int)×Int)) (tl:Int):Prop :=
 ∃ (e3:Unit) (d30:Int),((True∧(lI l)=(lI l)∧(0:Int)=d30∧True)∧((l=l∧tl=tl∧(([]:List SV)=[]))∧True)) ∧
 LoopP (fun (d3:Int) (q3:(Int)→Prop) =>
  ((decide (d3<(lI l)))=true →
   (0≤d3)∧(InK .u64 (Qo .u64 (1:Int) d3))∧(l.length≤12∧(∀ y∈l,Zi y=true)∧0<(Qo .u64 (1:Int) d3)∧(Qo .u64 (1:Int) d3)<2 ^ l.length)∧((!(WJ l tl (Q8 (Qo .u64 (1:Int) d3).toNat)))=true →
    (false=(U0 l tl)∧(True))) ∧
   ((!(WJ l tl (Q8 (Qo .u64 (1:Int) d3).toNat)))=false →
    (I64 (d3+(1:Int)))∧(∃ d4:Int,((True∧(lI l)=(lI l)∧(d3+(1:Int))=d4∧True)∧((l=l∧tl=tl∧(([]:List SV)=[]))∧True))∧q3 d4))) ∧
  ((decide (d3<(lI l)))=false →
   (true=(U0 l tl)∧(True)))) d30
def Vs:Cx:=⟨[],[(48,ZL)],16,[],0,[],[],[],[],false,[],[],[],[]⟩
def DK (l:List (Int×(Int×Int)×Int)) (tl:Int):List (Nat×LoopAnn):=[(0,⟨Unit,Int,[1,6,7],fun e x=>[.box 1 0,.val (.i .i64) (((List.length l):Nat):Int),.val (.i .i64) x],fun e x=>[(1,.slot 1,.cells [.val (.list (.pair (.i .i64) (.pair (.pair (.i .i64) (.i .i64)) (.i .i64)))) l,.val (.i .i64) tl] (some 83))]⟩)]
theorem B7 (d:(List (Int×(Int×Int)×Int))×Int):gwp (Vs) (DK d.1 d.2) c55 0 (V8 [.tmp 2] (Kz d) (KK d)) (Qr 16 (AL.can Ve d))=JT d.1 d.2:=by kernel_rfl
abbrev DB:Prop:=OkC Tryz.prog 55 Y7
theorem DS (h:∀ (l:List (Int×(Int×Int)×Int)) (tl:Int),(l.length≤12∧(∀ y∈l,Zi y=true))→JT l tl):OkC Tryz.prog 55 Y7 :=
 Z8 Q9y mixed (C:=Vs) (V:=fun (d:(List (Int×(Int×Int)×Int))×Int)=>JT d.1 d.2) ⟨(.cons W5 .nil),XsOk.nil,ItsOk.nil,YlOk.nil,IysOk.nil,XfOk.nil⟩ (B7) fun d hp=>h d.1 d.2 hp
theorem DC:DB:=DS fun l tl h=>by
 obtain⟨h1,h2⟩:=h;unfold JT;(try delta lI gD sT I64);refine⟨(),0,(by and_intros<;>first|rfl|trivial|simp),?_⟩;refine LoopP.count l.length (fun k=>∀ j,j<k→WJ l tl (Q8 (2 ^ j))=true) (fun j hj=>by omega) ?_;rintro k hk hJ q hq;refine⟨fun c=>?_,fun c=>?_⟩
 ·have c:k<l.length:=by simp at c;omega
  have dy:Qo .u64 1 (k:Int)=((2 ^ k:Nat):Int):=VB (by omega) (by omega);have hp:=YT (n:=k) (by omega);have tQ:=Nat.two_pow_pos k;have aj:2 ^ k<2 ^ l.length:=Nat.pow_lt_pow_right (by omega) c;have eF:(2:Int) ^ l.length=((2 ^ l.length:Nat):Int):=by simp
  simp only[dy,Int.toNat_natCast,eF];refine⟨by omega,by simp only[Kr];omega,⟨h1,h2,by omega,by omega⟩,fun c2=>?_,fun c2=>?_⟩
  ·have c2:WJ l tl (Q8 (2 ^ k))=false:=by simpa using c2
   have:U0 l tl=false:=by
    cases he:U0 l tl with
    |false=>rfl
    |true=>rw[List.all_eq_true.1 he k (List.mem_range.2 c)] at c2;cases c2
   rw[this];exact(by and_intros<;>first|rfl|trivial|simp)
  ·have c2:WJ l tl (Q8 (2 ^ k))=true:=by simpa using c2
   refine⟨by simp only[Qj];omega,(k:Int)+1,(by and_intros<;>first|rfl|trivial|simp),hq c fun j hj=>?_⟩;by_cases e:j=k
   ·subst e;exact c2
   ·exact hJ j (by omega)
 ·have:U0 l tl=true:=List.all_eq_true.2 fun j hj=>hJ j (by have:=List.mem_range.1 hj;simp at c;omega);rw[this];exact(by and_intros<;>first|rfl|trivial|simp)
def Kc:AL ((List (Int×(Int×Int)×Int))×Int):=(.one (.agg (.cons (.k (.list (.pair (.i .i64) (.pair (.pair (.i .i64) (.i .i64)) (.i .i64))))) (.one (.k (.i .i64))))))
def Mh (d:(List (Int×(Int×Int)×Int))×Int):Prop:=d.1.length≤12∧(∀ y∈d.1,Zi y=true)∧U0 d.1 d.2=true
def YC (d:(List (Int×(Int×Int)×Int))×Int):SV:=.tup [.lst 0,.lst 1]
def Yr (d:(List (Int×(Int×Int)×Int))×Int):List OB:=[.lst 3 (.i .i64) (L2 d.1 d.2) ((L2 d.1 d.2).isEmpty),.lst 46 (.list (.i .i64)) (HR d.1 d.2) ((HR d.1 d.2).isEmpty)]
def GR:CSp:=Yo Kc Mh YC Yr
def J6 (l:List (Int×(Int×Int)×Int)) (tl:Int):Prop :=
 (0≤(lI l))∧(InK .u64 (Qo .u64 (1:Int) (lI l)))∧(InK .u64 ((Qo .u64 (1:Int) (lI l))-(1:Int)))∧(0≤((Qo .u64 (1:Int) (lI l))-(1:Int))∧((Qo .u64 (1:Int) (lI l))-(1:Int))≤1048576)∧((Q8 ((Qo .u64 (1:Int) (lI l))-(1:Int)).toNat).length≤12∧(∀ x∈(Q8 ((Qo .u64 (1:Int) (lI l))-(1:Int)).toNat),∀ y∈(Q8 ((Qo .u64 (1:Int) (lI l))-(1:Int)).toNat),(fun (x1:Int×Int)=>l.length≤12∧(∀ y∈l,Zi y=true)∧0≤x1.1∧x1.1<l.length∧0≤x1.2∧x1.2<l.length) (x,y)))∧∃ (e4:Unit) (d40:(List Int)×(List (List Int))×(List Int)),((True∧True∧True∧True∧True)∧((l=l∧tl=tl∧(([]:List SV)=[]))∧(d40.1=[]∧(List.isEmpty d40.1)=true)∧(d40.2.1=[]∧(List.isEmpty d40.2.1)=true)∧((Vk (fun (x1:Int×Int)=>(Q61 l (x1.1,x1.2))) (Q8 ((Qo .u64 (1:Int) (lI l))-(1:Int)).toNat) 0 (Q8 ((Qo .u64 (1:Int) (lI l))-(1:Int)).toNat).length)=d40.2.2∧(Q8 ((Qo .u64 (1:Int) (lI l))-(1:Int)).toNat).isEmpty=(List.isEmpty d40.2.2))∧True)) ∧
 LoopP (fun (d4:(List Int)×(List (List Int))×(List Int)) (q4:((List Int)×(List (List Int))×(List Int))→Prop) =>
  ((decide ((lI d4.2.2) > (0:Int)))=true →
   (0≤(0:Int))∧((0:Int)<(List.length d4.2.2))∧∃ (e9:(List Int)×(List (List Int))×Int×(List Int)×Int) (d90:(List Int)×(List Int)×Int),((True∧True∧True∧(gD d4.2.2 (0:Int) 0)=e9.2.2.1∧True∧True∧True∧(lI d4.2.2)=e9.2.2.2.2∧(0:Int)=d90.2.2∧True)∧((l=l∧tl=tl∧(([]:List SV)=[]))∧(d4.1=e9.1∧(List.isEmpty d4.1)=(List.isEmpty e9.1))∧(d4.2.1=e9.2.1∧(List.isEmpty d4.2.1)=(List.isEmpty e9.2.1))∧(d90.1=[]∧(List.isEmpty d90.1)=true)∧(d90.2.1=[]∧(List.isEmpty d90.2.1)=true)∧(d4.2.2=e9.2.2.2.1∧(List.isEmpty d4.2.2)=(List.isEmpty e9.2.2.2.1))∧True)) ∧
   LoopP (fun (d9:(List Int)×(List Int)×Int) (q9:((List Int)×(List Int)×Int)→Prop) =>
    ((decide (d9.2.2<e9.2.2.2.2))=true →
     (0≤d9.2.2)∧(d9.2.2<(List.length e9.2.2.2.1))∧(0≤e9.2.2.1)∧(InK .u64 (Qo .u64 (1:Int) e9.2.2.1))∧(0≤(gD e9.2.2.2.1 d9.2.2 0))∧(InK .u64 (Qo .u64 (1:Int) (gD e9.2.2.2.1 d9.2.2 0)))∧(l.length≤12∧(∀ y∈l,Zi y=true)∧0<(Qd .or .u64 (Qo .u64 (1:Int) e9.2.2.1) (Qo .u64 (1:Int) (gD e9.2.2.2.1 d9.2.2 0)))∧(Qd .or .u64 (Qo .u64 (1:Int) e9.2.2.1) (Qo .u64 (1:Int) (gD e9.2.2.2.1 d9.2.2 0)))<2 ^ l.length)∧((WJ l tl (Q8 (Qd .or .u64 (Qo .u64 (1:Int) e9.2.2.1) (Qo .u64 (1:Int) (gD e9.2.2.2.1 d9.2.2 0))).toNat))=true →
      (((List.length d9.1)+(List.length [(gD e9.2.2.2.1 d9.2.2 0)]))*8≤70368744177664)∧(I64 (d9.2.2+(1:Int)))∧(∃ d10:(List Int)×(List Int)×Int,((True∧True∧True∧e9.2.2.1=e9.2.2.1∧True∧True∧True∧e9.2.2.2.2=e9.2.2.2.2∧(d9.2.2+(1:Int))=d10.2.2∧True)∧((l=l∧tl=tl∧(([]:List SV)=[]))∧(e9.1=e9.1∧(List.isEmpty e9.1)=(List.isEmpty e9.1))∧(e9.2.1=e9.2.1∧(List.isEmpty e9.2.1)=(List.isEmpty e9.2.1))∧((d9.1++[(gD e9.2.2.2.1 d9.2.2 0)])=d10.1∧false=(List.isEmpty d10.1))∧(d9.2.1=d10.2.1∧(List.isEmpty d9.2.1)=(List.isEmpty d10.2.1))∧(e9.2.2.2.1=e9.2.2.2.1∧(List.isEmpty e9.2.2.2.1)=(List.isEmpty e9.2.2.2.1))∧True))∧q9 d10)) ∧
     ((WJ l tl (Q8 (Qd .or .u64 (Qo .u64 (1:Int) e9.2.2.1) (Qo .u64 (1:Int) (gD e9.2.2.2.1 d9.2.2 0))).toNat))=false →
      (((List.length d9.2.1)+(List.length [(gD e9.2.2.2.1 d9.2.2 0)]))*8≤70368744177664)∧(I64 (d9.2.2+(1:Int)))∧(∃ d11:(List Int)×(List Int)×Int,((True∧True∧True∧e9.2.2.1=e9.2.2.1∧True∧True∧True∧e9.2.2.2.2=e9.2.2.2.2∧(d9.2.2+(1:Int))=d11.2.2∧True)∧((l=l∧tl=tl∧(([]:List SV)=[]))∧(e9.1=e9.1∧(List.isEmpty e9.1)=(List.isEmpty e9.1))∧(e9.2.1=e9.2.1∧(List.isEmpty e9.2.1)=(List.isEmpty e9.2.1))∧(d9.1=d11.1∧(List.isEmpty d9.1)=(List.isEmpty d11.1))∧((d9.2.1++[(gD e9.2.2.2.1 d9.2.2 0)])=d11.2.1∧false=(List.isEmpty d11.2.1))∧(e9.2.2.2.1=e9.2.2.2.1∧(List.isEmpty e9.2.2.2.1)=(List.isEmpty e9.2.2.2.1))∧True))∧q9 d11))) ∧
    ((decide (d9.2.2<e9.2.2.2.2))=false →
     (d9.1.length≤12)∧(((List.length e9.1)+(List.length [e9.2.2.1]))*8≤70368744177664)∧(((List.length e9.2.1)+(List.length [(Vk Ku d9.1 0 d9.1.length)]))*24≤70368744177664)∧(∃ d12:(List Int)×(List (List Int))×(List Int),((True∧True∧True∧True∧True)∧((l=l∧tl=tl∧(([]:List SV)=[]))∧((e9.1++[e9.2.2.1])=d12.1∧false=(List.isEmpty d12.1))∧((e9.2.1++[(Vk Ku d9.1 0 d9.1.length)])=d12.2.1∧false=(List.isEmpty d12.2.1))∧(d9.2.1=d12.2.2∧(List.isEmpty d9.2.1)=(List.isEmpty d12.2.2))∧True))∧q4 d12))) d90) ∧
  ((decide ((lI d4.2.2) > (0:Int)))=false →
   (d4.1.length≤12)∧(d4.2.1.length≤12∧(∀ x∈d4.2.1,∀ y∈d4.2.1,(fun (x2:List Int×List Int)=>x2.1.length≤1000∧x2.2.length≤1000) (x,y)))∧((True∧True∧(([]:List SV)=[]))∧(((Vk Ku d4.1 0 d4.1.length)=(L2 l tl)∧(List.isEmpty d4.1)=(L2 l tl).isEmpty)∧((Vk (fun (x2:List Int×List Int)=>(Hc x2.1 x2.2)) d4.2.1 0 d4.2.1.length)=(HR l tl)∧(List.isEmpty d4.2.1)=(HR l tl).isEmpty)∧True)))) d40
def K4:Cx:=⟨[(3,(.i .i64)),(46,(.list (.i .i64)))],[(33,JA),(83,ZN),(48,ZL),(51,Zp)],64,[3,53,55,56,60,63],0,[(82,Zf),(84,XG),(85,Ja)],[],[(46,3)],[],false,[],[],[],[]⟩
def Kb (l:List (Int×(Int×Int)×Int)) (tl:Int):List (Nat×LoopAnn):=[(0,⟨Unit,(List Int)×(List (List Int))×(List Int),[1,2,3,4],fun e x=>[.box 1 0,.lst 52,.lst 56,.lst 15],fun e x=>[(1,.slot 1,.cells [.val (.list (.pair (.i .i64) (.pair (.pair (.i .i64) (.i .i64)) (.i .i64)))) l,.val (.i .i64) tl] (some 83)),(52,.slot 2,.lst 3 (.i .i64) x.1 (List.isEmpty x.1)),(56,.slot 3,.lst 46 (.list (.i .i64)) x.2.1 (List.isEmpty x.2.1)),(15,.slot 4,.lst 3 (.i .i64) x.2.2 (List.isEmpty x.2.2))]⟩),
 (2,⟨(List Int)×(List (List Int))×Int×(List Int)×Int,(List Int)×(List Int)×Int,[1,2,3,5,6,7,25,26,27],fun e x=>[.box 1 0,.lst 52,.lst 56,.val (.i .i64) e.2.2.1,.lst 41,.lst 45,.lst 15,.val (.i .i64) e.2.2.2.2,.val (.i .i64) x.2.2],fun e x=>[(1,.slot 1,.cells [.val (.list (.pair (.i .i64) (.pair (.pair (.i .i64) (.i .i64)) (.i .i64)))) l,.val (.i .i64) tl] (some 83)),(52,.slot 2,.lst 3 (.i .i64) e.1 (List.isEmpty e.1)),(56,.slot 3,.lst 46 (.list (.i .i64)) e.2.1 (List.isEmpty e.2.1)),(41,.slot 6,.lst 3 (.i .i64) x.1 (List.isEmpty x.1)),(45,.slot 7,.lst 3 (.i .i64) x.2.1 (List.isEmpty x.2.1)),(15,.slot 25,.lst 3 (.i .i64) e.2.2.2.1 (List.isEmpty e.2.2.2.1))]⟩)]
theorem Mz (d:(List (Int×(Int×Int)×Int))×Int):gwp (K4) (Kb d.1 d.2) c56 0 (V8 [.tmp 2,.tmp 3] (YC d) (Yr d)) (Qr 64 (AL.can Kc d))=J6 d.1 d.2:=by kernel_rfl
def W8:XSp:=callV Bx GR
abbrev G9:Prop:=XOk Tryz.prog 56 W8
theorem G4 (h:∀ (l:List (Int×(Int×Int)×Int)) (tl:Int),(l.length≤12∧(∀ y∈l,Zi y=true)∧U0 l tl=true)→J6 l tl):XOk Tryz.prog 56 W8 :=
 CI Q9t mixed VV (C:=K4) ⟨(.cons Wo (.cons Y8 (.cons W5 (.cons Wj .nil)))),(XsOk.cons Yf (XsOk.cons ND (XsOk.cons Vv XsOk.nil))),ItsOk.nil,YlOk.nil,IysOk.nil,XfOk.nil⟩ (L:=fun (d:(List (Int×(Int×Int)×Int))×Int)=>Kb d.1 d.2) (V:=fun (d:(List (Int×(Int×Int)×Int))×Int)=>J6 d.1 d.2) (Mz) fun d hp=>h d.1 d.2 hp
theorem Mj:G9:=G4 fun l tl h=>by
 obtain⟨⟨h1,h2⟩,h3⟩:(l.length≤12∧∀ y∈l,Zi y=true)∧U0 l tl=true:=⟨⟨h.1,h.2.1⟩,h.2.2⟩;unfold J6;(try delta lI gD sT I64);have dz:=YT h1;have tQ:=Nat.two_pow_pos l.length;have dy:Qo .u64 1 (l.length:Int)=((2 ^ l.length:Nat):Int):=VB (by omega) (by omega);have ff:(((2 ^ l.length:Nat):Int)-1).toNat=2 ^ l.length-1:=by omega
 have eF:(2:Int) ^ l.length=((2 ^ l.length:Nat):Int):=by simp
 simp only[dy,ff,eF];have aH:∀ x∈Q8 (2 ^ l.length-1),0≤x∧x<l.length:=fun x hx=>Rj (m:=l.length) (by omega) (by omega) x hx;have rW:(Q8 (2 ^ l.length-1)).isEmpty=(Fj l).isEmpty:=(MY (Xa (Nat.le_refl _))).symm;have tR:=Et h1 h3;have jY:∀ i:Int,0≤i→i≤12→InK .u64 (Qo .u64 1 i):=fun i a b=>by
  rw[VB a (by omega)];have:=YT (n:=i.toNat) (by omega);simp only[Kr];generalize 2 ^ i.toNat=z at *
  omega
 refine⟨by omega,by simp only[Kr];omega,by simp only[Kr];omega,⟨by omega,by omega⟩,⟨Nat.le_trans (Xc (m:=l.length) (by omega) (by omega)) h1,fun x hx y hy=>⟨h1,h2,(aH x hx).1,(aH x hx).2,(aH y hy).1,(aH y hy).2⟩⟩,(),([],[],Fj l),(by and_intros<;>first|rfl|trivial|exact rW|simp),?_⟩;refine⟨fun d=>(Cd l tl).1=d.1++(U2 (alC l tl) d.2.2.length d.2.2).1∧(Cd l tl).2=d.2.1++(U2 (alC l tl) d.2.2.length d.2.2).2∧(∀ i∈d.2.2,0≤i∧i<l.length)∧d.1.length+d.2.2.length≤12∧d.2.1.length=d.1.length∧∀ c∈d.2.1,c.length≤12,fun d=>d.2.2.length,⟨rfl,rfl,fun i hi=>(Gt h1).1 hi,by have:=(TF h1).length_eq;simp at this ⊢;omega,rfl,(fun c hc=>by cases hc)⟩,?_⟩;rintro⟨H,C,left⟩ ⟨i1,i2,i3,i4,i5,i6⟩;dsimp only at i1 i2 i3 i4 i5 i6 ⊢;refine⟨fun c=>?_,fun c=>?_⟩
 ·cases left with
  |nil=>simp at c
  |cons h t =>
  have aL:=i3 h (List.mem_cons_self ..);have wz:alC l tl h h=true:=tR h ((Gt h1).2 aL);refine⟨by omega,by simp,(H,C,h,h::t,((h::t).length:Int)),([],[],0),(by and_intros<;>first|rfl|trivial|simp),?_⟩;dsimp only;refine⟨fun d=>∃ k:Nat,d.2.2=k∧k≤(h::t).length∧d.1=((h::t).take k).filter (alC l tl h)∧d.2.1=((h::t).take k).filter (fun i=>!alC l tl h i),fun d=>(h::t).length-d.2.2.toNat,⟨0,rfl,by omega,rfl,rfl⟩,?_⟩;rintro⟨c1,r1,k'⟩ ⟨k,e1,e2,e3,e4⟩;dsimp only at e1 e3 e4 ⊢;subst e1;have eO:c1.length≤12:=by rw[e3];have:=List.length_filter_le (alC l tl h) ((h::t).take k);rw[List.length_take] at this;omega
  have fv:r1.length≤12:=by rw[e4];have:=List.length_filter_le (fun i=>!alC l tl h i) ((h::t).take k);rw[List.length_take] at this;omega
  refine⟨fun g=>?_,fun g=>?_⟩
  ·have g:k<(h::t).length:=by simp at g ⊢;omega
   have hx:(h::t).getD k 0=(h::t)[k]:=Q6 g;have cr:=i3 _ (List.getElem_mem g);have lj:=QX g;simp only[Int.toNat_natCast,hx];generalize (h::t)[k]=x at cr lj;have hb:=FJ (i:=h) (k:=x) (by omega) (by omega);have nX:0<2 ^ h.toNat ||| 2 ^ x.toNat:=Nat.lt_of_lt_of_le (Nat.two_pow_pos _) Nat.left_le_or
   have ly:2 ^ h.toNat ||| 2 ^ x.toNat<2 ^ l.length:=Nat.or_lt_two_pow (Nat.pow_lt_pow_right (by omega) (by omega)) (Nat.pow_lt_pow_right (by omega) (by omega))
   have xm:=YT (n:=h.toNat) (by omega);have xn:=YT (n:=x.toNat) (by omega);rw[hb];simp only[Int.toNat_natCast];have qR:WJ l tl (Q8 (2 ^ h.toNat ||| 2 ^ x.toNat))=alC l tl h x:=rfl;rw[qR];refine⟨by omega,by omega,by omega,jY h (by omega) (by omega),by omega,jY x (by omega) (by omega),⟨h1,h2,by omega,by omega⟩,fun g2=>?_,fun g2=>?_⟩
   ·refine⟨by simp;omega,by simp only[Qj];omega,(c1++[x],r1,(k:Int)+1),(by and_intros<;>first|rfl|trivial|simp),⟨k+1,by simp,by omega,?_,?_⟩,by dsimp only;omega⟩
    ·dsimp only;rw[lj,List.filter_append,e3,List.filter_cons,if_pos g2];rfl
    ·dsimp only;rw[lj,List.filter_append,e4,List.filter_cons,if_neg (by simp[g2])];simp
   ·refine⟨by simp;omega,by simp only[Qj];omega,(c1,r1++[x],(k:Int)+1),(by and_intros<;>first|rfl|trivial|simp),⟨k+1,by simp,by omega,?_,?_⟩,by dsimp only;omega⟩
    ·dsimp only;rw[lj,List.filter_append,e3,List.filter_cons,if_neg (by simp[g2])];simp
    ·dsimp only;rw[lj,List.filter_append,e4,List.filter_cons,if_pos (by simp[g2])];rfl
  ·have hk:k=(h::t).length:=by simp at g ⊢;simp at e2;omega
   rw[hk,List.take_length] at e3 e4;have dK:r1.length≤t.length:=by rw[e4];exact Cs wz
   have wA:=L0 (al:=alC l tl) t.length r1.length r1 (fun i hi=>by rw[e4] at hi;exact tR i ((Gt h1).2 (i3 i (List.mem_filter.1 hi).1))) dK (Nat.le_refl _);have hP:U2 (alC l tl) (h::t).length (h::t)=(h::(U2 (alC l tl) r1.length r1).1,Vk Ku c1 0 c1.length::(U2 (alC l tl) r1.length r1).2):=by rw[←wA,e3,e4];rfl
   simp only[List.length_cons] at i4;refine⟨eO,by simp;omega,by simp;omega,(H++[h],C++[Vk Ku c1 0 c1.length],r1),(by and_intros<;>first|rfl|trivial|simp),⟨?_,?_,fun i hi=>?_,?_,?_,fun c hc=>?_⟩,?_⟩
   ·dsimp only;rw[i1,hP];simp
   ·dsimp only;rw[i2,hP];simp
   ·dsimp only at hi;rw[e4] at hi;exact i3 i (List.mem_filter.1 hi).1
   ·dsimp only;rw[List.length_append,List.length_singleton];omega
   ·dsimp only;rw[List.length_append,List.length_append,i5];rfl
   ·rcases List.mem_append.1 hc with hc|hc
    ·exact i6 c hc
    ·rw[List.mem_singleton.1 hc,(Xa (Nat.le_refl _)).length_eq];exact eO
   ·dsimp only;rw[List.length_cons];omega
 ·cases left with
  |cons h t=>simp at c
  |nil =>
  have j1:(Cd l tl).1=H:=by rw[i1];simp[U2]
  have j2:(Cd l tl).2=C:=by rw[i2];simp[U2]
  have k1:H.isEmpty=(L2 l tl).isEmpty:=by unfold L2;rw[j1];exact(MY (Xa (Nat.le_refl _))).symm
  have k2:C.isEmpty=(HR l tl).isEmpty:=by unfold HR;rw[j2];exact(MY (Xa (Nat.le_refl _))).symm
  have k3:Vk Ku H 0 H.length=L2 l tl:=by unfold L2;rw[j1]
  have k4:Vk (fun p:List Int×List Int=>Hc p.1 p.2) C 0 C.length=HR l tl:=by unfold HR;rw[j2]
  simp only[List.length_nil] at i4;refine⟨by omega,⟨by omega,fun x hx y hy=>⟨Nat.le_trans (i6 x hx) (by omega),Nat.le_trans (i6 y hy) (by omega)⟩⟩,?_⟩;and_intros<;>first|rfl|trivial|exact k1|exact k2|exact k3|exact k4
def BF:AL ((List (Int×(Int×Int)×Int))×Int):=(.cons (.k (.list (.pair (.i .i64) (.pair (.pair (.i .i64) (.i .i64)) (.i .i64))))) (.one (.k (.i .i64))))
def SJ (d:(List (Int×(Int×Int)×Int))×Int):Prop:=d.1.length≤1000
def Dq (d:(List (Int×(Int×Int)×Int))×Int):SV:=.tup [.lst 0,.lst 1,.val (.i .i64) (Zv d.1 d.2)]
def Dm (d:(List (Int×(Int×Int)×Int))×Int):List OB:=[.lst 3 (.i .i64) (Mn d.1 d.2) ((Mn d.1 d.2).isEmpty),.lst 46 (.list (.i .i64)) (W6 d.1 d.2) ((W6 d.1 d.2).isEmpty)]
def Ef:CSp:=Yo BF SJ Dq Dm
def KX (l:List (Int×(Int×Int)×Int)) (tl:Int):Prop :=
 ∀ w1:List Value,(l.length≤1000)∧(((QF l)==(0:Int))=true→True)∧(((QF l)==(0:Int))=true→[tl].length≤1000000)∧((((QF l)==(0:Int))&&(!(!([tl].any fun n=>decide (n<(0:Int))||decide ((1000:Int)<n)))))=true →
  w1=w1∧(((3:Int) != (0:Int))=true →
   ((True∧True∧(3:Int)=(Zv l tl)∧(([]:List SV)=[]))∧(((Mn l tl)=[]∧(Mn l tl).isEmpty=true)∧((W6 l tl)=[]∧(W6 l tl).isEmpty=true)∧True))) ∧
  (((3:Int) != (0:Int))=false →
   (l.length≤12∧(∀ y∈l,Zi y=true))∧((!(U0 l tl))=true →
    ((True∧True∧(9:Int)=(Zv l tl)∧(([]:List SV)=[]))∧(((Mn l tl)=[]∧(Mn l tl).isEmpty=true)∧((W6 l tl)=[]∧(W6 l tl).isEmpty=true)∧True))) ∧
   ((!(U0 l tl))=false →
    (l.length≤12∧(∀ y∈l,Zi y=true)∧U0 l tl=true)∧((True∧True∧(0:Int)=(Zv l tl)∧(([]:List SV)=[]))∧(((L2 l tl)=(Mn l tl)∧(L2 l tl).isEmpty=(Mn l tl).isEmpty)∧((HR l tl)=(W6 l tl)∧(HR l tl).isEmpty=(W6 l tl).isEmpty)∧True))))) ∧
 ((((QF l)==(0:Int))&&(!(!([tl].any fun n=>decide (n<(0:Int))||decide ((1000:Int)<n)))))=false →
  w1=w1∧(((QF l) != (0:Int))=true →
   ((True∧True∧(QF l)=(Zv l tl)∧(([]:List SV)=[]))∧(((Mn l tl)=[]∧(Mn l tl).isEmpty=true)∧((W6 l tl)=[]∧(W6 l tl).isEmpty=true)∧True))) ∧
  (((QF l) != (0:Int))=false →
   (l.length≤12∧(∀ y∈l,Zi y=true))∧((!(U0 l tl))=true →
    ((True∧True∧(9:Int)=(Zv l tl)∧(([]:List SV)=[]))∧(((Mn l tl)=[]∧(Mn l tl).isEmpty=true)∧((W6 l tl)=[]∧(W6 l tl).isEmpty=true)∧True))) ∧
   ((!(U0 l tl))=false →
    (l.length≤12∧(∀ y∈l,Zi y=true)∧U0 l tl=true)∧((True∧True∧(0:Int)=(Zv l tl)∧(([]:List SV)=[]))∧(((L2 l tl)=(Mn l tl)∧(L2 l tl).isEmpty=(Mn l tl).isEmpty)∧((HR l tl)=(W6 l tl)∧(HR l tl).isEmpty=(W6 l tl).isEmpty)∧True)))))
def Bk:Cx:=⟨[(3,(.i .i64))],[(45,Ye),(46,Xf),(55,Y7)],29,[1],0,[(23,Ge),(56,W8)],[],[],[],false,[],[],[],[]⟩
def BH (l:List (Int×(Int×Int)×Int)) (tl:Int):List (Nat×LoopAnn):=[]
theorem Ch (d:(List (Int×(Int×Int)×Int))×Int):gwp (Bk) (BH d.1 d.2) c31 0 (V8 [.tmp 4,.tmp 5,.tmp 6] (Dq d) (Dm d)) (Qr 29 (AL.can BF d))=KX d.1 d.2:=by kernel_rfl
def MW:XSp:=callV Bx Ef
abbrev Ck:Prop:=XOk Tryz.prog 31 MW
theorem CE (h:∀ (l:List (Int×(Int×Int)×Int)) (tl:Int),(l.length≤1000)→KX l tl):XOk Tryz.prog 31 MW :=
 CI Z09 mixed VV (C:=Bk) ⟨(.cons UF (.cons Y5 (.cons DC .nil))),(XsOk.cons Dh (XsOk.cons Mj XsOk.nil)),ItsOk.nil,YlOk.nil,IysOk.nil,XfOk.nil⟩ (L:=fun (d:(List (Int×(Int×Int)×Int))×Int)=>BH d.1 d.2) (V:=fun (d:(List (Int×(Int×Int)×Int))×Int)=>KX d.1 d.2) (Ch) fun d hp=>h d.1 d.2 hp
theorem Ss:Ck:=CE fun l tl h=>by
 unfold KX;(try delta lI gD sT I64);have e:∀ n a b:Int,(decide (n<a)||decide (b<n))=!inI n a b:=fun n a b=>(nIb n a b).symm;simp only[List.any_cons,List.any_nil,Bool.or_false,e,Bool.not_not,List.length_cons,List.length_nil,Z1t,Bool.true_eq_false,true_and,and_true,beq_iff_eq,bne_iff_ne,ne_eq,bne_eq_false_iff_eq,Bool.not_eq_true',Bool.not_eq_false',false_implies,Bool.or_false,implies_true,forall_const];refine⟨h,by omega,fun hx=>?_,fun hx=>⟨fun a=>?_,fun a=>⟨H6 a,fun b=>?_,fun b=>⟨⟨(H6 a).1,(H6 a).2,b⟩,?_⟩⟩⟩⟩
 ·simp only[Bool.and_eq_true,beq_iff_eq,Bool.not_eq_true'] at hx;have o:Ze l tl=3:=by unfold Ze;rw[if_neg (by omega),hx.2];rfl
  have e1:Zv l tl=3:=by unfold Zv;rw[o];rfl
  obtain⟨e2,e3⟩:=C9 e1 (by omega);rw[e1,e2,e3];exact(by and_intros<;>first|rfl|trivial|simp)
 ·have o:Ze l tl=QF l:=by unfold Ze;rw[if_pos a]
  have e1:Zv l tl=QF l:=by unfold Zv;rw[o,if_pos a]
  obtain⟨e2,e3⟩:=C9 e1 a;rw[e1,e2,e3];exact(by and_intros<;>first|rfl|trivial|simp)
 ·have o:Ze l tl=0:=by
   unfold Ze;rw[if_neg (by omega),if_neg];intro h2;rw[a,h2] at hx;cases hx
  have e1:Zv l tl=9:=by unfold Zv;rw[if_neg (by omega),b];rfl
  obtain⟨e2,e3⟩:=C9 e1 (by omega);rw[e1,e2,e3];exact(by and_intros<;>first|rfl|trivial|simp)
 ·have o:Ze l tl=0:=by
   unfold Ze;rw[if_neg (by omega),if_neg];intro h2;rw[a,h2] at hx;cases hx
  have e1:Zv l tl=0:=by unfold Zv;rw[if_neg (by omega),if_pos b]
  have e2:Mn l tl=L2 l tl:=by unfold Mn;rw[if_pos e1]
  have e3:W6 l tl=HR l tl:=by unfold W6;rw[if_pos e1]
  rw[e1,e2,e3];exact(by and_intros<;>first|rfl|trivial|simp)
def MU:AL ((List (Int×(Int×Int)×Int))×Int):=(.cons (.k (.list (.pair (.i .i64) (.pair (.pair (.i .i64) (.i .i64)) (.i .i64))))) (.one (.k (.i .i64))))
def PO (d:(List (Int×(Int×Int)×Int))×Int):Prop:=d.1.length≤1000
def M4 (d:(List (Int×(Int×Int)×Int))×Int):SV:=.tup [.lst 0,.val (.i .i64) (Zv d.1 d.2)]
def NW (d:(List (Int×(Int×Int)×Int))×Int):List OB:=[.lst 46 (.list (.i .i64)) (W6 d.1 d.2) ((W6 d.1 d.2).isEmpty)]
def Sk:CSp:=Yo MU PO M4 NW
def Yd (l:List (Int×(Int×Int)×Int)) (tl:Int):Prop :=
 (l.length≤1000)∧((True∧(Zv l tl)=(Zv l tl)∧(([]:List SV)=[]))∧(((W6 l tl)=(W6 l tl)∧(W6 l tl).isEmpty=(W6 l tl).isEmpty)∧True))
def Mw:Cx:=⟨[],[],15,[],0,[(31,MW)],[],[],[],false,[],[],[],[]⟩
def Mx (l:List (Int×(Int×Int)×Int)) (tl:Int):List (Nat×LoopAnn):=[]
theorem RI (d:(List (Int×(Int×Int)×Int))×Int):gwp (Mw) (Mx d.1 d.2) c15 0 (V8 [.tmp 4,.tmp 5] (M4 d) (NW d)) (Qr 15 (AL.can MU d))=Yd d.1 d.2:=by kernel_rfl
def UP:XSp:=callV Bx Sk
abbrev Rn:Prop:=XOk Tryz.prog 15 UP
theorem Tg (h:∀ (l:List (Int×(Int×Int)×Int)) (tl:Int),(l.length≤1000)→Yd l tl):XOk Tryz.prog 15 UP :=
 CI Q9l mixed VV (C:=Mw) ⟨.nil,(XsOk.cons Ss XsOk.nil),ItsOk.nil,YlOk.nil,IysOk.nil,XfOk.nil⟩ (L:=fun (d:(List (Int×(Int×Int)×Int))×Int)=>Mx d.1 d.2) (V:=fun (d:(List (Int×(Int×Int)×Int))×Int)=>Yd d.1 d.2) (RI) fun d hp=>h d.1 d.2 hp
theorem T0:Rn:=Tg fun l tl h=>by unfold Yd;(try delta lI gD sT I64);refine⟨h,?_⟩;exact(by and_intros<;>first|rfl|trivial|simp)
def alD (l:List Lot) (tl:Int) (i k:Int):Bool:=WJ l tl (Q8 (2 ^ i.toNat ||| 2 ^ k.toNat))
def JG (l:List Lot) (tl a b:Int):Int:=if decide (a<0)||alD l tl a b then 0 else 1
section
variable (sm:Int→Int→Int) (N:Int)
def P1:Nat→List Int→Int→Int
 |0,_,_=>0
 |f+1,L,la=>L.foldl (fun b i=>My b (sm la i+P1 f (L.erase i) i)) N
def Q3f:Nat→List Int→Int→List Int
 |0,_,_=>[]
 |f+1,L,la=>match L.find? (fun i=>sm la i+P1 sm N f (L.erase i) i==P1 sm N (f+1) L la) with
  |some i=>i::Q3f f (L.erase i) i
  |none=>[]
def Sr:Int→List Int→Int
 |_,[]=>0
 |la,i::r=>sm la i+Sr i r
end
theorem TN (F:Int→Int):∀ (L:List Int) (N:Int),L.foldl (fun b i=>My b (F i)) N≤N∧(∀ i∈L,L.foldl (fun b i=>My b (F i)) N≤F i)∧(L.foldl (fun b i=>My b (F i)) N=N∨∃ i∈L,L.foldl (fun b i=>My b (F i)) N=F i)
 |[],N=>⟨Int.le_refl _,(fun i h=>by cases h),.inl rfl⟩
 |x::L,N=>by
  obtain⟨h1,h2,h3⟩:=TN F L (My N (F x));have e:=LO N (F x);simp only[List.foldl_cons];refine⟨by omega,fun i hi=>?_,?_⟩
  ·rcases List.mem_cons.1 hi with rfl|hi
   ·omega
   ·exact h2 i hi
  ·rcases h3 with h3|⟨i,hi,h3⟩
   ·by_cases h4:N≤F x
    ·exact .inl (by omega)
    ·exact .inr ⟨x,List.mem_cons_self ..,by omega⟩
   ·exact .inr ⟨i,List.mem_cons_of_mem _ hi,h3⟩
theorem Gm {L:List Int}{i:Int}(h:i∈L) {f:Nat}(hf:L.length=f+1):(L.erase i).length=f:=by rw[List.length_erase_of_mem h];omega
section
variable {sm:Int→Int→Int}{N:Int}
theorem L_ (h0:∀ a b,0≤sm a b∧sm a b≤1):∀ f (L:List Int) (la:Int),L.length=f→(f:Int)≤N→0≤P1 sm N f L la∧P1 sm N f L la≤f
 |0,_,_,_,_=>⟨Int.le_refl _,Int.le_refl _⟩
 |f+1,L,la,hL,hN=>by
  have ih:∀ i∈L,0≤P1 sm N f (L.erase i) i∧P1 sm N f (L.erase i) i≤f:=fun i hi=>L_ h0 f _ i (Gm hi hL) (by omega);obtain⟨h1,h2,h3⟩:=TN (fun i=>sm la i+P1 sm N f (L.erase i) i) L N;show 0≤L.foldl _ N∧L.foldl _ N≤_;constructor
  ·rcases h3 with h3|⟨i,hi,h3⟩
   ·rw[h3];omega
   ·rw[h3];have:=ih i hi;have:=h0 la i;omega
  ·cases L with
   |nil=>simp at hL
   |cons x t =>have:=h2 x (List.mem_cons_self ..);have:=ih x (List.mem_cons_self ..);have:=h0 la x;omega
theorem FZ (h0:∀ a b,0≤sm a b∧sm a b≤1) {f:Nat}{L:List Int}{la:Int}(hL:L.length=f+1) (hN:((f+1:Nat):Int)≤N) :
  (∀ i∈L,P1 sm N (f+1) L la≤sm la i+P1 sm N f (L.erase i) i)∧∃ i∈L,sm la i+P1 sm N f (L.erase i) i=P1 sm N (f+1) L la:=by
 obtain⟨h1,h2,h3⟩:=TN (fun i=>sm la i+P1 sm N f (L.erase i) i) L N;refine⟨h2,?_⟩;rcases h3 with h3|⟨i,hi,h3⟩
 ·cases L with
  |nil=>simp at hL
  |cons x t =>have hx:=List.mem_cons_self (a:=x) (l:=t);have e:=h2 x hx;have:=L_ (N:=N) h0 f ((x::t).erase x) x (Gm hx hL) (by omega);have:=h0 la x;refine⟨x,hx,?_⟩;show _=List.foldl _ _ _;omega
 ·exact⟨i,hi,h3.symm⟩
theorem Q11 {f:Nat}{L:List Int}{la:Int}:Q3f sm N (f+1) L la=match L.find? (fun i=>sm la i+P1 sm N f (L.erase i) i==P1 sm N (f+1) L la) with
  |some i=>i::Q3f sm N f (L.erase i) i
  |none=>[]:=rfl
theorem EC (h0:∀ a b,0≤sm a b∧sm a b≤1) {f:Nat}{L:List Int}{la:Int}(hL:L.length=f+1) (hN:((f+1:Nat):Int)≤N) :
  ∃ i,i∈L∧L.find? (fun i=>sm la i+P1 sm N f (L.erase i) i==P1 sm N (f+1) L la)=some i∧sm la i+P1 sm N f (L.erase i) i=P1 sm N (f+1) L la∧Q3f sm N (f+1) L la=i::Q3f sm N f (L.erase i) i:=by
 obtain⟨_,i,hi,he⟩:=FZ (la:=la) h0 hL hN;cases hf:L.find? (fun i=>sm la i+P1 sm N f (L.erase i) i==P1 sm N (f+1) L la) with
 |none =>have:=List.find?_eq_none.1 hf i hi;simp[he] at this
 |some j =>have h1:=List.mem_of_find?_eq_some hf;have h2:=List.find?_some hf;refine⟨j,h1,rfl,by simpa using h2,?_⟩;rw[Q11,hf]
theorem TP (h0:∀ a b,0≤sm a b∧sm a b≤1):∀ f (L:List Int) (la:Int),L.length=f→(f:Int)≤N→(Q3f sm N f L la).Perm L∧Sr sm la (Q3f sm N f L la)=P1 sm N f L la
 |0,L,_,hL,_=>by cases L with|nil=>exact⟨.refl _,rfl⟩|cons x t=>simp at hL
 |f+1,L,la,hL,hN=>by obtain⟨i,hi,_,he,ho⟩:=EC (la:=la) h0 hL hN;obtain⟨h1,h2⟩:=TP h0 f (L.erase i) i (Gm hi hL) (by omega);rw[ho];exact⟨(h1.cons i).trans (List.perm_cons_erase hi).symm,by simp only[Sr];rw[h2,he]⟩
theorem Q1f (h0:∀ a b,0≤sm a b∧sm a b≤1):∀ (r L:List Int) (la:Int),r.Perm L→(L.length:Int)≤N→P1 sm N L.length L la≤Sr sm la r
 |[],L,la,hp,hN=>by obtain rfl:=hp.symm.eq_nil;exact Int.le_refl _
 |i::r,L,la,hp,hN=>by
  have hi:i∈L:=hp.mem_iff.1 (List.mem_cons_self ..);have hl:L.length=(r.length)+1:=by rw[←hp.length_eq];rfl
  have br:r.Perm (L.erase i):=List.cons_perm_iff_perm_erase.1 hp |>.2
  have ih:=Q1f h0 r (L.erase i) i br (by rw[List.length_erase_of_mem hi];omega);rw[Gm hi hl] at ih;have:=(FZ (N:=N) (la:=la) h0 hl (by omega)).1 i hi;rw[hl];simp only[Sr];omega
end
def Bw (n i:Nat):Nat:=n &&& (2 ^ 64-1-2 ^ i)
theorem Cr {n i j:Nat}(hn:n<2 ^ 64) (hi:i<64):(Bw n i).testBit j=(n.testBit j&&!decide (j=i)):=by
 unfold Bw;have hp:2 ^ i<2 ^ 64:=Nat.pow_lt_pow_right (by omega) hi;have e:2 ^ 64-1-2 ^ i=2 ^ 64-(2 ^ i+1):=by omega
 rw[Nat.testBit_and,e,Nat.testBit_two_pow_sub_succ hp,Nat.testBit_two_pow];by_cases hj:j<64
 ·rw[decide_eq_true hj,Bool.true_and];congr 2;rw[decide_eq_decide];omega
 ·have:n.testBit j=false:=Nat.testBit_lt_two_pow (Nat.lt_of_lt_of_le hn (Nat.pow_le_pow_right (by omega) (by omega)));rw[this];simp
theorem Fa (n i:Nat):Bw n i≤n:=Nat.and_le_left
theorem IK {n i:Nat}(hn:n<2 ^ 64) (hi:i<64):Qd .andNot .u64 (n:Int) ((2 ^ i:Nat):Int)=((Bw n i:Nat):Int):=by
 have hp:2 ^ i<2 ^ 64:=Nat.pow_lt_pow_right (by omega) hi;have t:∀ x:Nat,x<2 ^ 64→(BitVec.ofInt 64 (x:Int)).toNat=x:=fun x hx=>by rw[S1,BitVec.toNat_ofNat,Nat.mod_eq_of_lt hx]
 have e:(BitVec.ofInt 64 (n:Int) &&& ~~~(BitVec.ofInt 64 ((2 ^ i:Nat):Int))).toNat=Bw n i:=by rw[BitVec.toNat_and,BitVec.toNat_not,t _ hn,t _ hp];rfl
 show IntKind.wrap .u64 ((BitVec.ofInt 64 (n:Int) &&& ~~~(BitVec.ofInt 64 ((2 ^ i:Nat):Int))).toNat:Int)=_;rw[e];show ((Bw n i:Nat):Int) % 18446744073709551616=_;have:=Fa n i;omega
theorem Q50 {n:Nat}{i:Int}(hn:n<2 ^ 64) (hi:i∈Q8 n):Q8 (Bw n i.toNat)=(Q8 n).erase i:=by
 obtain⟨k,rfl,hk⟩:=(Nr hn i).1 hi;have jZ:k<64:=by
  rcases Nat.lt_or_ge k 64 with h|h
  ·exact h
  ·rw[Nat.testBit_lt_two_pow (Nat.lt_of_lt_of_le hn (Nat.pow_le_pow_right (by omega) h))] at hk;cases hk
 have hs:=NM n n (Nat.le_refl _) hn;have gO:=HG n n (Nat.le_refl _) hn;have hc:Bw n k<2 ^ 64:=Nat.lt_of_le_of_lt (Fa n k) hn;rw[Int.toNat_natCast];refine DL (NM _ _ (Nat.le_refl _) hc) (hs.sublist List.erase_sublist) fun x=>?_;have hm:x∈(Q8 n).erase (k:Int)↔x≠(k:Int)∧x∈Q8 n:=List.Nodup.mem_erase_iff gO;rw[hm];rw[Nr hc,Nr hn];constructor
 ·rintro⟨j,rfl,hj⟩;rw[Cr hn jZ] at hj;simp only[Bool.and_eq_true,Bool.not_eq_true',decide_eq_false_iff_not] at hj;exact⟨by omega,j,rfl,hj.1⟩
 ·rintro⟨aA,j,rfl,hj⟩;refine⟨j,rfl,?_⟩;rw[Cr hn jZ,hj,decide_eq_false (by omega)];rfl
def Xo (l:List Lot) (tl:Int) (n:Nat) (la:Int):Int:=P1 (JG l tl) l.length (Q8 n).length (Q8 n) la
def Bh (l:List Lot) (tl:Int) (n:Nat) (la:Int):List Int:=Q3f (JG l tl) l.length (Q8 n).length (Q8 n) la
def HB (l:List Lot) (tl:Int):Int:=if Ze l tl=0 then Xo l tl (2 ^ l.length-1) (-1) else 0
def EF (l:List Lot) (tl:Int):List Int:=if Ze l tl=0 then Bh l tl (2 ^ l.length-1) (-1) else []
theorem Un (l:List Lot) (tl a b:Int):0≤JG l tl a b∧JG l tl a b≤1:=by unfold JG;split<;>omega
def Pf (l:List Lot) (tl:Int) (m:List ((Int×Int)×Int)):Prop:=∀ k:Int×Int,gq.ahas (.pair (.i .u64) (.i .i64)) m k=true→gq.aget (.pair (.i .u64) (.i .i64)) m k 0=Xo l tl k.1.toNat k.2
theorem Q9f {a b:Int×Int}:gq.keq (.pair (.i .u64) (.i .i64)) a b=true↔a=b:=by show ((a.1==b.1)&&(a.2==b.2))=true↔_;simp only[Bool.and_eq_true,beq_iff_eq,Prod.ext_iff]
theorem LN {a b:Int×Int}(h:a≠b):gq.keq (.pair (.i .u64) (.i .i64)) a b=false:=by
 cases e:gq.keq (.pair (.i .u64) (.i .i64)) a b with
 |false=>rfl
 |true=>exact(h (Q9f.1 e)).elim
theorem apC (a:Int×Int) (b:Int) (m:List ((Int×Int)×Int)) (k:Int×Int) (v:Int):Q09 (.pair (.i .u64) (.i .i64)) ((a,b)::m) k v=if gq.keq (.pair (.i .u64) (.i .i64)) k a=true then (k,v)::m else (a,b)::Q09 (.pair (.i .u64) (.i .i64)) m k v:=rfl
theorem agC (a:Int×Int) (b:Int) (m:List ((Int×Int)×Int)) (k:Int×Int) (d:Int):gq.aget (.pair (.i .u64) (.i .i64)) ((a,b)::m) k d=if gq.keq (.pair (.i .u64) (.i .i64)) k a=true then b else gq.aget (.pair (.i .u64) (.i .i64)) m k d:=rfl
theorem ahC (a:Int×Int) (b:Int) (m:List ((Int×Int)×Int)) (k:Int×Int):gq.ahas (.pair (.i .u64) (.i .i64)) ((a,b)::m) k=(gq.keq (.pair (.i .u64) (.i .i64)) k a||gq.ahas (.pair (.i .u64) (.i .i64)) m k):=rfl
theorem Q8a (k:Int×Int) (v:Int) (e:Int×Int):∀ m:List ((Int×Int)×Int),gq.aget (.pair (.i .u64) (.i .i64)) (Q09 (.pair (.i .u64) (.i .i64)) m k v) e 0=(if e=k then v else gq.aget (.pair (.i .u64) (.i .i64)) m e 0)∧gq.ahas (.pair (.i .u64) (.i .i64)) (Q09 (.pair (.i .u64) (.i .i64)) m k v) e=(decide (e=k)||gq.ahas (.pair (.i .u64) (.i .i64)) m e)
 |[]=>by
  show gq.aget (.pair (.i .u64) (.i .i64)) ((k,v)::[]) e 0=_∧gq.ahas (.pair (.i .u64) (.i .i64)) ((k,v)::[]) e=_;rw[agC,ahC];by_cases h:e=k
  ·rw[Q9f.2 h,if_pos rfl,if_pos h,decide_eq_true h];exact⟨rfl,rfl⟩
  ·rw[LN h,if_neg (by decide),if_neg h,decide_eq_false h];exact⟨rfl,rfl⟩
 |(a,b)::m=>by
  obtain⟨ju,jv⟩:=Q8a k v e m;rw[apC];by_cases hk:k=a
  ·subst hk;rw[Q9f.2 rfl,if_pos rfl,agC,agC,ahC,ahC];by_cases h:e=k
   ·rw[Q9f.2 h,if_pos rfl,if_pos h,decide_eq_true h];exact⟨rfl,rfl⟩
   ·rw[LN h,if_neg (by decide),if_neg h,decide_eq_false h,if_neg (by decide)];exact⟨rfl,rfl⟩
  ·rw[LN hk,if_neg (by decide),agC,agC,ahC,ahC,ju,jv];by_cases h:e=a
   ·have tS:e≠k:=fun h2=>hk (h2.symm.trans h);rw[Q9f.2 h,if_pos rfl,if_neg tS,if_pos rfl,decide_eq_false tS];exact⟨rfl,rfl⟩
   ·rw[LN h,if_neg (show ¬ (false=true) by decide),if_neg (show ¬ (false=true) by decide),Bool.false_or,Bool.false_or];exact⟨rfl,rfl⟩
theorem Q3k (l:List Lot) (tl:Int):Pf l tl []:=fun k h=>by cases h
theorem Q3m {l:List Lot}{tl:Int}{m:List ((Int×Int)×Int)}{lf la v:Int}(h:Pf l tl m) (hv:v=Xo l tl lf.toNat la):Pf l tl (Q09 (.pair (.i .u64) (.i .i64)) m (lf,la) v):=fun k hk=>by
 obtain⟨h1,h2⟩:=Q8a (lf,la) v k m;rw[h1];by_cases e:k=(lf,la)
 ·subst e;rw[if_pos rfl];exact hv
 ·rw[if_neg e];refine h k ?_;rw[h2,decide_eq_false e] at hk;simpa using hk
theorem Q2q {n:Nat}{i:Int}(hn:n<2 ^ 64) (hi:i∈Q8 n):Bw n i.toNat<n:=by
 obtain⟨k,rfl,hk⟩:=(Nr hn i).1 hi;have jZ:k<64:=by
  rcases Nat.lt_or_ge k 64 with h|h
  ·exact h
  ·rw[Nat.testBit_lt_two_pow (Nat.lt_of_lt_of_le hn (Nat.pow_le_pow_right (by omega) h))] at hk;cases hk
 have h1:=Fa n (k:Int).toNat;have h2:(Bw n k).testBit k=false:=by rw[Cr hn jZ];simp
 rw[Int.toNat_natCast] at *
 rcases Nat.lt_or_eq_of_le h1 with h3|h3
 ·exact h3
 ·rw[h3,hk] at h2;cases h2
theorem TY {l:List Lot}{tl:Int}{n:Nat}{i:Int}(hn:n<2 ^ 64) (hi:i∈Q8 n) {f:Nat}(hf:(Q8 n).length=f+1):P1 (JG l tl) l.length f ((Q8 n).erase i) i=Xo l tl (Bw n i.toNat) i∧Q3f (JG l tl) l.length f ((Q8 n).erase i) i=Bh l tl (Bw n i.toNat) i:=by unfold Xo Bh;rw[Q50 hn hi,Gm hi hf];exact⟨rfl,rfl⟩
theorem P0 {F G:Int→Int}:∀ {L:List Int}{N:Int},(∀ i∈L,F i=G i)→L.foldl (fun b i=>My b (F i)) N=L.foldl (fun b i=>My b (G i)) N
 |[],_,_=>rfl
 |x::L,N,h=>by simp only[List.foldl_cons];rw[h x (List.mem_cons_self ..)];exact P0 fun i hi=>h i (List.mem_cons_of_mem _ hi)
theorem Q1r {l:List Lot}{tl:Int}{n:Nat}{la:Int}(hn:n<2 ^ 64) (h0:0<n):Xo l tl n la=(Q8 n).foldl (fun b i=>My b (JG l tl la i+Xo l tl (Bw n i.toNat) i)) (l.length:Int):=by
 obtain⟨f,hf⟩:∃ f,(Q8 n).length=f+1:=⟨(Q8 n).length-1,by
  have:=List.length_pos_iff.2 (CM h0);omega⟩
 unfold Xo;rw[hf];show List.foldl _ _ _=_;refine P0 fun i hi=>?_;rw[(TY hn hi hf).1];rfl
theorem Ru {l:List Lot}{tl:Int}{n:Nat}(la:Int) (hl:l.length≤12) (hn:n<2 ^ l.length):0≤Xo l tl n la∧Xo l tl n la≤l.length:=by have h1:=Xc hn (by omega);have:=L_ (N:=(l.length:Int)) (Un l tl) (Q8 n).length (Q8 n) la rfl (by omega);unfold Xo;omega
theorem Q2i (l:List Lot) (tl la:Int):Xo l tl 0 la=0∧Bh l tl 0 la=[]:=⟨rfl,rfl⟩
theorem Oy {l:List Lot}{tl:Int}{n:Nat}(la:Int) (hl:l.length≤12) (hn:n<2 ^ l.length) (h0:0<n) :
  (∃ i∈Q8 n,JG l tl la i+Xo l tl (Bw n i.toNat) i=Xo l tl n la)∧∀ k,k<(Q8 n).length→(∀ j,j<k→JG l tl la ((Q8 n).getD j 0)+Xo l tl (Bw n ((Q8 n).getD j 0).toNat) ((Q8 n).getD j 0)≠Xo l tl n la) →
   JG l tl la ((Q8 n).getD k 0)+Xo l tl (Bw n ((Q8 n).getD k 0).toNat) ((Q8 n).getD k 0)=Xo l tl n la→Bh l tl n la=(Q8 n).getD k 0::Bh l tl (Bw n ((Q8 n).getD k 0).toNat) ((Q8 n).getD k 0):=by
 have eW:n<2 ^ 64:=Nat.lt_of_lt_of_le hn (Nat.pow_le_pow_right (by omega) (by omega));obtain⟨f,hf⟩:∃ f,(Q8 n).length=f+1:=⟨(Q8 n).length-1,by
  have:=List.length_pos_iff.2 (CM h0);omega⟩
 have h1:=Xc hn (by omega);obtain⟨i,hi,ij,he,ho⟩:=EC (la:=la) (N:=(l.length:Int)) (Un l tl) hf (by omega);obtain⟨e1,e2⟩:=TY (l:=l) (tl:=tl) eW hi hf;have er:Xo l tl n la=P1 (JG l tl) l.length (f+1) (Q8 n) la:=by unfold Xo;rw[hf]
 have eo:Bh l tl n la=Q3f (JG l tl) l.length (f+1) (Q8 n) la:=by unfold Bh;rw[hf]
 refine⟨⟨i,hi,by rw[←e1,he,er]⟩,fun k hk hb au=>?_⟩;have wB:i=(Q8 n).getD k 0:=by
  obtain⟨hp,dX,bs,hL,rX⟩:=List.find?_eq_some_iff_append.1 ij;have hlen:dX.length<(Q8 n).length:=by rw[hL];simp
  have dW:(Q8 n).getD dX.length 0=i:=by rw[Q6 hlen];simp[hL]
  rcases Nat.lt_trichotomy dX.length k with h2|h2|h2
  ·exfalso;have:=hb _ h2;rw[dW,←e1,he,er] at this;exact this rfl
  ·rw[←h2,dW]
  ·exfalso;have hm:(Q8 n).getD k 0∈dX:=by
    rw[Q6 hk];have:(Q8 n)[k]=dX[k]:=by simp[hL,h2]
    rw[this];exact List.getElem_mem h2
   have h3:=rX _ hm;obtain⟨g1,_⟩:=TY (l:=l) (tl:=tl) eW (show (Q8 n).getD k 0∈Q8 n by rw[Q6 hk];exact List.getElem_mem hk) hf;rw[g1,←er,au] at h3;simp only[beq_self_eq_true,Bool.not_true,Bool.false_eq_true] at h3
 rw[eo,ho,←wB,←e2]
theorem Q6m {l:List Lot}{t i k:Int}(hl:l.length≤12) (hi:0≤i∧i<l.length) (hk:0≤k∧k<l.length):JG l t i k=if alP l t i k=true then 0 else 1:=by unfold JG;rw[decide_eq_false (by omega),Bool.false_or];rw[show alD l t i k=alC l t i k from rfl,LD hl hi hk]
end Go.Proofs.Tryz
namespace Go.Proofs.Tryz
open Go Go.V Go.Proofs
def VN:AL (((List (Int×(Int×Int)×Int))×Int×Unit)×Int×Int):=(.cons (.ptr (.cons (.k (.list (.pair (.i .i64) (.pair (.pair (.i .i64) (.i .i64)) (.i .i64))))) (.cons (.k (.i .i64)) (.one .any)))) (.cons (.k (.i .i64)) (.one (.k (.i .i64)))))
def GL (d:((List (Int×(Int×Int)×Int))×Int×Unit)×Int×Int):Prop:=d.1.1.length≤12∧(∀ y∈d.1.1,Zi y=true)∧d.2.1<d.1.1.length∧0≤d.2.2∧d.2.2<d.1.1.length
def Ky (d:((List (Int×(Int×Int)×Int))×Int×Unit)×Int×Int):SV:=.val (.i .i64) (JG d.1.1 d.1.2.1 d.2.1 d.2.2)
def KA (d:((List (Int×(Int×Int)×Int))×Int×Unit)×Int×Int):List OB:=[]
def Xp:CSp:=Yo VN GL Ky KA
def JZ (l:List (Int×(Int×Int)×Int)) (tl:Int) (a:Int) (b:Int):Prop :=
 ((decide (a<(0:Int)))=false→0≤a)∧((decide (a<(0:Int)))=false→InK .u64 (Qo .u64 (1:Int) a))∧((decide (a<(0:Int)))=false→0≤b)∧((decide (a<(0:Int)))=false→InK .u64 (Qo .u64 (1:Int) b))∧((decide (a<(0:Int)))=false→l.length≤12∧(∀ y∈l,Zi y=true)∧0<(Qd .or .u64 (Qo .u64 (1:Int) a) (Qo .u64 (1:Int) b))∧(Qd .or .u64 (Qo .u64 (1:Int) a) (Qo .u64 (1:Int) b))<2 ^ l.length)∧(((decide (a<(0:Int)))||(WJ l tl (Q8 (Qd .or .u64 (Qo .u64 (1:Int) a) (Qo .u64 (1:Int) b)).toNat)))=true →
  ((0:Int)=(JG l tl a b)∧(True))) ∧
 (((decide (a<(0:Int)))||(WJ l tl (Q8 (Qd .or .u64 (Qo .u64 (1:Int) a) (Qo .u64 (1:Int) b)).toNat)))=false →
  ((1:Int)=(JG l tl a b)∧(True)))
def VG:Cx:=⟨[],[(48,ZL)],21,[],0,[],[],[],[],false,[],[],[],[]⟩
def DY (l:List (Int×(Int×Int)×Int)) (tl:Int) (a:Int) (b:Int):List (Nat×LoopAnn):=[]
theorem DM (d:((List (Int×(Int×Int)×Int))×Int×Unit)×Int×Int):gwp (VG) (DY d.1.1 d.1.2.1 d.2.1 d.2.2) c34 0 (V8 [.tmp 6] (Ky d) (KA d)) (Qr 21 (AL.can VN d))=JZ d.1.1 d.1.2.1 d.2.1 d.2.2:=by kernel_rfl
abbrev DG:Prop:=OkC Tryz.prog 34 Xp
theorem DU (h:∀ (l:List (Int×(Int×Int)×Int)) (tl:Int) (a:Int) (b:Int),(l.length≤12∧(∀ y∈l,Zi y=true)∧a<l.length∧0≤b∧b<l.length)→JZ l tl a b):OkC Tryz.prog 34 Xp :=
 Z8 Z14 mixed (C:=VG) (V:=fun (d:((List (Int×(Int×Int)×Int))×Int×Unit)×Int×Int)=>JZ d.1.1 d.1.2.1 d.2.1 d.2.2) ⟨(.cons W5 .nil),XsOk.nil,ItsOk.nil,YlOk.nil,IysOk.nil,XfOk.nil⟩ (DM) fun d hp=>h d.1.1 d.1.2.1 d.2.1 d.2.2 hp
theorem VM:DG:=DU fun l tl a b h=>by
 obtain⟨h1,h2,h3,h4,h5⟩:=h;unfold JZ;(try delta lI gD sT I64);simp only[and_true];have eF:(2:Int) ^ l.length=((2 ^ l.length:Nat):Int):=by simp
 have jY:∀ i:Int,0≤i→i≤12→InK .u64 (Qo .u64 1 i):=fun i a b=>by
  rw[VB a (by omega)];have:=YT (n:=i.toNat) (by omega);simp only[Kr];generalize 2 ^ i.toNat=z at *
  omega
 by_cases ha:a<0
 ·have e:JG l tl a b=0:=by unfold JG;rw[decide_eq_true ha];rfl
  simp only[decide_eq_true ha,Bool.true_or,e];refine⟨fun c=>?_,fun c=>?_,fun c=>?_,fun c=>?_,fun c=>?_,fun _=>(by trivial),fun c=>?_⟩<;>simp at c
 ·have hb:=FJ (i:=a) (k:=b) (by omega) (by omega);have nX:0<2 ^ a.toNat ||| 2 ^ b.toNat:=Nat.lt_of_lt_of_le (Nat.two_pow_pos _) Nat.left_le_or
  have ly:2 ^ a.toNat ||| 2 ^ b.toNat<2 ^ l.length:=Nat.or_lt_two_pow (Nat.pow_lt_pow_right (by omega) (by omega)) (Nat.pow_lt_pow_right (by omega) (by omega))
  have e:JG l tl a b=if WJ l tl (Q8 (2 ^ a.toNat ||| 2 ^ b.toNat))=true then 0 else 1:=by unfold JG;rw[decide_eq_false ha,Bool.false_or];rfl
  simp only[hb,Int.toNat_natCast,decide_eq_false ha,Bool.false_or,e,eF];refine⟨fun _=>by omega,fun _=>jY a (by omega) (by omega),fun _=>by omega,fun _=>jY b (by omega) (by omega),fun _=>⟨h1,h2,by omega,by omega⟩,fun c=>?_,fun c=>?_⟩
  ·rw[if_pos c]
  ·rw[if_neg (by rw[c];decide)]
def Xi:AL ((List (Int×(Int×Int)×Int))×Int):=(.cons (.k (.list (.pair (.i .i64) (.pair (.pair (.i .i64) (.i .i64)) (.i .i64))))) (.one (.k (.i .i64))))
def Xg:AL (Int×Int):=(.one (.agg (.cons (.k (.i .u64)) (.one (.k (.i .i64))))))
def YB (m:List ((Int×Int)×Int)) (c:(List (Int×(Int×Int)×Int))×Int) (a:Int×Int):Prop:=c.1.length≤12∧(∀ y∈c.1,Zi y=true)∧0≤a.1∧a.1<2 ^ c.1.length∧-1≤a.2∧a.2<c.1.length∧Pf c.1 c.2 m
def Xj (m:List ((Int×Int)×Int)) (c:(List (Int×(Int×Int)×Int))×Int) (a:Int×Int):SV:=.val (.i .i64) (Xo c.1 c.2 a.1.toNat a.2)
def JY (m:List ((Int×Int)×Int)) (c:(List (Int×(Int×Int)×Int))×Int) (a:Int×Int) (m2:List ((Int×Int)×Int)):Prop:=Pf c.1 c.2 m2
def Ke (c:(List (Int×(Int×Int)×Int))×Int) (a:Int×Int):Nat:=a.1.toNat
def W7:XSp:=Hr Bx 2 (.pair (.i .u64) (.i .i64)) (.i .i64) (Q4v Xi Xg YB Xj JY)
def J3 (eu:Nat) (m:List ((Int×Int)×Int)) (l:List (Int×(Int×Int)×Int)) (tl:Int) (lf:Int) (la:Int):Prop:=∀ vals:List Value,
 ((lf==(0:Int))=true →
  (vals=vals∧(True∧(([]:List SV)=[]))∧(0:Int)=(Xo l tl lf.toNat la)∧(Pf l tl m))) ∧
 ((lf==(0:Int))=false →
  ((gq.ahas (.pair (.i .u64) (.i .i64)) m (lf,la))=true →
   (vals=vals∧(True∧(([]:List SV)=[]))∧(gq.aget (.pair (.i .u64) (.i .i64)) m (lf,la) 0)=(Xo l tl lf.toNat la)∧(Pf l tl m))) ∧
  ((gq.ahas (.pair (.i .u64) (.i .i64)) m (lf,la))=false →
   (0≤lf∧lf≤1048576)∧∃ (e3:Unit) (d30:(List ((Int×Int)×Int))×Int×Int),(((l=l∧tl=tl∧True∧(([]:List SV)=[]))∧True∧(lI l)=d30.2.1∧True∧(lI (Q8 lf.toNat))=(lI (Q8 lf.toNat))∧(0:Int)=d30.2.2∧True)∧((m=d30.1)∧(lf=lf∧la=la∧(([]:List SV)=[]))∧((Q8 lf.toNat)=(Q8 lf.toNat)∧(Q8 lf.toNat).isEmpty=(List.isEmpty (Q8 lf.toNat)))∧(vals=vals∧(True∧(([]:List SV)=[])))∧True)) ∧
   LoopP (fun (d3:(List ((Int×Int)×Int))×Int×Int) (q3:((List ((Int×Int)×Int))×Int×Int)→Prop) =>
    ((decide (d3.2.2<(lI (Q8 lf.toNat))))=true →
     (0≤d3.2.2)∧(d3.2.2<(List.length (Q8 lf.toNat)))∧(l.length≤12∧(∀ y∈l,Zi y=true)∧la<l.length∧0≤(gD (Q8 lf.toNat) d3.2.2 0)∧(gD (Q8 lf.toNat) d3.2.2 0)<l.length)∧(0≤(gD (Q8 lf.toNat) d3.2.2 0))∧(InK .u64 (Qo .u64 (1:Int) (gD (Q8 lf.toNat) d3.2.2 0)))∧((l.length≤12∧(∀ y∈l,Zi y=true)∧0≤(Qd .andNot .u64 lf (Qo .u64 (1:Int) (gD (Q8 lf.toNat) d3.2.2 0)))∧(Qd .andNot .u64 lf (Qo .u64 (1:Int) (gD (Q8 lf.toNat) d3.2.2 0)))<2 ^ l.length∧-1≤(gD (Q8 lf.toNat) d3.2.2 0)∧(gD (Q8 lf.toNat) d3.2.2 0)<l.length∧Pf l tl d3.1)∧((Qd .andNot .u64 lf (Qo .u64 (1:Int) (gD (Q8 lf.toNat) d3.2.2 0))).toNat)<eu)∧(∀ m4:List ((Int×Int)×Int),(Pf l tl m4)→(I64 ((JG l tl la (gD (Q8 lf.toNat) d3.2.2 0))+(Xo l tl (Qd .andNot .u64 lf (Qo .u64 (1:Int) (gD (Q8 lf.toNat) d3.2.2 0))).toNat (gD (Q8 lf.toNat) d3.2.2 0))))∧(I64 (d3.2.2+(1:Int)))∧(∃ d5:(List ((Int×Int)×Int))×Int×Int,(((l=l∧tl=tl∧True∧(([]:List SV)=[]))∧True∧(My d3.2.1 ((JG l tl la (gD (Q8 lf.toNat) d3.2.2 0))+(Xo l tl (Qd .andNot .u64 lf (Qo .u64 (1:Int) (gD (Q8 lf.toNat) d3.2.2 0))).toNat (gD (Q8 lf.toNat) d3.2.2 0))))=d5.2.1∧True∧(lI (Q8 lf.toNat))=(lI (Q8 lf.toNat))∧(d3.2.2+(1:Int))=d5.2.2∧True)∧((m4=d5.1)∧(lf=lf∧la=la∧(([]:List SV)=[]))∧((Q8 lf.toNat)=(Q8 lf.toNat)∧(List.isEmpty (Q8 lf.toNat))=(List.isEmpty (Q8 lf.toNat)))∧(vals=vals∧(True∧(([]:List SV)=[])))∧True))∧q3 d5))) ∧
    ((decide (d3.2.2<(lI (Q8 lf.toNat))))=false →
     (vals=vals∧(True∧(([]:List SV)=[]))∧d3.2.1=(Xo l tl lf.toNat la)∧(Pf l tl (Q09 (.pair (.i .u64) (.i .i64)) d3.1 (lf,la) d3.2.1))))) d30))
def cx_shade_layer_fewest:Cx:=⟨[],[(33,JA),(34,Xp)],63,[],0,[],[],[],[],false,[],[],[],[]⟩
def K9 (m:List ((Int×Int)×Int)) (l:List (Int×(Int×Int)×Int)) (tl:Int) (lf:Int) (la:Int) (vals:List Value):List (Nat×LoopAnn):=[(0,⟨Unit,(List ((Int×Int)×Int))×Int×Int,[0,3,7,32,33,34],fun e x=>[.cp [.val (.list (.pair (.i .i64) (.pair (.pair (.i .i64) (.i .i64)) (.i .i64)))) l,.val (.i .i64) tl,.map 0] 0,.box 3 0,.val (.i .i64) x.2.1,.lst 32,.val (.i .i64) (((List.length (Q8 lf.toNat)):Nat):Int),.val (.i .i64) x.2.2],fun e x=>[(0,.key 0,.map (.pair (.i .u64) (.i .i64)) (.i .i64) x.1),(3,.slot 3,.cells [.val (.i .u64) lf,.val (.i .i64) la] (some 108)),(32,.slot 32,.lst 3 (.i .i64) (Q8 lf.toNat) (List.isEmpty (Q8 lf.toNat))),(4000000,.key 4000000,.stk [.map 0] vals)]⟩)]
theorem MT (eu:Nat) (m:List ((Int×Int)×Int)) (c:(List (Int×(Int×Int)×Int))×Int) (a:Int×Int):(∀ vals,gwp {cx_shade_layer_fewest with xs:=(32,Hr Bx 2 (.pair (.i .u64) (.i .i64)) (.i .i64) (Q4v Xi Xg (fun m c a=>YB m c a∧Ke c a<eu) Xj JY))::cx_shade_layer_fewest.xs} (K9 m c.1 c.2 a.1 a.2 vals) c32 0 (Q3y vals [.tmp 4] (Xj m c a) (.pair (.i .u64) (.i .i64)) (.i .i64) (JY m c a)) (mstart 63 2 (.pair (.i .u64) (.i .i64)) (.i .i64) m vals (AL.can Xi c) (AL.can Xg a)))=J3 eu m c.1 c.2 a.1 a.2:=by kernel_rfl
abbrev Mu:Prop:=Z12 Tryz.prog 32 W7 2
theorem MJ (h:∀ (eu:Nat) (m:List ((Int×Int)×Int)) (l:List (Int×(Int×Int)×Int)) (tl:Int) (lf:Int) (la:Int),(l.length≤12∧(∀ y∈l,Zi y=true)∧0≤lf∧lf<2 ^ l.length∧-1≤la∧la<l.length∧Pf l tl m)→(lf.toNat)=eu→J3 eu m l tl lf la):Z12 Tryz.prog 32 W7 2 :=
 Q1k Q82 mixed VV rfl (μ:=Ke) (C:=cx_shade_layer_fewest) ⟨(.cons Wo (.cons VM .nil)),XsOk.nil,ItsOk.nil,YlOk.nil,IysOk.nil,XfOk.nil⟩ rfl (L:=fun m (c:(List (Int×(Int×Int)×Int))×Int) (a:Int×Int) vals=>K9 m c.1 c.2 a.1 a.2 vals) (V:=fun eu m (c:(List (Int×(Int×Int)×Int))×Int) (a:Int×Int)=>J3 eu m c.1 c.2 a.1 a.2) MT fun n m c a hp hn=>h n m c.1 c.2 a.1 a.2 hp hn
theorem Yx:Mu:=MJ fun eu m l tl lf la h hn=>by
 obtain⟨h1,h2,h3,h4,h5,h6,h7⟩:=h;unfold J3;(try delta lI gD sT I64);intro vals;simp only[true_and,and_true];have eF:(2:Int) ^ l.length=((2 ^ l.length:Nat):Int):=by simp
 obtain⟨n,rfl⟩:=Int.eq_ofNat_of_zero_le h3;simp only[Int.toNat_natCast,eF] at hn h4 ⊢;have h4:n<2 ^ l.length:=by omega
 have rY:=YT h1;have eW:n<2 ^ 64:=Nat.lt_of_lt_of_le h4 (Nat.pow_le_pow_right (by omega) (by omega));have jY:∀ i:Int,0≤i→i≤12→InK .u64 (Qo .u64 1 i):=fun i a b=>by
  rw[VB a (by omega)];have:=YT (n:=i.toNat) (by omega);simp only[Kr];generalize 2 ^ i.toNat=z at *
  omega
 refine⟨fun c=>?_,fun c=>⟨fun c2=>⟨?_,h7⟩,fun c2=>⟨⟨by omega,by omega⟩,(),(m,(l.length:Int),0),(by and_intros<;>first|rfl|trivial),?_⟩⟩⟩
 ·have c:n=0:=by simpa using c
  subst c;exact⟨rfl,h7⟩
 ·have:=h7 ((n:Int),la) c2;simpa using this
 have c:0<n:=by
  have:n≠0:=by simpa using c
  omega
 have pr:=Q1r (l:=l) (tl:=tl) (la:=la) eW c;have nh:=Xc h4 (by omega);have aH:=Rj h4 (by omega);have wC:=Ru (tl:=tl) la h1 h4;refine⟨fun d=>∃ k:Nat,d.2.2=k∧k≤(Q8 n).length∧d.2.1=((Q8 n).take k).foldl (fun b i=>My b (JG l tl la i+Xo l tl (Bw n i.toNat) i)) (l.length:Int)∧Pf l tl d.1,fun d=>(Q8 n).length-d.2.2.toNat,⟨0,rfl,by omega,rfl,h7⟩,?_⟩;rintro⟨m1,b,k'⟩ ⟨k,e1,e2,e3,e4⟩;dsimp only at e1 e3 e4 ⊢;subst e1;refine⟨fun g=>?_,fun g=>?_⟩
 ·have g:k<(Q8 n).length:=by have:=of_decide_eq_true g;omega
  have hx:(Q8 n).getD k 0=(Q8 n)[k]:=Q6 g;have kD:(Q8 n)[k]∈Q8 n:=List.getElem_mem g;have cr:=aH _ kD;have lj:=QX g;simp only[Int.toNat_natCast,hx];generalize (Q8 n)[k]=x at kD cr lj;have cG:=Q2q eW kD;have mr:Qd .andNot .u64 (n:Int) (Qo .u64 1 x)=((Bw n x.toNat:Nat):Int):=by rw[VB cr.1 (by omega)];exact IK eW (by omega)
  rw[mr];simp only[Int.toNat_natCast];have hs:=Un l tl la x;have hr:=Ru (tl:=tl) x h1 (show Bw n x.toNat<2 ^ l.length by omega);refine⟨by omega,by omega,⟨h1,h2,h6,cr.1,cr.2⟩,cr.1,jY x cr.1 (by omega),⟨⟨h1,h2,by omega,by omega,by omega,cr.2,e4⟩,by omega⟩,fun m4 wD=>⟨by simp only[Qj];omega,by simp only[Qj];omega,(m4,My b (JG l tl la x+Xo l tl (Bw n x.toNat) x),(k:Int)+1),(by and_intros<;>first|rfl|trivial),⟨k+1,by simp,by omega,?_,wD⟩,by dsimp only;omega⟩⟩;dsimp only;rw[lj,List.foldl_append,e3];rfl
 ·have hk:k=(Q8 n).length:=by have:=of_decide_eq_false g;omega
  rw[hk,List.take_length,←pr] at e3;exact⟨e3,Q3m e4 (by rw[Int.toNat_natCast];exact e3)⟩
def P4:AL ((List (Int×(Int×Int)×Int))×Int):=(.cons (.k (.list (.pair (.i .i64) (.pair (.pair (.i .i64) (.i .i64)) (.i .i64))))) (.one (.k (.i .i64))))
def C1 (d:(List (Int×(Int×Int)×Int))×Int):Prop:=d.1.length≤1000
def BC (d:(List (Int×(Int×Int)×Int))×Int):SV:=.tup [.lst 0,.val (.i .i64) (HB d.1 d.2),.val (.i .i64) (Ze d.1 d.2)]
def BP (d:(List (Int×(Int×Int)×Int))×Int):List OB:=[.lst 3 (.i .i64) (EF d.1 d.2) ((EF d.1 d.2).isEmpty)]
def DF:CSp:=Yo P4 C1 BC BP
def Uq (l:List (Int×(Int×Int)×Int)) (tl:Int):Prop :=
 ∀ w1:List Value,(l.length≤1000)∧(((QF l)==(0:Int))=true→True)∧(((QF l)==(0:Int))=true→[tl].length≤1000000)∧((((QF l)==(0:Int))&&(!(!([tl].any fun n=>decide (n<(0:Int))||decide ((1000:Int)<n)))))=true →
  w1=w1∧(((3:Int) != (0:Int))=true →
   ((True∧(0:Int)=(HB l tl)∧(3:Int)=(Ze l tl)∧(([]:List SV)=[]))∧(((EF l tl)=[]∧(EF l tl).isEmpty=true)∧True))) ∧
  (((3:Int) != (0:Int))=false →
   (0≤(lI l))∧(InK .u64 (Qo .u64 (1:Int) (lI l)))∧(InK .u64 ((Qo .u64 (1:Int) (lI l))-(1:Int)))∧(l.length≤12∧(∀ y∈l,Zi y=true)∧0≤((Qo .u64 (1:Int) (lI l))-(1:Int))∧((Qo .u64 (1:Int) (lI l))-(1:Int))<2 ^ l.length∧-1≤(-1:Int)∧(-1:Int)<l.length∧Pf l tl ([]:List ((Int×Int)×Int)))∧(∀ m2:List ((Int×Int)×Int),(Pf l tl m2)→∃ (e6:Unit) (d60:(List Int)×(List ((Int×Int)×Int))×Int×Int),((True∧(Xo l tl ((Qo .u64 (1:Int) (lI l))-(1:Int)).toNat (-1:Int))=(Xo l tl ((Qo .u64 (1:Int) (lI l))-(1:Int)).toNat (-1:Int))∧True∧True∧True)∧((d60.1=[]∧(List.isEmpty d60.1)=true)∧(l=l∧tl=tl∧True∧(([]:List SV)=[]))∧(m2=d60.2.1)∧(((Qo .u64 (1:Int) (lI l))-(1:Int))=d60.2.2.1∧(-1:Int)=d60.2.2.2∧(([]:List SV)=[]))∧True)) ∧
   LoopP (fun (d6:(List Int)×(List ((Int×Int)×Int))×Int×Int) (q6:((List Int)×(List ((Int×Int)×Int))×Int×Int)→Prop) =>
    ((d6.2.2.1 != (0:Int))=true →
     (0≤d6.2.2.1∧d6.2.2.1≤1048576)∧∃ (e9:(List Int)×Int×Int×(List Int)×Int) (d90:(List ((Int×Int)×Int))×Int),((True∧(Xo l tl ((Qo .u64 (1:Int) (lI l))-(1:Int)).toNat (-1:Int))=(Xo l tl ((Qo .u64 (1:Int) (lI l))-(1:Int)).toNat (-1:Int))∧True∧True∧True∧(lI (Q8 d6.2.2.1.toNat))=e9.2.2.2.2∧(0:Int)=d90.2∧True)∧((d6.1=e9.1∧(List.isEmpty d6.1)=(List.isEmpty e9.1))∧(l=l∧tl=tl∧True∧(([]:List SV)=[]))∧(d6.2.1=d90.1)∧(d6.2.2.1=e9.2.1∧d6.2.2.2=e9.2.2.1∧(([]:List SV)=[]))∧((Q8 d6.2.2.1.toNat)=e9.2.2.2.1∧(Q8 d6.2.2.1.toNat).isEmpty=(List.isEmpty e9.2.2.2.1))∧True)) ∧
     LoopP (fun (d9:(List ((Int×Int)×Int))×Int) (q9:((List ((Int×Int)×Int))×Int)→Prop) =>
      ((decide (d9.2<e9.2.2.2.2))=true →
       (0≤d9.2)∧(d9.2<(List.length e9.2.2.2.1))∧(0≤(gD e9.2.2.2.1 d9.2 0))∧(InK .u64 (Qo .u64 (1:Int) (gD e9.2.2.2.1 d9.2 0)))∧(l.length≤12∧(∀ y∈l,Zi y=true)∧e9.2.2.1<l.length∧0≤(gD e9.2.2.2.1 d9.2 0)∧(gD e9.2.2.2.1 d9.2 0)<l.length)∧(l.length≤12∧(∀ y∈l,Zi y=true)∧0≤(Qd .andNot .u64 e9.2.1 (Qo .u64 (1:Int) (gD e9.2.2.2.1 d9.2 0)))∧(Qd .andNot .u64 e9.2.1 (Qo .u64 (1:Int) (gD e9.2.2.2.1 d9.2 0)))<2 ^ l.length∧-1≤(gD e9.2.2.2.1 d9.2 0)∧(gD e9.2.2.2.1 d9.2 0)<l.length∧Pf l tl d9.1)∧(∀ rZ:List ((Int×Int)×Int),(Pf l tl rZ)→(I64 ((JG l tl e9.2.2.1 (gD e9.2.2.2.1 d9.2 0))+(Xo l tl (Qd .andNot .u64 e9.2.1 (Qo .u64 (1:Int) (gD e9.2.2.2.1 d9.2 0))).toNat (gD e9.2.2.2.1 d9.2 0))))∧(l.length≤12∧(∀ y∈l,Zi y=true)∧0≤e9.2.1∧e9.2.1<2 ^ l.length∧-1≤e9.2.2.1∧e9.2.2.1<l.length∧Pf l tl rZ)∧(∀ ny:List ((Int×Int)×Int),(Pf l tl ny)→((((JG l tl e9.2.2.1 (gD e9.2.2.2.1 d9.2 0))+(Xo l tl (Qd .andNot .u64 e9.2.1 (Qo .u64 (1:Int) (gD e9.2.2.2.1 d9.2 0))).toNat (gD e9.2.2.2.1 d9.2 0)))==(Xo l tl e9.2.1.toNat e9.2.2.1))=true →
        (((List.length e9.1)+(List.length [(gD e9.2.2.2.1 d9.2 0)]))*8≤70368744177664)∧(∃ d12:(List Int)×(List ((Int×Int)×Int))×Int×Int,((True∧(Xo l tl ((Qo .u64 (1:Int) (lI l))-(1:Int)).toNat (-1:Int))=(Xo l tl ((Qo .u64 (1:Int) (lI l))-(1:Int)).toNat (-1:Int))∧True∧True∧True)∧(((e9.1++[(gD e9.2.2.2.1 d9.2 0)])=d12.1∧false=(List.isEmpty d12.1))∧(l=l∧tl=tl∧True∧(([]:List SV)=[]))∧(ny=d12.2.1)∧((Qd .andNot .u64 e9.2.1 (Qo .u64 (1:Int) (gD e9.2.2.2.1 d9.2 0)))=d12.2.2.1∧(gD e9.2.2.2.1 d9.2 0)=d12.2.2.2∧(([]:List SV)=[]))∧True))∧q6 d12)) ∧
       ((((JG l tl e9.2.2.1 (gD e9.2.2.2.1 d9.2 0))+(Xo l tl (Qd .andNot .u64 e9.2.1 (Qo .u64 (1:Int) (gD e9.2.2.2.1 d9.2 0))).toNat (gD e9.2.2.2.1 d9.2 0)))==(Xo l tl e9.2.1.toNat e9.2.2.1))=false →
        (I64 (d9.2+(1:Int)))∧(∃ d13:(List ((Int×Int)×Int))×Int,((True∧(Xo l tl ((Qo .u64 (1:Int) (lI l))-(1:Int)).toNat (-1:Int))=(Xo l tl ((Qo .u64 (1:Int) (lI l))-(1:Int)).toNat (-1:Int))∧True∧True∧True∧e9.2.2.2.2=e9.2.2.2.2∧(d9.2+(1:Int))=d13.2∧True)∧((e9.1=e9.1∧(List.isEmpty e9.1)=(List.isEmpty e9.1))∧(l=l∧tl=tl∧True∧(([]:List SV)=[]))∧(ny=d13.1)∧(e9.2.1=e9.2.1∧e9.2.2.1=e9.2.2.1∧(([]:List SV)=[]))∧(e9.2.2.2.1=e9.2.2.2.1∧(List.isEmpty e9.2.2.2.1)=(List.isEmpty e9.2.2.2.1))∧True))∧q9 d13))))) ∧
      ((decide (d9.2<e9.2.2.2.2))=false →
       (∃ d14:(List Int)×(List ((Int×Int)×Int))×Int×Int,((True∧(Xo l tl ((Qo .u64 (1:Int) (lI l))-(1:Int)).toNat (-1:Int))=(Xo l tl ((Qo .u64 (1:Int) (lI l))-(1:Int)).toNat (-1:Int))∧True∧True∧True)∧((e9.1=d14.1∧(List.isEmpty e9.1)=(List.isEmpty d14.1))∧(l=l∧tl=tl∧True∧(([]:List SV)=[]))∧(d9.1=d14.2.1)∧(e9.2.1=d14.2.2.1∧e9.2.2.1=d14.2.2.2∧(([]:List SV)=[]))∧True))∧q6 d14))) d90) ∧
    ((d6.2.2.1 != (0:Int))=false →
     ((True∧(Xo l tl ((Qo .u64 (1:Int) (lI l))-(1:Int)).toNat (-1:Int))=(HB l tl)∧(0:Int)=(Ze l tl)∧(([]:List SV)=[]))∧((d6.1=(EF l tl)∧(List.isEmpty d6.1)=(EF l tl).isEmpty)∧True)))) d60))) ∧
 ((((QF l)==(0:Int))&&(!(!([tl].any fun n=>decide (n<(0:Int))||decide ((1000:Int)<n)))))=false →
  w1=w1∧(((QF l) != (0:Int))=true →
   ((True∧(0:Int)=(HB l tl)∧(QF l)=(Ze l tl)∧(([]:List SV)=[]))∧(((EF l tl)=[]∧(EF l tl).isEmpty=true)∧True))) ∧
  (((QF l) != (0:Int))=false →
   (0≤(lI l))∧(InK .u64 (Qo .u64 (1:Int) (lI l)))∧(InK .u64 ((Qo .u64 (1:Int) (lI l))-(1:Int)))∧(l.length≤12∧(∀ y∈l,Zi y=true)∧0≤((Qo .u64 (1:Int) (lI l))-(1:Int))∧((Qo .u64 (1:Int) (lI l))-(1:Int))<2 ^ l.length∧-1≤(-1:Int)∧(-1:Int)<l.length∧Pf l tl ([]:List ((Int×Int)×Int)))∧(∀ tT:List ((Int×Int)×Int),(Pf l tl tT)→∃ (dT:Unit) (ew:(List Int)×(List ((Int×Int)×Int))×Int×Int),((True∧(Xo l tl ((Qo .u64 (1:Int) (lI l))-(1:Int)).toNat (-1:Int))=(Xo l tl ((Qo .u64 (1:Int) (lI l))-(1:Int)).toNat (-1:Int))∧True∧True∧True)∧((ew.1=[]∧(List.isEmpty ew.1)=true)∧(l=l∧tl=tl∧True∧(([]:List SV)=[]))∧(tT=ew.2.1)∧(((Qo .u64 (1:Int) (lI l))-(1:Int))=ew.2.2.1∧(-1:Int)=ew.2.2.2∧(([]:List SV)=[]))∧True)) ∧
   LoopP (fun (d19:(List Int)×(List ((Int×Int)×Int))×Int×Int) (pw:((List Int)×(List ((Int×Int)×Int))×Int×Int)→Prop) =>
    ((d19.2.2.1 != (0:Int))=true →
     (0≤d19.2.2.1∧d19.2.2.1≤1048576)∧∃ (aU:(List Int)×Int×Int×(List Int)×Int) (mu:(List ((Int×Int)×Int))×Int),((True∧(Xo l tl ((Qo .u64 (1:Int) (lI l))-(1:Int)).toNat (-1:Int))=(Xo l tl ((Qo .u64 (1:Int) (lI l))-(1:Int)).toNat (-1:Int))∧True∧True∧True∧(lI (Q8 d19.2.2.1.toNat))=aU.2.2.2.2∧(0:Int)=mu.2∧True)∧((d19.1=aU.1∧(List.isEmpty d19.1)=(List.isEmpty aU.1))∧(l=l∧tl=tl∧True∧(([]:List SV)=[]))∧(d19.2.1=mu.1)∧(d19.2.2.1=aU.2.1∧d19.2.2.2=aU.2.2.1∧(([]:List SV)=[]))∧((Q8 d19.2.2.1.toNat)=aU.2.2.2.1∧(Q8 d19.2.2.1.toNat).isEmpty=(List.isEmpty aU.2.2.2.1))∧True)) ∧
     LoopP (fun (d22:(List ((Int×Int)×Int))×Int) (wE:((List ((Int×Int)×Int))×Int)→Prop) =>
      ((decide (d22.2<aU.2.2.2.2))=true →
       (0≤d22.2)∧(d22.2<(List.length aU.2.2.2.1))∧(0≤(gD aU.2.2.2.1 d22.2 0))∧(InK .u64 (Qo .u64 (1:Int) (gD aU.2.2.2.1 d22.2 0)))∧(l.length≤12∧(∀ y∈l,Zi y=true)∧aU.2.2.1<l.length∧0≤(gD aU.2.2.2.1 d22.2 0)∧(gD aU.2.2.2.1 d22.2 0)<l.length)∧(l.length≤12∧(∀ y∈l,Zi y=true)∧0≤(Qd .andNot .u64 aU.2.1 (Qo .u64 (1:Int) (gD aU.2.2.2.1 d22.2 0)))∧(Qd .andNot .u64 aU.2.1 (Qo .u64 (1:Int) (gD aU.2.2.2.1 d22.2 0)))<2 ^ l.length∧-1≤(gD aU.2.2.2.1 d22.2 0)∧(gD aU.2.2.2.1 d22.2 0)<l.length∧Pf l tl d22.1)∧(∀ tU:List ((Int×Int)×Int),(Pf l tl tU)→(I64 ((JG l tl aU.2.2.1 (gD aU.2.2.2.1 d22.2 0))+(Xo l tl (Qd .andNot .u64 aU.2.1 (Qo .u64 (1:Int) (gD aU.2.2.2.1 d22.2 0))).toNat (gD aU.2.2.2.1 d22.2 0))))∧(l.length≤12∧(∀ y∈l,Zi y=true)∧0≤aU.2.1∧aU.2.1<2 ^ l.length∧-1≤aU.2.2.1∧aU.2.2.1<l.length∧Pf l tl tU)∧(∀ r4:List ((Int×Int)×Int),(Pf l tl r4)→((((JG l tl aU.2.2.1 (gD aU.2.2.2.1 d22.2 0))+(Xo l tl (Qd .andNot .u64 aU.2.1 (Qo .u64 (1:Int) (gD aU.2.2.2.1 d22.2 0))).toNat (gD aU.2.2.2.1 d22.2 0)))==(Xo l tl aU.2.1.toNat aU.2.2.1))=true →
        (((List.length aU.1)+(List.length [(gD aU.2.2.2.1 d22.2 0)]))*8≤70368744177664)∧(∃ d25:(List Int)×(List ((Int×Int)×Int))×Int×Int,((True∧(Xo l tl ((Qo .u64 (1:Int) (lI l))-(1:Int)).toNat (-1:Int))=(Xo l tl ((Qo .u64 (1:Int) (lI l))-(1:Int)).toNat (-1:Int))∧True∧True∧True)∧(((aU.1++[(gD aU.2.2.2.1 d22.2 0)])=d25.1∧false=(List.isEmpty d25.1))∧(l=l∧tl=tl∧True∧(([]:List SV)=[]))∧(r4=d25.2.1)∧((Qd .andNot .u64 aU.2.1 (Qo .u64 (1:Int) (gD aU.2.2.2.1 d22.2 0)))=d25.2.2.1∧(gD aU.2.2.2.1 d22.2 0)=d25.2.2.2∧(([]:List SV)=[]))∧True))∧pw d25)) ∧
       ((((JG l tl aU.2.2.1 (gD aU.2.2.2.1 d22.2 0))+(Xo l tl (Qd .andNot .u64 aU.2.1 (Qo .u64 (1:Int) (gD aU.2.2.2.1 d22.2 0))).toNat (gD aU.2.2.2.1 d22.2 0)))==(Xo l tl aU.2.1.toNat aU.2.2.1))=false →
        (I64 (d22.2+(1:Int)))∧(∃ d26:(List ((Int×Int)×Int))×Int,((True∧(Xo l tl ((Qo .u64 (1:Int) (lI l))-(1:Int)).toNat (-1:Int))=(Xo l tl ((Qo .u64 (1:Int) (lI l))-(1:Int)).toNat (-1:Int))∧True∧True∧True∧aU.2.2.2.2=aU.2.2.2.2∧(d22.2+(1:Int))=d26.2∧True)∧((aU.1=aU.1∧(List.isEmpty aU.1)=(List.isEmpty aU.1))∧(l=l∧tl=tl∧True∧(([]:List SV)=[]))∧(r4=d26.1)∧(aU.2.1=aU.2.1∧aU.2.2.1=aU.2.2.1∧(([]:List SV)=[]))∧(aU.2.2.2.1=aU.2.2.2.1∧(List.isEmpty aU.2.2.2.1)=(List.isEmpty aU.2.2.2.1))∧True))∧wE d26))))) ∧
      ((decide (d22.2<aU.2.2.2.2))=false →
       (∃ d27:(List Int)×(List ((Int×Int)×Int))×Int×Int,((True∧(Xo l tl ((Qo .u64 (1:Int) (lI l))-(1:Int)).toNat (-1:Int))=(Xo l tl ((Qo .u64 (1:Int) (lI l))-(1:Int)).toNat (-1:Int))∧True∧True∧True)∧((aU.1=d27.1∧(List.isEmpty aU.1)=(List.isEmpty d27.1))∧(l=l∧tl=tl∧True∧(([]:List SV)=[]))∧(d22.1=d27.2.1)∧(aU.2.1=d27.2.2.1∧aU.2.2.1=d27.2.2.2∧(([]:List SV)=[]))∧True))∧pw d27))) mu) ∧
    ((d19.2.2.1 != (0:Int))=false →
     ((True∧(Xo l tl ((Qo .u64 (1:Int) (lI l))-(1:Int)).toNat (-1:Int))=(HB l tl)∧(0:Int)=(Ze l tl)∧(([]:List SV)=[]))∧((d19.1=(EF l tl)∧(List.isEmpty d19.1)=(EF l tl).isEmpty)∧True)))) ew)))
def Pm:Cx:=⟨[(3,(.i .i64)),(1000023,(.pair (.pair (.i .u64) (.i .i64)) (.i .i64)))],[(45,Ye),(46,Xf),(33,JA),(34,Xp)],73,[],0,[(23,Ge),(32,W7)],[],[],[],false,[],[],[],[(32,2)]⟩
def Ah (l:List (Int×(Int×Int)×Int)) (tl:Int):List (Nat×LoopAnn):=[(0,⟨Unit,(List Int)×(List ((Int×Int)×Int))×Int×Int,[4,5,8,9],fun e x=>[.lst 68,.val (.i .i64) (Xo l tl ((Qo .u64 (1:Int) (((List.length l):Nat):Int))-(1:Int)).toNat (-1:Int)),.box 25 0,.box 9 0],fun e x=>[(68,.slot 4,.lst 3 (.i .i64) x.1 (List.isEmpty x.1)),(25,.slot 8,.cells [.val (.list (.pair (.i .i64) (.pair (.pair (.i .i64) (.i .i64)) (.i .i64)))) l,.val (.i .i64) tl,.map 23] (some 104)),(23,.cell 25 2,.map (.pair (.i .u64) (.i .i64)) (.i .i64) x.2.1),(9,.slot 9,.cells [.val (.i .u64) x.2.2.1,.val (.i .i64) x.2.2.2] (some 108))]⟩),
 (2,⟨(List Int)×Int×Int×(List Int)×Int,(List ((Int×Int)×Int))×Int,[4,5,8,9,39,40,41],fun e x=>[.lst 68,.val (.i .i64) (Xo l tl ((Qo .u64 (1:Int) (((List.length l):Nat):Int))-(1:Int)).toNat (-1:Int)),.box 25 0,.box 9 0,.lst 39,.val (.i .i64) e.2.2.2.2,.val (.i .i64) x.2],fun e x=>[(68,.slot 4,.lst 3 (.i .i64) e.1 (List.isEmpty e.1)),(25,.slot 8,.cells [.val (.list (.pair (.i .i64) (.pair (.pair (.i .i64) (.i .i64)) (.i .i64)))) l,.val (.i .i64) tl,.map 23] (some 104)),(23,.cell 25 2,.map (.pair (.i .u64) (.i .i64)) (.i .i64) x.1),(9,.slot 9,.cells [.val (.i .u64) e.2.1,.val (.i .i64) e.2.2.1] (some 108)),(39,.slot 39,.lst 3 (.i .i64) e.2.2.2.1 (List.isEmpty e.2.2.2.1))]⟩)]
theorem AF (d:(List (Int×(Int×Int)×Int))×Int):gwp (Pm) (Ah d.1 d.2) c16 0 (V8 [.tmp 4,.tmp 5,.tmp 6] (BC d) (BP d)) (Qr 73 (AL.can P4 d))=Uq d.1 d.2:=by kernel_rfl
abbrev AE:Prop:=OkC Tryz.prog 16 DF
theorem A2 (h:∀ (l:List (Int×(Int×Int)×Int)) (tl:Int),(l.length≤1000)→Uq l tl):OkC Tryz.prog 16 DF :=
 Z8 Z0h mixed (C:=Pm) (V:=fun (d:(List (Int×(Int×Int)×Int))×Int)=>Uq d.1 d.2) ⟨(.cons UF (.cons Y5 (.cons Wo (.cons VM .nil)))),(XsOk.cons Dh (XsOk.cons Yx.1 XsOk.nil)),ItsOk.nil,YlOk.nil,IysOk.nil,(XfOk.cons rfl Yx.2 XfOk.nil)⟩ (AF) fun d hp=>h d.1 d.2 hp
theorem Iy {l:List Lot}{tl:Int}(hl:l.length≤12) (ah:∀ y∈l,Zi y=true) (ho:Ze l tl=0):HB l tl=Xo l tl (2 ^ l.length-1) (-1)∧EF l tl=Bh l tl (2 ^ l.length-1) (-1):=by unfold HB EF;rw[if_pos ho,if_pos ho];exact⟨rfl,rfl⟩
theorem A3:AE:=A2 fun l tl h=>by
 unfold Uq;(try delta lI gD sT I64);intro vals;have e:∀ n a b:Int,(decide (n<a)||decide (b<n))=!inI n a b:=fun n a b=>(nIb n a b).symm;simp only[List.any_cons,List.any_nil,Bool.or_false,e,Bool.not_not,List.length_cons,List.length_nil,true_and,and_true];refine⟨h,fun _=>trivial,fun _=>by omega,fun hx=>⟨fun _=>?_,(fun c=>by cases c)⟩,fun hx=>⟨fun a=>?_,fun a=>?_⟩⟩
 ·simp only[Bool.and_eq_true,beq_iff_eq,Bool.not_eq_true'] at hx;have o:Ze l tl=3:=by unfold Ze;rw[if_neg (by omega),hx.2];rfl
  unfold HB EF;rw[o];exact(by and_intros<;>first|rfl|trivial|simp)
 ·have a:QF l≠0:=by simpa using a
  have o:Ze l tl=QF l:=by unfold Ze;rw[if_pos a]
  unfold HB EF;rw[o,if_neg a,if_neg a];exact(by and_intros<;>first|rfl|trivial|simp)
 ·have a:QF l=0:=by simpa using a
  have o:Ze l tl=0:=by unfold Ze;rw[if_neg (by omega),if_neg];intro h2;rw[a,h2] at hx;cases hx
  obtain⟨h1,h2⟩:=H6 a;obtain⟨q1,q2⟩:=Iy h1 h2 o;rw[o,q1,q2];have eF:(2:Int) ^ l.length=((2 ^ l.length:Nat):Int):=by simp
  have rY:=YT h1;have tQ:=Nat.two_pow_pos l.length;have dy:Qo .u64 1 (l.length:Int)=((2 ^ l.length:Nat):Int):=VB (by omega) (by omega);have ff:((2 ^ l.length:Nat):Int)-1=((2 ^ l.length-1:Nat):Int):=by omega
  have jY:∀ i:Int,0≤i→i≤12→InK .u64 (Qo .u64 1 i):=fun i a b=>by
   rw[VB a (by omega)];have:=YT (n:=i.toNat) (by omega);simp only[Kr];generalize 2 ^ i.toNat=z at *
   omega
  simp only[dy,ff,eF,Int.toNat_natCast];refine⟨by omega,by simp only[Kr];omega,by simp only[Kr];omega,⟨h1,h2,by omega,by omega,by omega,by omega,Q3k l tl⟩,fun m1 jR=>⟨(),([],m1,((2 ^ l.length-1:Nat):Int),-1),(by and_intros<;>first|rfl|trivial),?_⟩⟩;have hlen:(Bh l tl (2 ^ l.length-1) (-1)).length=(Q8 (2 ^ l.length-1)).length:=by have hs:=Xc (n:=2 ^ l.length-1) (m:=l.length) (by omega) (by omega);exact(TP (N:=(l.length:Int)) (Un l tl) (Q8 (2 ^ l.length-1)).length (Q8 (2 ^ l.length-1)) (-1) rfl (by omega)).1.length_eq
  have hs:=Xc (n:=2 ^ l.length-1) (m:=l.length) (by omega) (by omega);refine⟨fun d=>∃ n:Nat,d.2.2.1=n∧n<2 ^ l.length∧-1≤d.2.2.2∧d.2.2.2<l.length∧Pf l tl d.2.1∧d.1++Bh l tl n d.2.2.2=Bh l tl (2 ^ l.length-1) (-1),fun d=>d.2.2.1.toNat,⟨2 ^ l.length-1,rfl,by omega,by dsimp only;omega,by dsimp only;omega,jR,rfl⟩,?_⟩;rintro⟨r,m2,n',la⟩ ⟨n,e1,e2,e3,e4,e5,e6⟩;dsimp only at e1 e3 e4 e5 e6 ⊢;subst e1;simp only[Int.toNat_natCast];refine⟨fun g=>?_,fun g=>?_⟩
  ·have g:0<n:=by
    have:n≠0:=by simpa using g
    omega
   have eW:n<2 ^ 64:=Nat.lt_of_lt_of_le e2 (Nat.pow_le_pow_right (by omega) (by omega));have nh:=Xc e2 (by omega);have aH:=Rj e2 (by omega);have tA:=Ru (tl:=tl) la h1 e2;obtain⟨⟨ie,rW,fy⟩,dq⟩:=Oy (tl:=tl) la h1 e2 g;have dK:r.length≤12:=by have:=congrArg List.length e6;rw[List.length_append,hlen] at this;omega
   refine⟨⟨by omega,by omega⟩,(r,(n:Int),la,Q8 n,((Q8 n).length:Int)),(m2,0),(by and_intros<;>first|rfl|trivial),?_⟩;dsimp only;simp only[Int.toNat_natCast];refine⟨fun d=>∃ k:Nat,d.2=k∧k≤(Q8 n).length∧Pf l tl d.1∧∀ j,j<k→JG l tl la ((Q8 n).getD j 0)+Xo l tl (Bw n ((Q8 n).getD j 0).toNat) ((Q8 n).getD j 0)≠Xo l tl n la,fun d=>(Q8 n).length-d.2.toNat,⟨0,rfl,by omega,e5,fun j hj=>by omega⟩,?_⟩;rintro⟨m3,k'⟩ ⟨k,f1,f2,f3,f4⟩;dsimp only at f1 f3 f4 ⊢;subst f1;simp only[Int.toNat_natCast];refine⟨fun g2=>?_,fun g2=>?_⟩
   ·have g2:k<(Q8 n).length:=by have:=of_decide_eq_true g2;omega
    have hx:(Q8 n).getD k 0=(Q8 n)[k]:=Q6 g2;have kD:(Q8 n).getD k 0∈Q8 n:=by rw[hx];exact List.getElem_mem g2
    have cr:=aH _ kD;have m8:=dq k g2 f4;have cU:JG l tl la ((Q8 n).getD k 0)+Xo l tl (Bw n ((Q8 n).getD k 0).toNat) ((Q8 n).getD k 0)≠Xo l tl n la→∀ j,j<k+1→JG l tl la ((Q8 n).getD j 0)+Xo l tl (Bw n ((Q8 n).getD j 0).toNat) ((Q8 n).getD j 0)≠Xo l tl n la:=fun aA j hj=>by
     by_cases e:j=k
     ·subst e;exact aA
     ·exact f4 j (by omega)
    generalize (Q8 n).getD k 0=x at kD cr m8 cU;have cG:=Q2q eW kD;have mr:Qd .andNot .u64 (n:Int) (Qo .u64 1 x)=((Bw n x.toNat:Nat):Int):=by rw[VB cr.1 (by omega)];exact IK eW (by omega)
    rw[mr];simp only[Int.toNat_natCast];have jt:=Un l tl la x;have hr:=Ru (tl:=tl) x h1 (show Bw n x.toNat<2 ^ l.length by omega);refine⟨by omega,by omega,cr.1,jY x cr.1 (by omega),⟨h1,h2,e4,cr.1,cr.2⟩,⟨h1,h2,by omega,by omega,by omega,cr.2,f3⟩,fun rZ r5=>⟨by simp only[Qj];omega,⟨h1,h2,by omega,by omega,e3,e4,r5⟩,fun ny px=>⟨fun c=>?_,fun c=>?_⟩⟩⟩
    ·have c:=of_decide_eq_true c;refine⟨by omega,(r++[x],ny,((Bw n x.toNat:Nat):Int),x),(by and_intros<;>first|rfl|trivial|simp),⟨Bw n x.toNat,rfl,by omega,by dsimp only;omega,cr.2,px,?_⟩,by dsimp only;omega⟩;dsimp only;rw[←e6,m8 c,List.append_assoc];rfl
    ·have c:JG l tl la x+Xo l tl (Bw n x.toNat) x≠Xo l tl n la:=by simpa using c
     refine⟨by simp only[Qj];omega,(ny,(k:Int)+1),(by and_intros<;>first|rfl|trivial|simp),⟨k+1,by simp,by omega,px,cU c⟩,by dsimp only;omega⟩
   ·exfalso;have hk:k=(Q8 n).length:=by have:=of_decide_eq_false g2;omega
    obtain⟨j,hj,rfl⟩:=List.getElem_of_mem rW;have:=f4 j (by omega);rw[Q6 hj] at this;exact this fy
  ·have g:n=0:=by simpa using g
   subst g;rw[(Q2i l tl la).2,List.append_nil] at e6;rw[e6];exact(by and_intros<;>first|rfl|trivial|simp)
theorem Q59 {l:List Lot}{t k:Int}:JG l t (-1) k=0:=rfl
section
variable {sm:Int→Int→Int}
theorem DE:∀ (c:List Int) (la:Int) (r:List Int),(∀ i∈c,∀ k∈c,sm i k=0)→c≠[]→∃ e,Sr sm la (c++r)=sm la (c.getD 0 0)+Sr sm e r
 |[],_,_,_,h=>(h rfl).elim
 |[x],la,r,_,_=>⟨x,rfl⟩
 |x::y::t,la,r,h,_=>by obtain⟨e,he⟩:=DE (y::t) x r (fun i hi k hk=>h i (List.mem_cons_of_mem _ hi) k (List.mem_cons_of_mem _ hk)) (by simp);refine⟨e,?_⟩;rw[List.cons_append];simp only[Sr];rw[he,List.getD_cons_zero,List.getD_cons_zero,h x (List.mem_cons_self ..) y (List.mem_cons_of_mem _ (List.mem_cons_self ..))];omega
theorem Lc (h1:∀ a b,sm a b≤1):∀ (C:List (List Int)) (la:Int),(∀ c∈C,c≠[]∧∀ i∈c,∀ k∈c,sm i k=0)→Sr sm la C.flatten≤C.length
 |[],_,_=>Int.le_refl _
 |c::C,la,h=>by obtain⟨hc,hz⟩:=h c (List.mem_cons_self ..);obtain⟨e,he⟩:=DE c la C.flatten hz hc;have:=Lc h1 C e fun c hc=>h c (List.mem_cons_of_mem _ hc);have:=h1 la (c.getD 0 0);rw[List.flatten_cons,he,List.length_cons];omega
end
theorem Q1v {l:List Lot}{t:Int}(hl:l.length≤12):(Bh l t (2 ^ l.length-1) (-1)).Perm ((List.range l.length).map fun (k:Nat)=>(k:Int))∧Sr (JG l t) (-1) (Bh l t (2 ^ l.length-1) (-1))=Xo l t (2 ^ l.length-1) (-1):=by have hp:=Nat.two_pow_pos l.length;have hs:=Xc (n:=2 ^ l.length-1) (m:=l.length) (by omega) (by omega);obtain⟨h1,h2⟩:=TP (N:=(l.length:Int)) (Un l t) (Q8 (2 ^ l.length-1)).length (Q8 (2 ^ l.length-1)) (-1) rfl (by omega);refine⟨h1.trans ?_,h2⟩;rw[Cf (by omega)]
theorem OH {l:List Lot}{t:Int}(hl:l.length≤12) (ah:∀ y∈l,Zi y=true) (he:U0 l t=true) (aA:l≠[]):Xo l t (2 ^ l.length-1) (-1)≤((HR l t).length:Int)-1:=by
 obtain⟨p1,p2,-⟩:=Ez hl ah he;have hp:=Nat.two_pow_pos l.length;have hs:=Xc (n:=2 ^ l.length-1) (m:=l.length) (by omega) (by omega);have aH:∀ i∈(HR l t).flatten,0≤i∧i<(l.length:Int):=fun i hi=>by obtain⟨k,hk,rfl⟩:=List.mem_map.1 (p1.mem_iff.1 hi);have:=List.mem_range.1 hk;omega
 have hz:∀ c∈HR l t,c≠[]∧∀ i∈c,∀ k∈c,JG l t i k=0:=fun c hc=>⟨(p2 c hc).2.1,fun i hi k hk=>by
  rw[Q6m hl (aH i (List.mem_flatten.2 ⟨c,hc,hi⟩)) (aH k (List.mem_flatten.2 ⟨c,hc,hk⟩)),if_pos (DX.1 (p2 c hc).2.2 i hi k hk)]⟩
 have hle:=Q1f (N:=(l.length:Int)) (Un l t) (HR l t).flatten (Q8 (2 ^ l.length-1)) (-1) (p1.trans (by rw[Cf (by omega)])) (by omega);change Xo l t (2 ^ l.length-1) (-1)≤_ at hle;cases hC:HR l t with
 |nil =>rw[hC] at p1;have:=p1.length_eq;simp at this;exact(aA (List.eq_nil_of_length_eq_zero this.symm)).elim
 |cons c C =>rw[hC] at hle hz;obtain⟨h1,h2⟩:=hz c (List.mem_cons_self ..);obtain⟨e,h3⟩:=DE c (-1) C.flatten h2 h1;have:=Lc (sm:=JG l t) (fun a b=>(Un l t a b).2) C e fun c hc=>hz c (List.mem_cons_of_mem _ hc);rw[List.flatten_cons,h3,Q59] at hle;rw[List.length_cons];omega
theorem HL {a b:Nat}(ha:a<2 ^ 62) (hb:b<2 ^ 62):Qd .andNot .i64 (a:Int) (b:Int)=((a ^^^ (a &&& b):Nat):Int)∧a ^^^ (a &&& b)≤a:=by
 have py:∀ i,(a ^^^ (a &&& b)).testBit i=(a.testBit i&&!b.testBit i):=fun i=>by rw[Nat.testBit_xor,Nat.testBit_and];cases a.testBit i<;>cases b.testBit i<;>rfl
 have e:(BitVec.ofInt 64 ((a:Nat):Int) &&& ~~~BitVec.ofInt 64 ((b:Nat):Int)).toNat=a ^^^ (a &&& b):=by
  rw[BitVec.toNat_and,BitVec.toNat_not,BitVec.toNat_ofInt,BitVec.toNat_ofInt];have h1:(((a:Nat):Int) % ((2 ^ 64:Nat):Int)).toNat=a:=by omega
  have h2:(((b:Nat):Int) % ((2 ^ 64:Nat):Int)).toNat=b:=by omega
  rw[h1,h2];refine Nat.eq_of_testBit_eq fun i=>?_;rw[py,Nat.testBit_and,show 2 ^ 64-1-b=2 ^ 64-(b+1) by omega,Nat.testBit_two_pow_sub_succ (by omega)];by_cases hi:i<64
  ·rw[decide_eq_true hi];rfl
  ·rw[Nat.testBit_lt_two_pow (show a<2 ^ i from Nat.lt_of_lt_of_le ha (Nat.pow_le_pow_right (by omega) (by omega)))];rfl
 have hle:a ^^^ (a &&& b)≤a:=by
  have:a ^^^ (a &&& b)=a &&& (a ^^^ (a &&& b)):=Nat.eq_of_testBit_eq fun i=>by rw[Nat.testBit_and,py];cases a.testBit i<;>cases b.testBit i<;>rfl
  rw[this];exact Nat.and_le_left
 refine⟨?_,hle⟩;show IntKind.wrap .i64 ((BitVec.ofInt 64 ((a:Nat):Int) &&& ~~~BitVec.ofInt 64 ((b:Nat):Int)).toNat:Int)=_;rw[e];generalize a ^^^ (a &&& b)=c at *
 simp[IntKind.wrap,IntKind.bits,IntKind.signed];omega
def EE (s i:Nat):Nat:=s ^^^ (s &&& 2 ^ i)
theorem Cj (s i j:Nat):(EE s i).testBit j=(s.testBit j&&!decide (i=j)):=by unfold EE;rw[Nat.testBit_xor,Nat.testBit_and,Nat.testBit_two_pow];cases s.testBit j<;>cases decide (i=j)<;>rfl
theorem Ca {s i:Nat}(h:s.testBit i=true):EE s i<s:=by
 have hle:EE s i≤s:=by
  have:EE s i=s &&& EE s i:=Nat.eq_of_testBit_eq fun j=>by rw[Nat.testBit_and,Cj];cases s.testBit j<;>rfl
  rw[this];exact Nat.and_le_left
 rcases Nat.lt_or_eq_of_le hle with h1|h1
 ·exact h1
 ·have:=Cj s i i;rw[h1,h] at this;simp at this
def C_ (C:List (Int×Int)) (i:Nat):Int:=(C.getD i (0,0)).2
def Mq (C:List (Int×Int)) (s:Nat):Nat→Int
 |0=>0
 |n+1=>Mq C s n+if s.testBit n then C_ C n else 0
theorem I7 {C:List (Int×Int)}{s i:Nat}(hs:s.testBit i=true):∀ n,Mq C (EE s i) n=Mq C s n-if i<n then C_ C i else 0
 |0=>by simp[Mq]
 |n+1=>by
  simp only[Mq];rw[I7 hs n,Cj];by_cases e:i=n
  ·subst e;simp[hs]
  ·rw[decide_eq_false e,Bool.not_false,Bool.and_true];by_cases h:i<n
   ·have h2:i<n+1:=by omega
    rw[if_pos h,if_pos h2];omega
   ·have h2:¬ i<n+1:=by omega
    rw[if_neg h,if_neg h2];omega
theorem A6 (C:List (Int×Int)):∀ n,Mq C 0 n=0
 |0=>rfl
 |n+1=>by simp[Mq,A6 C n]
def ZK (C:List (Int×Int)):Prop:=C.length≤8∧∀ i,i<C.length→(C.getD i (0,0)).1=0∧1≤C_ C i∧C_ C i≤200
theorem TT {C:List (Int×Int)}(h:ZK C) (s:Nat):∀ n,n≤C.length→0≤Mq C s n∧Mq C s n≤200*n
 |0,_=>by simp[Mq]
 |n+1,hn=>by have ih:=TT h s n (by omega);have:=(h.2 n (by omega)).2;simp only[Mq];split<;>omega
theorem I9 {C:List (Int×Int)}(h:ZK C) {s i:Nat}(hs:s.testBit i=true):∀ n,n≤C.length→i<n→C_ C i≤Mq C s n
 |n+1,hn,hi=>by
  have b:=TT h s n (by omega);have c:=(h.2 n (by omega)).2;simp only[Mq];by_cases e:i=n
  ·subst e;rw[hs,if_pos rfl];omega
  ·have:=I9 h hs n (by omega) (by omega);split<;>omega
def WR (C:List (Int×Int)) (s:Nat):Nat→Int×Int×Int
 |0=>(0,0,-1)
 |i+1=>if s.testBit i=true then (if (decide ((WR C s i).2.2<0)||decide (Mq C s C.length<(WR C s i).2.2))=true then ((i:Int),Mq C s C.length-C_ C i,Mq C s C.length) else WR C s i) else WR C s i
theorem CQ {C:List (Int×Int)}(h:ZK C) (s:Nat):∀ i,i≤C.length→(WR C s i=(0,0,-1)∧∀ j,j<i→s.testBit j=false)∨∃ j,j<i∧s.testBit j=true∧WR C s i=((j:Int),Mq C s C.length-C_ C j,Mq C s C.length)
 |0,_=>.inl ⟨rfl,fun j hj=>by omega⟩
 |i+1,hi=>by
  have b:=TT h s C.length (Nat.le_refl _);unfold WR;by_cases hb:s.testBit i=true
  ·rw[if_pos hb];rcases CQ h s i (by omega) with⟨e,n⟩|⟨j,j1,j2,e⟩
   ·rw[e,if_pos (by simp)];exact .inr ⟨i,by omega,hb,rfl⟩
   ·rw[e,if_neg (by simp;omega)];exact .inr ⟨j,by omega,j2,rfl⟩
  ·rw[if_neg hb];rcases CQ h s i (by omega) with⟨e,n⟩|⟨j,j1,j2,e⟩
   ·refine .inl ⟨e,fun j hj=>?_⟩;by_cases ej:j=i
    ·subst ej;simpa using hb
    ·exact n j (by omega)
   ·exact .inr ⟨j,by omega,j2,e⟩
def KT (C:List (Int×Int)) (s:Nat):Int×Int×Int:=if s=0 then (0,0,0) else WR C s C.length
def Q1 (C:List (Int×Int)):List (Int×Int×Int):=(List.range (2 ^ C.length)).map (KT C)
theorem Gw {C:List (Int×Int)}(h:ZK C) {s:Nat}(hs:s<2 ^ C.length):(KT C s).2.2=Mq C s C.length∧(0<s→∃ j,j<C.length∧s.testBit j=true∧KT C s=((j:Int),Mq C s C.length-C_ C j,Mq C s C.length)):=by
 by_cases e:s=0
 ·subst e;exact⟨by simp[KT,A6],fun h=>by omega⟩
 ·have hp:KT C s=WR C s C.length:=by unfold KT;rw[if_neg e]
  rcases CQ h s C.length (Nat.le_refl _) with⟨_,n⟩|⟨j,j1,j2,e2⟩
  ·exfalso;refine e (Nat.eq_of_testBit_eq fun i=>?_);rw[Nat.zero_testBit];by_cases hi:i<C.length
   ·exact n i hi
   ·exact Nat.testBit_lt_two_pow (Nat.lt_of_lt_of_le hs (Nat.pow_le_pow_right (by omega) (by omega)))
  ·rw[hp,e2];exact⟨rfl,fun _=>⟨j,j1,j2,rfl⟩⟩
theorem Hv (C:List (Int×Int)):(Q1 C).length=2 ^ C.length:=by simp[Q1]
theorem Ry {C:List (Int×Int)}{s:Nat}(h:s<2 ^ C.length):(Q1 C).getD s (0,0,0)=KT C s:=by rw[Q6 (by rw[Hv];exact h)];simp[Q1]
def G7 (C:List (Int×Int)):Int:=(C.map (·.2)).sum
theorem Iv (C:List (Int×Int)):∀ n,n≤C.length→∀ s,(∀ j,j<n→s.testBit j=true)→Mq C s n=((C.take n).map (·.2)).sum
 |0,_,_,_=>by simp[Mq]
 |n+1,hn,s,hs=>by simp only[Mq];rw[Iv C n (by omega) s fun j hj=>hs j (by omega),hs n (by omega),if_pos rfl,QX (show n<C.length by omega)];unfold C_;rw[Q6 (show n<C.length by omega),List.map_append,List.sum_append];simp only[List.map_cons,List.map_nil,List.sum_cons,List.sum_nil,Int.add_zero]
theorem TC (C:List (Int×Int)):Mq C (2 ^ C.length-1) C.length=G7 C:=by rw[Iv C C.length (Nat.le_refl _) _ fun j hj=>by rw[Nat.testBit_two_pow_sub_one,decide_eq_true hj],List.take_length];rfl
def Dn (re:Int) (c:Int×Int):Bool:=!(!([c.2].any fun n=>decide (n<1)||decide (200<n)))||!(!([c.1].any fun n=>decide (n<0)||decide (re-1<n)))
def Yt (L:List Lot):List (Int×Int):=L.map fun y=>(0,1+Int.tmod y.2.2 200)
def V3 (A:List (Int×Int)) (c:List Int):List (Int×Int):=c.map fun i=>A.getD i.toNat (0,0)
theorem WL (L:List Lot):(Yt L).length=L.length:=by simp[Yt]
theorem Q2h {L:List Lot}(hl:L.length≤7) (h:∀ y∈L,0≤y.2.2):ZK (Yt L):=by refine⟨by rw[WL];omega,fun i hi=>?_⟩;rw[WL] at hi;unfold C_;rw[Q6 (show i<(Yt L).length by rw[WL];exact hi)];simp only[Yt,List.getElem_map];have h0:=h L[i] (List.getElem_mem hi);have:=Int.tmod_nonneg 200 h0;have:=Int.tmod_lt_of_pos L[i].2.2 (show (0:Int)<200 by decide);exact⟨trivial,by omega,by omega⟩
theorem It {A:List (Int×Int)}(hA:ZK A) {c:List Int}(hc:∀ i∈c,0≤i∧i<A.length) (hl:c.length≤8):ZK (V3 A c):=by
 refine⟨by simpa [V3] using hl,fun i hi=>?_⟩;have hi:i<c.length:=by simpa [V3] using hi
 have e:(V3 A c).getD i (0,0)=A.getD (c[i]).toNat (0,0):=by rw[Q6 (show i<(V3 A c).length by simpa [V3] using hi)];simp[V3]
 unfold C_;rw[e];have:=hc c[i] (List.getElem_mem hi);exact hA.2 (c[i]).toNat (by omega)
theorem TM (x:Int×Int) (A:List (Int×Int)):G7 (x::A)=x.2+G7 A:=by simp[G7]
theorem F2 (A B:List (Int×Int)):G7 (A++B)=G7 A+G7 B:=by simp[G7]
theorem Q2j {A B:List (Int×Int)}(h:A.Perm B):G7 A=G7 B:=by
 induction h with
 |nil=>rfl
 |cons x _ ih=>rw[TM,TM,ih]
 |swap x y l=>simp only[TM];omega
 |trans _ _ h1 h2=>rw[h1,h2]
def B5 (A:List (Int×Int)) (C:List (List Int)):Nat→Int
 |0=>0
 |k+1=>B5 A C k+G7 (V3 A (C.getD k []))
theorem La (A:List (Int×Int)) (C:List (List Int)):∀ k,k≤C.length→B5 A C k=G7 (V3 A (C.take k).flatten)
 |0,_=>by simp[B5,V3,G7]
 |k+1,hk=>by unfold B5;rw[La A C k (by omega),QX (show k<C.length by omega),Q6 (show k<C.length by omega),List.flatten_append];unfold V3;rw[List.map_append,F2];simp
theorem Q4q {A:List (Int×Int)}{C:List (List Int)}(h:C.flatten.Perm ((List.range A.length).map fun (k:Nat)=>(k:Int))):B5 A C C.length=G7 A:=by
 rw[La A C _ (Nat.le_refl _),List.take_length];have e:(V3 A ((List.range A.length).map fun (k:Nat)=>(k:Int)))=A:=by unfold V3;rw[List.map_map];refine List.ext_getElem (by simp) fun i h1 h2=>?_;simp only[List.getElem_map,List.getElem_range,Function.comp_apply,Int.toNat_natCast];rw[Q6 h2]
 have hp:=Q2j (h.map fun i=>A.getD i.toNat (0,0));change G7 (V3 A _)=G7 (V3 A _) at hp;rw[e] at hp;exact hp
theorem E6 {n:Nat}{C:List (List Int)}(h:C.flatten.Perm ((List.range n).map fun (k:Nat)=>(k:Int))) {c:List Int}(hc:c∈C):c.length≤n∧∀ i∈c,0≤i∧i<n:=by
 refine⟨?_,fun i hi=>?_⟩
 ·have h1:=h.length_eq;rw[List.length_map,List.length_range] at h1;have h2:c.Sublist C.flatten:=List.sublist_flatten_of_mem hc;have:=h2.length_le;omega
 ·have:=h.mem_iff.1 (List.mem_flatten.2 ⟨c,hc,hi⟩);obtain⟨k,hk,rfl⟩:=List.mem_map.1 this;have:=List.mem_range.1 hk;omega
theorem ER {A:List (Int×Int)}(h:ZK A):0≤G7 A∧G7 A≤1600:=by have:=TT h (2 ^ A.length-1) A.length (Nat.le_refl _);rw[TC] at this;have:=h.1;omega
theorem Ig {A:List (Int×Int)}{C:List (List Int)}(hA:ZK A) (h:C.flatten.Perm ((List.range A.length).map fun (k:Nat)=>(k:Int))):∀ k,k≤C.length→0≤B5 A C k∧B5 A C k≤1600*k
 |0,_=>by simp[B5]
 |k+1,hk=>by
  have ih:=Ig hA h k (by omega);have hm:C.getD k []∈C:=by rw[Q6 (show k<C.length by omega)];exact List.getElem_mem _
  obtain⟨c1,c2⟩:=E6 h hm;have:=ER (It hA c2 (by have:=hA.1;omega));unfold B5;omega
def stF (C:List (Int×Int)):Nat→Nat→List Int→List Int
 |0,_,l=>l
 |f+1,s,l=>if s=0 then l else stF C f (EE s (KT C s).1.toNat) (l.set (KT C s).1.toNat (KT C s).2.1)
def R3 (C:List (Int×Int)):List Int:=stF C (2 ^ C.length) (2 ^ C.length-1) (List.replicate C.length 0)
theorem I1 (C:List (Int×Int)) (h:ZK C):∀ f g s l,s<2 ^ C.length→s≤f→s≤g→stF C f s l=stF C g s l
 |0,g,s,l,hs,h1,h2=>by
  have:s=0:=by omega
  subst this;cases g<;>simp[stF]
 |f+1,0,s,l,hs,h1,h2=>by
  have:s=0:=by omega
  subst this;simp[stF]
 |f+1,g+1,s,l,hs,h1,h2=>by
  unfold stF;by_cases e:s=0
  ·rw[if_pos e,if_pos e]
  ·rw[if_neg e,if_neg e];obtain⟨j,j1,j2,j3⟩:=(Gw h hs).2 (by omega);rw[j3];have:=Ca j2;exact I1 C h f g _ _ (by simp only[Int.toNat_natCast];omega) (by simp only[Int.toNat_natCast];omega) (by simp only[Int.toNat_natCast];omega)
theorem Q4p {C:List (Int×Int)}(h:ZK C) {s:Nat}(hs:s<2 ^ C.length) (h0:0<s) (l:List Int):stF C (2 ^ C.length) s l=stF C (2 ^ C.length) (EE s (KT C s).1.toNat) (l.set (KT C s).1.toNat (KT C s).2.1):=by
 obtain⟨j,j1,j2,j3⟩:=(Gw h hs).2 h0;have aj:=Ca j2;have hj:(KT C s).1.toNat=j:=by rw[j3];rfl
 have e:2 ^ C.length=(2 ^ C.length-1)+1:=by have:=Nat.one_le_two_pow (n:=C.length);omega
 rw[e];conv=>lhs;unfold stF
 rw[if_neg (by omega),←e];exact I1 C h _ _ _ _ (by rw[hj];omega) (by rw[hj];omega) (by rw[hj];omega)
theorem Q0l {a b:Nat}(ha:a<2 ^ 62) (hb:b<2 ^ 62):Qd .and .i64 (a:Int) (b:Int)=((a &&& b:Nat):Int):=by
 have e:(BitVec.ofInt 64 ((a:Nat):Int) &&& BitVec.ofInt 64 ((b:Nat):Int)).toNat=a &&& b:=by rw[BitVec.toNat_and,BitVec.toNat_ofInt,BitVec.toNat_ofInt];congr 1<;>omega
 have aj:a &&& b≤a:=Nat.and_le_left;show IntKind.wrap .i64 ((BitVec.ofInt 64 ((a:Nat):Int) &&& BitVec.ofInt 64 ((b:Nat):Int)).toNat:Int)=_;rw[e];generalize a &&& b=c at *
 simp[IntKind.wrap,IntKind.bits,IntKind.signed];omega
theorem Q1x {x i:Nat}(hx:x<2 ^ 62) (hi:i≤64):(Qd .and .i64 (Z9 .i64 (x:Int) (i:Int)) 1==0)=!x.testBit i:=by
 have:Nat.min i 64=i:=Nat.min_eq_left hi;have e1:Z9 .i64 (x:Int) i=((x >>> i:Nat):Int):=by simp only[Z9,Int.toNat_natCast,IntKind.bits,this];rw[Nat.shiftRight_eq_div_pow,Int.fdiv_eq_ediv_of_nonneg _ (Int.le_of_lt (Int.pow_pos (by omega)))];norm_cast
 have h1:x >>> i≤x:=by rw[Nat.shiftRight_eq_div_pow];exact Nat.div_le_self _ _
 rw[e1,show (1:Int)=((1:Nat):Int) from rfl,Q0l (by omega) (by omega),Nat.testBit];rw[Bool.eq_iff_iff];simp only[beq_iff_eq,Bool.not_eq_true',bne_eq_false_iff_eq];rw[Nat.and_comm,Nat.one_and_eq_mod_two];omega
def plW (C:List (Int×Int)) (s:Nat):List (Int×Int×Int):=(List.range (2 ^ C.length)).map fun t=>if t<s then KT C t else (0,0,0)
theorem Fy (C:List (Int×Int)) (s:Nat):(plW C s).length=2 ^ C.length:=by simp[plW]
theorem Q99 {C:List (Int×Int)}{s t:Nat}(h:t<2 ^ C.length):(plW C s).getD t (0,0,0)=if t<s then KT C t else (0,0,0):=by rw[Q6 (by rw[Fy];exact h)];simp[plW]
theorem Q7g (C:List (Int×Int)):plW C 1=List.replicate (2 ^ C.length) (0,0,0):=by
 refine List.ext_getElem (by simp[plW]) fun i h1 h2=>?_;simp only[plW,List.getElem_map,List.getElem_range,List.getElem_replicate];by_cases h:i<1
 ·have:i=0:=by omega
  subst this;rw[if_pos h];unfold KT;rw[if_pos rfl]
 ·rw[if_neg h]
theorem Q6n {C:List (Int×Int)}{s:Nat}:(plW C s).set s (KT C s)=plW C (s+1):=by
 refine List.ext_getElem (by simp[plW]) fun i h1 h2=>?_;rw[List.getElem_set];simp only[plW,List.getElem_map,List.getElem_range];by_cases e:s=i
 ·subst e;rw[if_pos rfl,if_pos (by omega)]
 ·rw[if_neg e];by_cases h3:i<s
  ·rw[if_pos h3,if_pos (by omega)]
  ·rw[if_neg h3,if_neg (by omega)]
theorem Q51 (C:List (Int×Int)):plW C (2 ^ C.length)=Q1 C:=by refine List.ext_getElem (by simp[plW,Q1]) fun i h1 h2=>?_;simp only[plW,Q1,List.getElem_map,List.getElem_range];rw[if_pos (by simpa [plW] using h1)]
theorem Aq {C:List (Int×Int)}(hC:ZK C):(C.any fun x1=>Dn 1 (x1.1,x1.2))=false:=by rw[List.any_eq_false];intro x hx;obtain⟨i,hi,rfl⟩:=List.getElem_of_mem hx;have h:=hC.2 i hi;unfold C_ at h;rw[Q6 hi] at h;unfold Dn;simp only[List.any_cons,List.any_nil,Bool.or_false,Bool.not_not,h.1];rw[decide_eq_false (show ¬ C[i].2<1 by omega),decide_eq_false (show ¬ 200<C[i].2 by omega)];decide
theorem Q0r {C:List (Int×Int)}(h:ZK C) (s:Nat):∀ n,n≤C.length→Mq C s n≤Mq C (2 ^ C.length-1) n
 |0,_=>by simp[Mq]
 |n+1,hn=>by have ih:=Q0r h s n (by omega);have c:=(h.2 n (by omega)).2;simp only[Mq];rw[Nat.testBit_two_pow_sub_one,decide_eq_true (show n<C.length by omega),if_pos rfl];split<;>omega
def mW (n s:Nat):List Int:=(List.range (2 ^ n)).map fun t=>if t<s then (if t=0 then 0 else 1) else 0
theorem A7 (n s:Nat):(mW n s).length=2 ^ n:=by simp[mW]
theorem Q3v {n s t:Nat}(h:t<2 ^ n):(mW n s).getD t 0=if t<s then (if t=0 then 0 else 1) else 0:=by rw[Q6 (by rw[A7];exact h)];simp[mW]
theorem Q9h (n:Nat):mW n 1=List.replicate (2 ^ n) 0:=by
 refine List.ext_getElem (by simp[mW]) fun i h1 h2=>?_;simp only[mW,List.getElem_map,List.getElem_range,List.getElem_replicate];by_cases h:i<1
 ·rw[if_pos h,if_pos (by omega)]
 ·rw[if_neg h]
theorem Z10 {n s:Nat}(h:1≤s):(mW n s).set s 1=mW n (s+1):=by
 refine List.ext_getElem (by simp[mW]) fun i h1 h2=>?_;rw[List.getElem_set];simp only[mW,List.getElem_map,List.getElem_range];by_cases e:s=i
 ·subst e;rw[if_pos rfl,if_pos (by omega),if_neg (by omega)]
 ·rw[if_neg e];by_cases h3:i<s
  ·rw[if_pos h3,if_pos (by omega:i<s+1)]
  ·rw[if_neg h3,if_neg (by omega:¬ i<s+1)]
end Go.Proofs.Tryz
namespace Go.Proofs.Tryz
open Go Go.V Go.Proofs
def NR:AL (Int×Int×Int):=(.cons (.k (.i .i64)) (.cons (.ptr (.one (.k (.i .i64)))) (.one (.ptr (.one (.k (.i .i64)))))))
def HH (d:Int×Int×Int):Prop:=True
def UT (d:Int×Int×Int):SV:=.val .bo (decide (d.1<d.2.1)||decide (d.2.2<d.1))
def Na (d:Int×Int×Int):List OB:=[]
def Vi:CSp:=Yo NR HH UT Na
def Km (n:Int) (a:Int) (b:Int):Prop :=
 (((decide (n<a))||(decide (n > b)))=(decide (n<a)||decide (b<n))∧(True))
def M7:Cx:=⟨[],[],13,[],0,[],[],[],[],false,[],[],[],[]⟩
def PC (n:Int) (a:Int) (b:Int):List (Nat×LoopAnn):=[]
theorem PD (d:Int×Int×Int):gwp (M7) (PC d.1 d.2.1 d.2.2) c62 0 (V8 [.tmp 4] (UT d) (Na d)) (Qr 13 (AL.can NR d))=Km d.1 d.2.1 d.2.2:=by kernel_rfl
abbrev Px:Prop:=OkC Tryz.prog 62 Vi
theorem PZ (h:∀ (n:Int) (a:Int) (b:Int),(True)→Km n a b):OkC Tryz.prog 62 Vi :=
 Z8 Q7z mixed (C:=M7) (V:=fun (d:Int×Int×Int)=>Km d.1 d.2.1 d.2.2) ⟨.nil,XsOk.nil,ItsOk.nil,YlOk.nil,IysOk.nil,XfOk.nil⟩ (PD) fun d hp=>h d.1 d.2.1 d.2.2 hp
theorem PA:Px:=PZ fun n a b _=>by exact⟨rfl,trivial⟩
def D3:AL (Int×Int×List Int):=(.cons (.k (.i .i64)) (.cons (.k (.i .i64)) (.one (.k (.list (.i .i64))))))
def R2 (d:Int×Int×List Int):Prop:=d.2.2.length≤1000000
def MV (d:Int×Int×List Int):SV:=.val .bo (!(d.2.2.any fun n=>decide (n<d.1)||decide (d.2.1<n)))
def Gk (d:Int×Int×List Int):List OB:=[]
def XQ:CSp:=Yo D3 R2 MV Gk
def UD (a:Int) (b:Int) (l:List Int):Prop :=
 (l.length≤1000000∧∀ x∈l,(fun (x1:Int)=>True) x)∧((!(l.any (fun (x1:Int)=>(decide (x1<a)||decide (b<x1)))))=(!(l.any fun n=>decide (n<a)||decide (b<n)))∧(True))
def D2:Cx:=⟨[],[(61,QO),(62,Vi)],11,[],0,[],[],[],[],false,[],[],[],[]⟩
def Sl (a:Int) (b:Int) (l:List Int):List (Nat×LoopAnn):=[]
theorem Sg (d:Int×Int×List Int):gwp (D2) (Sl d.1 d.2.1 d.2.2) c37 0 (V8 [.tmp 6] (MV d) (Gk d)) (Qr 11 (AL.can D3 d))=UD d.1 d.2.1 d.2.2:=by kernel_rfl
abbrev SM:Prop:=OkC Tryz.prog 37 XQ
theorem SS (h:∀ (a:Int) (b:Int) (l:List Int),(l.length≤1000000)→UD a b l):OkC Tryz.prog 37 XQ :=
 Z8 Q8z mixed (C:=D2) (V:=fun (d:Int×Int×List Int)=>UD d.1 d.2.1 d.2.2) ⟨(.cons JH (.cons PA .nil)),XsOk.nil,ItsOk.nil,YlOk.nil,IysOk.nil,XfOk.nil⟩ (Sg) fun d hp=>h d.1 d.2.1 d.2.2 hp
theorem YS:SM:=SS fun a b l h=>by exact⟨⟨h,fun _ _=>trivial⟩,rfl,trivial⟩
def VK:AL ((Int×Int)×Int):=(.cons (.agg (.cons (.k (.i .i64)) (.one (.k (.i .i64))))) (.one (.ptr (.one (.k (.i .i64))))))
def GW (d:(Int×Int)×Int):Prop:=1≤d.2∧d.2≤100
def KB (d:(Int×Int)×Int):SV:=.val .bo (Dn d.2 (d.1.1,d.1.2))
def KD (d:(Int×Int)×Int):List OB:=[]
def Xk:CSp:=Yo VK GW KB KD
def JR (cb:Int) (cp:Int) (re:Int):Prop :=
 ([cp].length≤1000000)∧((!(!([cp].any fun n=>decide (n<(1:Int))||decide ((200:Int)<n))))=false→InK .i64 (re-(1:Int)))∧((!(!([cp].any fun n=>decide (n<(1:Int))||decide ((200:Int)<n))))=false→True)∧((!(!([cp].any fun n=>decide (n<(1:Int))||decide ((200:Int)<n))))=false→[cb].length≤1000000)∧(((!(!([cp].any fun n=>decide (n<(1:Int))||decide ((200:Int)<n))))||(!(!([cb].any fun n=>decide (n<(0:Int))||decide ((re-(1:Int))<n)))))=(Dn re (cb,cp))∧(True))
def Vl:Cx:=⟨[(3,(.i .i64))],[(37,XQ)],18,[],0,[],[],[],[],false,[],[],[],[]⟩
def D_ (cb:Int) (cp:Int) (re:Int):List (Nat×LoopAnn):=[]
theorem B4 (d:(Int×Int)×Int):gwp (Vl) (D_ d.1.1 d.1.2 d.2) c58 0 (V8 [.tmp 3] (KB d) (KD d)) (Qr 18 (AL.can VK d))=JR d.1.1 d.1.2 d.2:=by kernel_rfl
abbrev DQ:Prop:=OkC Tryz.prog 58 Xk
theorem Du (h:∀ (cb:Int) (cp:Int) (re:Int),(1≤re∧re≤100)→JR cb cp re):OkC Tryz.prog 58 Xk :=
 Z8 Q89 mixed (C:=Vl) (V:=fun (d:(Int×Int)×Int)=>JR d.1.1 d.1.2 d.2) ⟨(.cons YS .nil),XsOk.nil,ItsOk.nil,YlOk.nil,IysOk.nil,XfOk.nil⟩ (B4) fun d hp=>h d.1.1 d.1.2 d.2 hp
theorem Vy:DQ:=Du fun cb cp re h=>by
 unfold JR;(try delta lI gD sT I64);refine⟨by simp,fun _=>?_,fun _=>trivial,fun _=>by simp,?_⟩
 ·rw[Qj];omega
 ·and_intros<;>first|rfl|trivial
def Z2:AL ((List (Int×Int))×((Int×Int→Prop)×(Int×Int→Bool))):=(.cons (.k (.list (.pair (.i .i64) (.i .i64)))) (.one (.fn [(.pair (.i .i64) (.i .i64))] .bo)))
def JF (d:(List (Int×Int))×((Int×Int→Prop)×(Int×Int→Bool))):Prop:=d.1.length≤1000000∧∀ x∈d.1,d.2.1 x
def Z0 (d:(List (Int×Int))×((Int×Int→Prop)×(Int×Int→Bool))):SV:=.val (.i .i64) (FE d.1 d.2.2)
def Q_ (d:(List (Int×Int))×((Int×Int→Prop)×(Int×Int→Bool))):List OB:=[]
def Qu:CSp:=Yo Z2 JF Z0 Q_
def Qi (l:List (Int×Int)) (p:(Int×Int→Prop)×(Int×Int→Bool)):Prop :=
 ∃ (e2:Unit) (d20:Int),((l=l∧(SV.pf [(.pair (.i .i64) (.i .i64))] .bo p.1 p.2=SV.pf [(.pair (.i .i64) (.i .i64))] .bo p.1 p.2)∧(lI l)=(lI l)∧(0:Int)=d20∧True)∧(True)) ∧
 LoopP (fun (d2:Int) (q2:(Int)→Prop) =>
  ((decide (d2<(lI l)))=true →
   (0≤d2)∧(d2<(List.length l))∧(p.1 ((gD l d2 (0,0)).1,(gD l d2 (0,0)).2))∧((p.2 ((gD l d2 (0,0)).1,(gD l d2 (0,0)).2))=true →
    (d2=(FE l p.2)∧(True))) ∧
   ((p.2 ((gD l d2 (0,0)).1,(gD l d2 (0,0)).2))=false →
    (I64 (d2+(1:Int)))∧(∃ d3:Int,((l=l∧(SV.pf [(.pair (.i .i64) (.i .i64))] .bo p.1 p.2=SV.pf [(.pair (.i .i64) (.i .i64))] .bo p.1 p.2)∧(lI l)=(lI l)∧(d2+(1:Int))=d3∧True)∧(True))∧q2 d3))) ∧
  ((decide (d2<(lI l)))=false →
   ((-1:Int)=(FE l p.2)∧(True)))) d20
def Z7:Cx:=⟨[],[],19,[],0,[],[],[],[],false,[],[],[],[]⟩
def JS (l:List (Int×Int)) (p:(Int×Int→Prop)×(Int×Int→Bool)):List (Nat×LoopAnn):=[(0,⟨Unit,Int,[0,1,7,8],fun e x=>[.val (.list (.pair (.i .i64) (.i .i64))) l,.pf [(.pair (.i .i64) (.i .i64))] .bo p.1 p.2,.val (.i .i64) (((List.length l):Nat):Int),.val (.i .i64) x],fun e x=>[]⟩)]
theorem X3 (d:(List (Int×Int))×((Int×Int→Prop)×(Int×Int→Bool))):gwp (Z7) (JS d.1 d.2) c88 0 (V8 [.tmp 4] (Z0 d) (Q_ d)) (Qr 19 (AL.can Z2 d))=Qi d.1 d.2:=by kernel_rfl
abbrev JW:Prop:=OkC Tryz.prog 88 Qu
theorem JQ (h:∀ (l:List (Int×Int)) (p:(Int×Int→Prop)×(Int×Int→Bool)),(l.length≤1000000∧∀ x∈l,p.1 x)→Qi l p):OkC Tryz.prog 88 Qu :=
 Z8 Z0t mixed (C:=Z7) (V:=fun (d:(List (Int×Int))×((Int×Int→Prop)×(Int×Int→Bool)))=>Qi d.1 d.2) ⟨.nil,XsOk.nil,ItsOk.nil,YlOk.nil,IysOk.nil,XfOk.nil⟩ (X3) fun d hp=>h d.1 d.2 hp
theorem X2:JW:=JQ fun l p hp=>by
 unfold Qi;(try delta lI gD sT I64);simp only[true_and,and_true,exists_eq_left',exists_const,decide_eq_true_eq,decide_eq_false_iff_not];refine LoopP.count l.length (fun k=>(l.take k).any p.2=false) (by simp) fun k bn hJ q hq=>?_;simp only[Int.toNat_natCast,Int.ofNat_lt,Qj];refine⟨fun aj=>?_,fun bC=>?_⟩
 ·have aj:k<l.length:=by omega
  rw[Q6 aj];refine⟨by omega,by omega,hp.2 _ (List.getElem_mem aj),fun hx=>?_,fun hx=>⟨by omega,hq aj ?_⟩⟩
  ·rw[Aa aj hx hJ]
  ·rw[QX aj,List.any_append,hJ];simp[hx]
 ·rw[List.take_of_length_le (by omega)] at hJ;rw[Rv hJ]
def QS:AL ((List (Int×Int))×((Int×Int→Prop)×(Int×Int→Bool))):=(.cons (.k (.list (.pair (.i .i64) (.i .i64)))) (.one (.fn [(.pair (.i .i64) (.i .i64))] .bo)))
def J9 (d:(List (Int×Int))×((Int×Int→Prop)×(Int×Int→Bool))):Prop:=d.1.length≤1000000∧∀ x∈d.1,d.2.1 x
def QL (d:(List (Int×Int))×((Int×Int→Prop)×(Int×Int→Bool))):SV:=.val .bo (d.1.any d.2.2)
def QM (d:(List (Int×Int))×((Int×Int→Prop)×(Int×Int→Bool))):List OB:=[]
def Qf:CSp:=Yo QS J9 QL QM
def Qc (l:List (Int×Int)) (p:(Int×Int→Prop)×(Int×Int→Bool)):Prop :=
 (l.length≤1000000∧∀ x∈l,(fun (x1:Int×Int)=>p.1 (x1.1,x1.2)) x)∧((decide ((FE l (fun (x1:Int×Int)=>(p.2 (x1.1,x1.2))))≥(0:Int)))=(l.any p.2)∧(True))
def QP:Cx:=⟨[],[(88,Qu)],9,[],0,[],[],[],[],false,[],[],[],[]⟩
def Jm (l:List (Int×Int)) (p:(Int×Int→Prop)×(Int×Int→Bool)):List (Nat×LoopAnn):=[]
theorem Jk (d:(List (Int×Int))×((Int×Int→Prop)×(Int×Int→Bool))):gwp (QP) (Jm d.1 d.2) c59 0 (V8 [.tmp 4] (QL d) (QM d)) (Qr 9 (AL.can QS d))=Qc d.1 d.2:=by kernel_rfl
abbrev Jh:Prop:=OkC Tryz.prog 59 Qf
theorem Jl (h:∀ (l:List (Int×Int)) (p:(Int×Int→Prop)×(Int×Int→Bool)),(l.length≤1000000∧∀ x∈l,p.1 x)→Qc l p):OkC Tryz.prog 59 Qf :=
 Z8 Z0j mixed (C:=QP) (V:=fun (d:(List (Int×Int))×((Int×Int→Prop)×(Int×Int→Bool)))=>Qc d.1 d.2) ⟨(.cons X2 .nil),XsOk.nil,ItsOk.nil,YlOk.nil,IysOk.nil,XfOk.nil⟩ (Jk) fun d hp=>h d.1 d.2 hp
theorem QR:Jh:=Jl fun l p hp=>by simp only[Qc];exact⟨hp,Ix l p.2,trivial⟩
def KL:AL ((Int×List Int×List (Int×Int))×Int×Int×Int):=(.cons (.agg (.cons (.k (.i .i64)) (.cons (.k (.list (.i .i64))) (.one (.k (.list (.pair (.i .i64) (.i .i64)))))))) (.cons (.k (.i .i64)) (.one (.agg (.cons (.k (.i .i64)) (.one (.k (.i .i64))))))))
def MO (d:(Int×List Int×List (Int×Int))×Int×Int×Int):Prop:=d.1.1=1∧d.1.2.1=[]∧d.2.2.1=0∧0≤d.2.1∧d.2.1≤1000000∧1≤d.2.2.2∧d.2.2.2≤200∧d.1.2.2.length≤1000
def K7 (d:(Int×List Int×List (Int×Int))×Int×Int×Int):SV:=.val (.i .i64) d.2.1
def Ki (d:(Int×List Int×List (Int×Int))×Int×Int×Int):List OB:=[]
def Ww:CSp:=Yo KL MO K7 Ki
def Jr (re:Int) (bd:List Int) (C:List (Int×Int)) (fr:Int) (cb:Int) (cp:Int):Prop :=
 ∃ (e3:Unit) (d30:Int),((True∧True∧fr=d30∧True)∧((re=re∧bd=bd∧C=C∧(([]:List SV)=[]))∧(cb=cb∧cp=cp∧(([]:List SV)=[]))∧True)) ∧
 LoopP (fun (d3:Int) (q3:(Int)→Prop) =>
  (I64 (cb+re))∧(re≠0)∧(I64 ((cb+re)-(Int.tmod d3 re)))∧(re≠0)∧(I64 (d3+(Int.tmod ((cb+re)-(Int.tmod d3 re)) re)))∧∃ (e6:Int) (d60:Int×Int),((True∧True∧(d3+(Int.tmod ((cb+re)-(Int.tmod d3 re)) re))=e6∧(-1:Int)=d60.1∧bd=bd∧(lI bd)=(lI bd)∧(0:Int)=d60.2∧True)∧((re=re∧bd=bd∧C=C∧(([]:List SV)=[]))∧(cb=cb∧cp=cp∧(([]:List SV)=[]))∧True)) ∧
  LoopP (fun (d6:Int×Int) (q6:(Int×Int)→Prop) =>
   ((decide (d6.2<(lI bd)))=true →
    (0≤d6.2)∧(d6.2<(List.length bd))∧((decide ((gD bd d6.2 0)≥e6))=true→InK .i64 (e6+cp))∧(((decide ((gD bd d6.2 0)≥e6))&&(decide ((gD bd d6.2 0)<(e6+cp))))=true →
     (I64 (d6.2+(1:Int)))∧(∃ d7:Int×Int,((True∧True∧e6=e6∧(gD bd d6.2 0)=d7.1∧bd=bd∧(lI bd)=(lI bd)∧(d6.2+(1:Int))=d7.2∧True)∧((re=re∧bd=bd∧C=C∧(([]:List SV)=[]))∧(cb=cb∧cp=cp∧(([]:List SV)=[]))∧True))∧q6 d7)) ∧
    (((decide ((gD bd d6.2 0)≥e6))&&(decide ((gD bd d6.2 0)<(e6+cp))))=false →
     (I64 (d6.2+(1:Int)))∧(∃ d8:Int×Int,((True∧True∧e6=e6∧d6.1=d8.1∧bd=bd∧(lI bd)=(lI bd)∧(d6.2+(1:Int))=d8.2∧True)∧((re=re∧bd=bd∧C=C∧(([]:List SV)=[]))∧(cb=cb∧cp=cp∧(([]:List SV)=[]))∧True))∧q6 d8))) ∧
   ((decide (d6.2<(lI bd)))=false →
    ((decide (d6.1<(0:Int)))=true →
     (e6=fr∧(True))) ∧
    ((decide (d6.1<(0:Int)))=false →
     (I64 (d6.1+(1:Int)))∧(∃ d9:Int,((True∧True∧(d6.1+(1:Int))=d9∧True)∧((re=re∧bd=bd∧C=C∧(([]:List SV)=[]))∧(cb=cb∧cp=cp∧(([]:List SV)=[]))∧True))∧q3 d9)))) d60) d30
def KE:Cx:=⟨[],[],53,[],0,[],[],[],[],false,[],[],[],[]⟩
def GZ (re:Int) (bd:List Int) (C:List (Int×Int)) (fr:Int) (cb:Int) (cp:Int):List (Nat×LoopAnn):=[(0,⟨Unit,Int,[3,5,7],fun e x=>[.box 3 0,.box 5 0,.val (.i .i64) x],fun e x=>[(3,.slot 3,.cells [.val (.i .i64) re,.val (.list (.i .i64)) bd,.val (.list (.pair (.i .i64) (.i .i64))) C] (some 113)),(5,.slot 5,.cells [.val (.i .i64) cb,.val (.i .i64) cp] (some 68))]⟩),
 (2,⟨Int,Int×Int,[3,5,7,8,30,31,32],fun e x=>[.box 3 0,.box 5 0,.val (.i .i64) e,.val (.i .i64) x.1,.val (.list (.i .i64)) bd,.val (.i .i64) (((List.length bd):Nat):Int),.val (.i .i64) x.2],fun e x=>[(3,.slot 3,.cells [.val (.i .i64) re,.val (.list (.i .i64)) bd,.val (.list (.pair (.i .i64) (.i .i64))) C] (some 113)),(5,.slot 5,.cells [.val (.i .i64) cb,.val (.i .i64) cp] (some 68))]⟩)]
theorem GX (d:(Int×List Int×List (Int×Int))×Int×Int×Int):gwp (KE) (GZ d.1.1 d.1.2.1 d.1.2.2 d.2.1 d.2.2.1 d.2.2.2) c60 0 (V8 [.tmp 6] (K7 d) (Ki d)) (Qr 53 (AL.can KL d))=Jr d.1.1 d.1.2.1 d.1.2.2 d.2.1 d.2.2.1 d.2.2.2:=by kernel_rfl
abbrev GO:Prop:=OkC Tryz.prog 60 Ww
theorem GP (h:∀ (re:Int) (bd:List Int) (C:List (Int×Int)) (fr:Int) (cb:Int) (cp:Int),(re=1∧bd=[]∧cb=0∧0≤fr∧fr≤1000000∧1≤cp∧cp≤200∧C.length≤1000)→Jr re bd C fr cb cp):OkC Tryz.prog 60 Ww :=
 Z8 Z0b mixed (C:=KE) (V:=fun (d:(Int×List Int×List (Int×Int))×Int×Int×Int)=>Jr d.1.1 d.1.2.1 d.1.2.2 d.2.1 d.2.2.1 d.2.2.2) ⟨.nil,XsOk.nil,ItsOk.nil,YlOk.nil,IysOk.nil,XfOk.nil⟩ (GX) fun d hp=>h d.1.1 d.1.2.1 d.1.2.2 d.2.1 d.2.2.1 d.2.2.2 hp
theorem GU:GO:=GP fun re bd C fr cb cp h=>by
 obtain⟨rfl,rfl,rfl,h1,h2,h3,h4,h5⟩:=h;unfold Jr;(try delta lI gD sT I64);refine⟨(),fr,by and_intros<;>first|rfl|trivial,?_⟩;refine⟨fun d=>d=fr,fun d=>0,rfl,?_⟩;intro d hd;rw[hd];have t0:Int.tmod fr 1=0:=by rw[Int.tmod_eq_emod_of_nonneg h1];omega
 have t1:Int.tmod (0+1-Int.tmod fr 1) 1=0:=by rw[t0];decide
 rw[t1,t0];refine⟨by rw[Qj];omega,by decide,by rw[Qj];omega,by decide,by rw[Qj];omega,fr,(-1,0),by and_intros<;>first|rfl|trivial|omega,?_⟩;refine⟨fun d=>d=(-1,0),fun d=>0,rfl,?_⟩;rintro _ rfl;dsimp only;refine⟨fun c=>by simp at c,fun _=>⟨fun _=>?_,fun c=>by simp at c⟩⟩;and_intros<;>first|rfl|trivial
def KI:AL (Int×List Int×List (Int×Int)):=(.one (.agg (.cons (.k (.i .i64)) (.cons (.k (.list (.i .i64))) (.one (.k (.list (.pair (.i .i64) (.i .i64)))))))))
def MF (d:Int×List Int×List (Int×Int)):Prop:=d.1=1∧d.2.1=[]∧ZK d.2.2
def K6 (d:Int×List Int×List (Int×Int)):SV:=.lst 0
def K3 (d:Int×List Int×List (Int×Int)):List OB:=[.lst 119 (.pair (.i .i64) (.pair (.i .i64) (.i .i64))) (Q1 d.2.2) false]
def JV:CSp:=Yo KI MF K6 K3
def Jo (re:Int) (bd:List Int) (C:List (Int×Int)):Prop :=
 (0≤(lI C))∧(I64 (Qo .i64 (1:Int) (lI C)))∧(0≤(Qo .i64 (1:Int) (lI C)))∧((Qo .i64 (1:Int) (lI C))≤(Qo .i64 (1:Int) (lI C)))∧((Qo .i64 (1:Int) (lI C))*24≤70368744177664)∧((Qo .i64 (1:Int) (lI C))≤70368744177664)∧∃ (e3:Unit) (d30:(List (Int×Int×Int))×Int),((True∧True∧(1:Int)=d30.2∧True)∧((re=re∧bd=bd∧C=C∧(([]:List SV)=[]))∧((List.replicate (Int.toNat (Qo .i64 (1:Int) (lI C))) ((0,(0,0)):Int×Int×Int))=d30.1∧false=false)∧True)) ∧
 LoopP (fun (d3:(List (Int×Int×Int))×Int) (q3:((List (Int×Int×Int))×Int)→Prop) =>
  ((decide (d3.2<(lI d3.1)))=true →
   ∃ (e6:(List (Int×Int×Int))×Int) (d60:Int×Int×Int×Int),((True∧True∧d3.2=e6.2∧True∧C=C∧(lI C)=(lI C)∧(0:Int)=d60.2.2.2∧True)∧((re=re∧bd=bd∧C=C∧(([]:List SV)=[]))∧(d3.1=e6.1∧false=false)∧((0:Int)=d60.1∧(0:Int)=d60.2.1∧(-1:Int)=d60.2.2.1∧(([]:List SV)=[]))∧True)) ∧
   LoopP (fun (d6:Int×Int×Int×Int) (q6:(Int×Int×Int×Int)→Prop) =>
    ((decide (d6.2.2.2<(lI C)))=true →
     (0≤d6.2.2.2)∧(d6.2.2.2<(List.length C))∧(0≤d6.2.2.2)∧(((Qd .and .i64 (Z9 .i64 e6.2 d6.2.2.2) (1:Int))==(0:Int))=true →
      (I64 (d6.2.2.2+(1:Int)))∧(∃ d7:Int×Int×Int×Int,((True∧True∧e6.2=e6.2∧True∧C=C∧(lI C)=(lI C)∧(d6.2.2.2+(1:Int))=d7.2.2.2∧True)∧((re=re∧bd=bd∧C=C∧(([]:List SV)=[]))∧(e6.1=e6.1∧false=false)∧(d6.1=d7.1∧d6.2.1=d7.2.1∧d6.2.2.1=d7.2.2.1∧(([]:List SV)=[]))∧True))∧q6 d7)) ∧
     (((Qd .and .i64 (Z9 .i64 e6.2 d6.2.2.2) (1:Int))==(0:Int))=false →
      (0≤d6.2.2.2)∧(I64 (Qo .i64 (1:Int) d6.2.2.2))∧(0≤(Qd .andNot .i64 e6.2 (Qo .i64 (1:Int) d6.2.2.2)))∧((Qd .andNot .i64 e6.2 (Qo .i64 (1:Int) d6.2.2.2))<(List.length e6.1))∧(re=1∧bd=[]∧((gD C d6.2.2.2 (0,0)).1)=0∧0≤((gD e6.1 (Qd .andNot .i64 e6.2 (Qo .i64 (1:Int) d6.2.2.2)) (0,(0,0))).2.2)∧((gD e6.1 (Qd .andNot .i64 e6.2 (Qo .i64 (1:Int) d6.2.2.2)) (0,(0,0))).2.2)≤1000000∧1≤((gD C d6.2.2.2 (0,0)).2)∧((gD C d6.2.2.2 (0,0)).2)≤200∧C.length≤1000)∧((True∧True∧e6.2=e6.2∧True∧True∧True∧C=C∧(lI C)=(lI C)∧d6.2.2.2=d6.2.2.2∧(d6.2.2.2=d6.2.2.2∧((gD e6.1 (Qd .andNot .i64 e6.2 (Qo .i64 (1:Int) d6.2.2.2)) (0,(0,0))).2.2)=((gD e6.1 (Qd .andNot .i64 e6.2 (Qo .i64 (1:Int) d6.2.2.2)) (0,(0,0))).2.2)∧(0:Int)=(0:Int)∧(([]:List SV)=[]))∧True)∧((re=re∧bd=bd∧C=C∧(([]:List SV)=[]))∧(d6.1=d6.1∧d6.2.1=d6.2.1∧d6.2.2.1=d6.2.2.1∧(([]:List SV)=[]))∧((gD C d6.2.2.2 (0,0)).1=(gD C d6.2.2.2 (0,0)).1∧(gD C d6.2.2.2 (0,0)).2=(gD C d6.2.2.2 (0,0)).2∧(([]:List SV)=[]))∧((0:Int)=(0:Int)∧(0:Int)=(0:Int)∧(0:Int)=(0:Int)∧(([]:List SV)=[]))∧(e6.1=e6.1∧false=false)∧True))∧((0≤d6.2.2.2)∧(I64 (Qo .i64 (1:Int) d6.2.2.2))∧(0≤(Qd .andNot .i64 e6.2 (Qo .i64 (1:Int) d6.2.2.2)))∧((Qd .andNot .i64 e6.2 (Qo .i64 (1:Int) d6.2.2.2))<(List.length e6.1))∧(re=1∧bd=[]∧((gD C d6.2.2.2 (0,0)).1)=0∧0≤((gD e6.1 (Qd .andNot .i64 e6.2 (Qo .i64 (1:Int) d6.2.2.2)) (0,(0,0))).2.2)∧((gD e6.1 (Qd .andNot .i64 e6.2 (Qo .i64 (1:Int) d6.2.2.2)) (0,(0,0))).2.2)≤1000000∧1≤((gD C d6.2.2.2 (0,0)).2)∧((gD C d6.2.2.2 (0,0)).2)≤200∧C.length≤1000)∧((True∧True∧e6.2=e6.2∧True∧True∧True∧C=C∧(lI C)=(lI C)∧d6.2.2.2=d6.2.2.2∧(d6.2.2.2=d6.2.2.2∧((gD e6.1 (Qd .andNot .i64 e6.2 (Qo .i64 (1:Int) d6.2.2.2)) (0,(0,0))).2.2)=((gD e6.1 (Qd .andNot .i64 e6.2 (Qo .i64 (1:Int) d6.2.2.2)) (0,(0,0))).2.2)∧(0:Int)=(0:Int)∧(([]:List SV)=[]))∧True)∧((re=re∧bd=bd∧C=C∧(([]:List SV)=[]))∧(d6.1=d6.1∧d6.2.1=d6.2.1∧d6.2.2.1=d6.2.2.1∧(([]:List SV)=[]))∧((gD C d6.2.2.2 (0,0)).1=(gD C d6.2.2.2 (0,0)).1∧(gD C d6.2.2.2 (0,0)).2=(gD C d6.2.2.2 (0,0)).2∧(([]:List SV)=[]))∧((0:Int)=(0:Int)∧(0:Int)=(0:Int)∧(0:Int)=(0:Int)∧(([]:List SV)=[]))∧(e6.1=e6.1∧false=false)∧True)))∧(I64 (((gD e6.1 (Qd .andNot .i64 e6.2 (Qo .i64 (1:Int) d6.2.2.2)) (0,(0,0))).2.2)+(gD C d6.2.2.2 (0,0)).2))∧(((decide (d6.2.2.1<(0:Int)))||(decide ((((gD e6.1 (Qd .andNot .i64 e6.2 (Qo .i64 (1:Int) d6.2.2.2)) (0,(0,0))).2.2)+(gD C d6.2.2.2 (0,0)).2)<d6.2.2.1)))=true →
       (I64 (d6.2.2.2+(1:Int)))∧(∃ d8:Int×Int×Int×Int,((True∧True∧e6.2=e6.2∧True∧C=C∧(lI C)=(lI C)∧(d6.2.2.2+(1:Int))=d8.2.2.2∧True)∧((re=re∧bd=bd∧C=C∧(([]:List SV)=[]))∧(e6.1=e6.1∧false=false)∧(d6.2.2.2=d8.1∧((gD e6.1 (Qd .andNot .i64 e6.2 (Qo .i64 (1:Int) d6.2.2.2)) (0,(0,0))).2.2)=d8.2.1∧(((gD e6.1 (Qd .andNot .i64 e6.2 (Qo .i64 (1:Int) d6.2.2.2)) (0,(0,0))).2.2)+(gD C d6.2.2.2 (0,0)).2)=d8.2.2.1∧(([]:List SV)=[]))∧True))∧q6 d8)) ∧
      (((decide (d6.2.2.1<(0:Int)))||(decide ((((gD e6.1 (Qd .andNot .i64 e6.2 (Qo .i64 (1:Int) d6.2.2.2)) (0,(0,0))).2.2)+(gD C d6.2.2.2 (0,0)).2)<d6.2.2.1)))=false →
       (I64 (d6.2.2.2+(1:Int)))∧(∃ d9:Int×Int×Int×Int,((True∧True∧e6.2=e6.2∧True∧C=C∧(lI C)=(lI C)∧(d6.2.2.2+(1:Int))=d9.2.2.2∧True)∧((re=re∧bd=bd∧C=C∧(([]:List SV)=[]))∧(e6.1=e6.1∧false=false)∧(d6.1=d9.1∧d6.2.1=d9.2.1∧d6.2.2.1=d9.2.2.1∧(([]:List SV)=[]))∧True))∧q6 d9)))) ∧
    ((decide (d6.2.2.2<(lI C)))=false →
     (0≤e6.2)∧(e6.2<(List.length e6.1))∧(I64 (e6.2+(1:Int)))∧(∃ d10:(List (Int×Int×Int))×Int,((True∧True∧(e6.2+(1:Int))=d10.2∧True)∧((re=re∧bd=bd∧C=C∧(([]:List SV)=[]))∧((sT e6.1 e6.2 (d6.1,(d6.2.1,d6.2.2.1)))=d10.1∧false=false)∧True))∧q3 d10))) d60) ∧
  ((decide (d3.2<(lI d3.1)))=false →
   (True∧((d3.1=(Q1 C)∧false=false)∧True)))) d30
def KH:Cx:=⟨[(119,(.pair (.i .i64) (.pair (.i .i64) (.i .i64))))],[(60,Ww)],70,[],0,[],[],[],[1,3,4,5,7,8,22,23,24,46],false,[],[],[],[]⟩
def GQ (re:Int) (bd:List Int) (C:List (Int×Int)):List (Nat×LoopAnn):=[(0,⟨Unit,(List (Int×Int×Int))×Int,[1,3,4],fun e x=>[.box 1 0,.lst 13,.val (.i .i64) x.2],fun e x=>[(1,.slot 1,.cells [.val (.i .i64) re,.val (.list (.i .i64)) bd,.val (.list (.pair (.i .i64) (.i .i64))) C] (some 113)),(13,.slot 3,.lst 119 (.pair (.i .i64) (.pair (.i .i64) (.i .i64))) x.1 false)]⟩),
 (2,⟨(List (Int×Int×Int))×Int,Int×Int×Int×Int,[1,3,4,5,22,23,24],fun e x=>[.box 1 0,.lst 13,.val (.i .i64) e.2,.box 5 0,.val (.list (.pair (.i .i64) (.i .i64))) C,.val (.i .i64) (((List.length C):Nat):Int),.val (.i .i64) x.2.2.2],fun e x=>[(1,.slot 1,.cells [.val (.i .i64) re,.val (.list (.i .i64)) bd,.val (.list (.pair (.i .i64) (.i .i64))) C] (some 113)),(13,.slot 3,.lst 119 (.pair (.i .i64) (.pair (.i .i64) (.i .i64))) e.1 false),(5,.slot 5,.cells [.val (.i .i64) x.1,.val (.i .i64) x.2.1,.val (.i .i64) x.2.2.1] (some 119))]⟩)]
theorem GY (d:Int×List Int×List (Int×Int)):gwp (KH) (GQ d.1 d.2.1 d.2.2) c36 0 (V8 [.tmp 2] (K6 d) (K3 d)) (Qr 70 (AL.can KI d))=Jo d.1 d.2.1 d.2.2:=by kernel_rfl
abbrev GH:Prop:=OkC Tryz.prog 36 JV
theorem GN (h:∀ (re:Int) (bd:List Int) (C:List (Int×Int)),(re=1∧bd=[]∧ZK C)→Jo re bd C):OkC Tryz.prog 36 JV :=
 Z8 Z07 mixed (C:=KH) (V:=fun (d:Int×List Int×List (Int×Int))=>Jo d.1 d.2.1 d.2.2) ⟨(.cons GU .nil),XsOk.nil,ItsOk.nil,YlOk.nil,IysOk.nil,XfOk.nil⟩ (GY) fun d hp=>h d.1 d.2.1 d.2.2 hp
theorem Kx:GH:=GN fun re bd C h=>by
 obtain⟨rfl,rfl,hC⟩:=h;unfold Jo;(try delta lI gD sT I64);have n8:=hC.1;have hp:(2:Nat) ^ C.length≤2 ^ 8:=Nat.pow_le_pow_right (by omega) n8;have gC:=Nat.one_le_two_pow (n:=C.length);have sh:=C7 (k:=C.length) (by omega);rw[sh,Int.toNat_natCast];refine⟨by omega,by rw[Qj];omega,by omega,by omega,by omega,by omega,(),(plW C 1,1),?_,?_⟩
 ·rw[Q7g];and_intros<;>first|rfl|trivial
 refine⟨fun d=>∃ s:Nat,1≤s∧s≤2 ^ C.length∧d=(plW C s,(s:Int)),fun d=>2 ^ C.length-d.2.toNat,⟨1,by omega,by omega,rfl⟩,?_⟩;rintro _ ⟨s,s1,s2,rfl⟩;dsimp only;simp only[Fy];refine⟨fun c=>?_,fun c=>?_⟩
 ·have hs:s<2 ^ C.length:=by have:=of_decide_eq_true c;omega
  refine⟨(plW C s,(s:Int)),(0,0,-1,0),by and_intros<;>first|rfl|trivial,?_⟩;refine⟨fun d=>∃ i:Nat,i≤C.length∧d=((WR C s i).1,(WR C s i).2.1,(WR C s i).2.2,(i:Int)),fun d=>C.length-d.2.2.2.toNat,⟨0,by omega,rfl⟩,?_⟩;rintro _ ⟨i,hi,rfl⟩;dsimp only;simp only[Fy];refine⟨fun c=>?_,fun c=>?_⟩
  ·have hi:i<C.length:=by have:=of_decide_eq_true c;omega
   rw[Q1x (by omega) (by omega)];refine⟨by omega,by omega,by omega,fun c2=>?_,fun c2=>?_⟩
   ·have hb:s.testBit i=false:=by simpa using c2
    have e:WR C s (i+1)=WR C s i:=by rw[WR,if_neg (by rw[hb];decide)]
    refine⟨by rw[Qj];omega,((WR C s (i+1)).1,(WR C s (i+1)).2.1,(WR C s (i+1)).2.2,(i:Int)+1),?_,⟨i+1,hi,rfl⟩,by dsimp only;omega⟩;rw[e];and_intros<;>first|rfl|trivial
   ·have hb:s.testBit i=true:=by simpa using c2
    have lt:=Ca hb;have p2:(2:Nat) ^ i≤2 ^ 8:=Nat.pow_le_pow_right (by omega) (by omega);have an:Qd .andNot .i64 (s:Int) ((2 ^ i:Nat):Int)=((EE s i:Nat):Int):=(HL (a:=s) (b:=2 ^ i) (by omega) (by omega)).1;have lk:=C7 (k:=i) (by omega);have bB:(plW C s).getD (EE s i) (0,0,0)=KT C (EE s i):=by rw[Q99 (by omega),if_pos lt]
    have hv:(KT C (EE s i)).2.2=Mq C s C.length-C_ C i:=by rw[(Gw hC (by omega)).1,I7 hb,if_pos hi]
    have cb:=hC.2 i hi;have b1:=TT hC s C.length (Nat.le_refl _);have b2:=I9 hC hb C.length (Nat.le_refl _) hi;have cc:(C.getD i (0,0)).2=C_ C i:=rfl;have e0:Mq C s C.length-C_ C i+C_ C i=Mq C s C.length:=by omega
    have step:WR C s (i+1)=if (decide ((WR C s i).2.2<0)||decide (Mq C s C.length<(WR C s i).2.2))=true then ((i:Int),Mq C s C.length-C_ C i,Mq C s C.length) else WR C s i:=by rw[WR,if_pos hb]
    simp only[lk,an,Int.toNat_natCast,bB,hv,cc,e0];have ik:InK .i64 ((2 ^ i:Nat):Int):=by
     clear an lk sh step;generalize (2:Nat) ^ i=P at *
     rw[Qj];omega
    repeat' (with_reducible refine And.intro ?_ ?_)
    all_goals first|exact ik|omega|(rw[Qj];omega)|with_reducible rfl|exact cb.1|trivial|skip
    ·intro c3;rw[c3,if_pos rfl] at step;refine⟨by rw[Qj];omega,((WR C s (i+1)).1,(WR C s (i+1)).2.1,(WR C s (i+1)).2.2,(i:Int)+1),?_,⟨i+1,hi,rfl⟩,by dsimp only;omega⟩;rw[step];and_intros<;>first|rfl|trivial
    ·intro c3;rw[c3,if_neg (by decide)] at step;refine⟨by rw[Qj];omega,((WR C s (i+1)).1,(WR C s (i+1)).2.1,(WR C s (i+1)).2.2,(i:Int)+1),?_,⟨i+1,hi,rfl⟩,by dsimp only;omega⟩;rw[step];and_intros<;>first|rfl|trivial
  ·have hi:i=C.length:=by have:=of_decide_eq_false c;omega
   subst hi;have e:KT C s=WR C s C.length:=by unfold KT;rw[if_neg (by omega)]
   refine⟨by omega,by omega,by rw[Qj];omega,(plW C (s+1),(s:Int)+1),?_,⟨s+1,by omega,by omega,rfl⟩,by dsimp only;omega⟩;rw[←Q6n,e,Int.toNat_natCast];and_intros<;>first|rfl|trivial
 ·have hs:s=2 ^ C.length:=by have:=of_decide_eq_false c;omega
  subst hs;rw[Q51];and_intros<;>first|rfl|trivial
def R7:AL (Int×List Int×List (Int×Int)):=(.cons (.k (.i .i64)) (.cons (.k (.list (.i .i64))) (.one (.k (.list (.pair (.i .i64) (.i .i64)))))))
def AX (d:Int×List Int×List (Int×Int)):Prop:=d.1=1∧d.2.1=[]∧ZK d.2.2
def Ph (d:Int×List Int×List (Int×Int)):SV:=.tup [.lst 0,.val (.i .i64) (G7 d.2.2),.val (.i .i64) (0:Int)]
def HX (d:Int×List Int×List (Int×Int)):List OB:=[.lst 3 (.i .i64) (R3 d.2.2) false]
def HI:CSp:=Yo R7 AX Ph HX
abbrev Ny:=fun (C:List (Int×Int)) (wF:Int) (nz:List (Int×Int))=>(( wF=1∧( [ ]:List Int )=[ ]∧ZK ( [ ]:List ( Int×Int ) ) )∧( I64 ( ( lI ( Q1 ( [ ]:List ( Int×Int ) ) ) )-( 1:Int ) ) )∧( 0≤( lI nz ) )∧( ( lI nz )≤( lI nz ) )∧( ( lI nz )*8≤70368744177664 )∧( ( lI nz )≤70368744177664 )∧∃ ( xp:Unit ) ( r6:( List Int )×Int ) ,( ( True∧True∧( ( lI ( Q1 ( [ ]:List ( Int×Int ) ) ) )-( 1:Int ) )=( ( lI ( Q1 C ) )-( 1:Int ) )∧( ( lI ( Q1 ( [ ]:List ( Int×Int ) ) ) )-( 1:Int ) )=r6.2∧True )∧( ( ( List.replicate ( Int.toNat ( lI nz ) ) ( 0:Int ) )=r6.1∧false=false )∧( ( Q1 ( [ ]:List ( Int×Int ) ) )=( Q1 C )∧false=false )∧True ) )∧LoopP ( fun ( eX:( List Int )×Int ) ( wG:( ( List Int )×Int )→Prop )=>( ( decide ( eX.2 > ( 0:Int ) ) )=true→( 0≤eX.2 )∧( eX.2<( List.length ( Q1 C ) ) )∧( 0≤eX.2 )∧( eX.2<( List.length ( Q1 C ) ) )∧( 0≤( gD ( Q1 C ) eX.2 ( 0 ,( 0 ,0 ) ) ).1 )∧( ( gD ( Q1 C ) eX.2 ( 0 ,( 0 ,0 ) ) ).1<( List.length eX.1 ) )∧( 0≤eX.2 )∧( eX.2<( List.length ( Q1 C ) ) )∧( 0≤( gD ( Q1 C ) eX.2 ( 0 ,( 0 ,0 ) ) ).1 )∧( I64 ( Qo .i64 ( 1:Int ) ( gD ( Q1 C ) eX.2 ( 0 ,( 0 ,0 ) ) ).1 ) )∧( ∃ r7:( List Int )×Int ,( ( True∧True∧( ( lI ( Q1 C ) )-( 1:Int ) )=( ( lI ( Q1 C ) )-( 1:Int ) )∧( Qd .andNot .i64 eX.2 ( Qo .i64 ( 1:Int ) ( gD ( Q1 C ) eX.2 ( 0 ,( 0 ,0 ) ) ).1 ) )=r7.2∧True )∧( ( ( List.set eX.1 ( Int.toNat ( gD ( Q1 C ) eX.2 ( 0 ,( 0 ,0 ) ) ).1 ) ( gD ( Q1 C ) eX.2 ( 0 ,( 0 ,0 ) ) ).2.1 )=r7.1∧false=false )∧( ( Q1 C )=( Q1 C )∧false=false )∧True ) )∧wG r7 ) )∧( ( decide ( eX.2 > ( 0:Int ) ) )=false→( 0≤( ( lI ( Q1 C ) )-( 1:Int ) ) )∧( ( ( lI ( Q1 C ) )-( 1:Int ) )<( List.length ( Q1 C ) ) )∧( ( True∧( gD ( Q1 C ) ( ( lI ( Q1 C ) )-( 1:Int ) ) ( 0 ,( 0 ,0 ) ) ).2.2=( G7 C )∧( 0:Int )=( 0:Int )∧( ( [ ]:List SV )=[ ] ) )∧( ( eX.1=( R3 C )∧false=false )∧True ) ) ) ) r6:Prop)
abbrev Hs (C:List (Int×Int)):=(((R3 C)=[]∧false=true)∧True)
abbrev Fc (C:List (Int×Int)):=((True∧(0:Int)=(G7 C)∧(5:Int)=(0:Int)∧(([]:List SV)=[]))∧(Hs C))
abbrev Fs (C:List (Int×Int)):=((True∧(0:Int)=(G7 C)∧(2:Int)=(0:Int)∧(([]:List SV)=[]))∧(Hs C))
def Nx (re:Int) (bd:List Int) (C:List (Int × Int)):Prop :=
  ∀ w1:List Value, ([re].length ≤ 1000000) ∧ ((!(!([re].any fun n => decide (n < (1:Int)) || decide ((100:Int) < n)))) = true →
    w1 = w1 ∧ (((3:Int) != (0:Int)) = true →
      ((True ∧ (0:Int) = (G7 C) ∧ (3:Int) = (0:Int) ∧ (([]:List SV) = [])) ∧ (Hs C))) ∧
    (((3:Int) != (0:Int)) = false →
       (Ny C ( 0:Int ) C))) ∧
  ((!(!([re].any fun n => decide (n < (1:Int)) || decide ((100:Int) < n)))) = false →
    (((decide ((lI bd) > (40:Int))) = true →
      w1 = w1 ∧ (((5:Int) != (0:Int)) = true →
        (Fc C)) ∧
      (((5:Int) != (0:Int)) = false →
         (Ny C ( 0:Int ) C))) ∧
    ((decide ((lI bd) > (40:Int))) = false →
      (((decide ((lI C) > (8:Int))) = true →
        w1 = w1 ∧ (((5:Int) != (0:Int)) = true →
          (Fc C)) ∧
        (((5:Int) != (0:Int)) = false →
           (Ny C ( 0:Int ) C))) ∧
      ((decide ((lI C) > (8:Int))) = false →
        (bd.length ≤ 1000000) ∧ (((!(!(bd.any fun n => decide (n < (0:Int)) || decide ((100000:Int) < n)))) = true →
          w1 = w1 ∧ (((2:Int) != (0:Int)) = true →
            (Fs C)) ∧
          (((2:Int) != (0:Int)) = false →
             (Ny C ( 0:Int ) C))) ∧
        ((!(!(bd.any fun n => decide (n < (0:Int)) || decide ((100000:Int) < n)))) = false →
          (C.length ≤ 1000000 ∧ ∀ x ∈ C, (fun (x1:Int × Int) => 1 ≤ re ∧ re ≤ 100) x) ∧ (((C.any (fun (x1:Int × Int) => (Dn re (x1.1, x1.2)))) = true →
            w1 = w1 ∧ (((2:Int) != (0:Int)) = true →
              (Fs C)) ∧
            (((2:Int) != (0:Int)) = false →
               (Ny C ( 0:Int ) C))) ∧
          ((C.any (fun (x1:Int × Int) => (Dn re (x1.1, x1.2)))) = false →
            ∃ (aX:(List Int) × (List (Int × Int)) × Int × Int × Int × Int × (List Int) × (List (Int × Int)) × Int × Int × Int × (List Int) × (List (Int × Int)) × (List Value)) (d140:Int), ((bd = aX.1 ∧ C = aX.2.1 ∧ True ∧ True ∧ (lI bd) = (q4 aX).1 ∧ (0:Int) = d140 ∧ True) ∧ ((re = aX.2.2.1 ∧ (([]:List SV) = [])) ∧ ((0:Int) = aX.2.2.2.1 ∧ True ∧ True ∧ (([]:List SV) = [])) ∧ ((q4 (q4 (q4 aX))).2 = w1 ∧ (re = (q4 aX).2.1 ∧ bd = (q4 aX).2.2.1 ∧ C = (q4 aX).2.2.2.1 ∧ True ∧ True ∧ True ∧ True ∧ (0:Int) = (q4 (q4 aX)).1 ∧ (0:Int) = (q4 (q4 aX)).2.1 ∧ True ∧ True ∧ True ∧ True ∧ True ∧ re = (q4 (q4 aX)).2.2.1 ∧ bd = (q4 (q4 aX)).2.2.2.1 ∧ C = (q4 (q4 (q4 aX))).1 ∧ True ∧ True ∧ True ∧ True ∧ True ∧ True ∧ True ∧ True ∧ True ∧ True ∧ True ∧ True ∧ True ∧ True ∧ True ∧ True ∧ True ∧ True ∧ True ∧ True ∧ True ∧ True ∧ True ∧ True ∧ True ∧ True ∧ True ∧ True ∧ True ∧ True ∧ True ∧ True ∧ True ∧ True ∧ True ∧ True ∧ True ∧ True ∧ True ∧ True ∧ True ∧ True ∧ True ∧ (([]:List SV) = []))) ∧ True)) ∧
            LoopP (fun (d14:Int) (wH:(Int) → Prop) =>
              ((decide (d14 < (q4 aX).1)) = true →
                ((decide (d14 > (0:Int))) = true → 0 ≤ d14) ∧ ((decide (d14 > (0:Int))) = true → d14 < (List.length aX.1)) ∧ ((decide (d14 > (0:Int))) = true → InK .i64 (d14 - (1:Int))) ∧ ((decide (d14 > (0:Int))) = true → 0 ≤ (d14 - (1:Int))) ∧ ((decide (d14 > (0:Int))) = true → (d14 - (1:Int)) < (List.length aX.1)) ∧ (((decide (d14 > (0:Int))) && (decide ((gD aX.1 d14 0) ≤ (gD aX.1 (d14 - (1:Int)) 0)))) = true →
                  (q4 (q4 (q4 aX))).2 = w1 ∧ (((6:Int) != (0:Int)) = true →
                    ((True ∧ (0:Int) = (G7 C) ∧ (6:Int) = (0:Int) ∧ (([]:List SV) = [])) ∧ (Hs C))) ∧
                  (((6:Int) != (0:Int)) = false →
                     (Ny C aX.2.2.2.1 (q4 aX).2.2.2.1))) ∧
                (((decide (d14 > (0:Int))) && (decide ((gD aX.1 d14 0) ≤ (gD aX.1 (d14 - (1:Int)) 0)))) = false →
                  (I64 (d14 + (1:Int))) ∧ (∃ d17:Int, ((aX.1 = aX.1 ∧ aX.2.1 = aX.2.1 ∧ True ∧ True ∧ (q4 aX).1 = (q4 aX).1 ∧ (d14 + (1:Int)) = d17 ∧ True) ∧ ((aX.2.2.1 = aX.2.2.1 ∧ (([]:List SV) = [])) ∧ (aX.2.2.2.1 = aX.2.2.2.1 ∧ True ∧ True ∧ (([]:List SV) = [])) ∧ ((q4 (q4 (q4 aX))).2 = (q4 (q4 (q4 aX))).2 ∧ ((q4 aX).2.1 = (q4 aX).2.1 ∧ (q4 aX).2.2.1 = (q4 aX).2.2.1 ∧ (q4 aX).2.2.2.1 = (q4 aX).2.2.2.1 ∧ True ∧ True ∧ True ∧ True ∧ (q4 (q4 aX)).1 = (q4 (q4 aX)).1 ∧ (q4 (q4 aX)).2.1 = (q4 (q4 aX)).2.1 ∧ True ∧ True ∧ True ∧ True ∧ True ∧ (q4 (q4 aX)).2.2.1 = (q4 (q4 aX)).2.2.1 ∧ (q4 (q4 aX)).2.2.2.1 = (q4 (q4 aX)).2.2.2.1 ∧ (q4 (q4 (q4 aX))).1 = (q4 (q4 (q4 aX))).1 ∧ True ∧ True ∧ True ∧ True ∧ True ∧ True ∧ True ∧ True ∧ True ∧ True ∧ True ∧ True ∧ True ∧ True ∧ True ∧ True ∧ True ∧ True ∧ True ∧ True ∧ True ∧ True ∧ True ∧ True ∧ True ∧ True ∧ True ∧ True ∧ True ∧ True ∧ True ∧ True ∧ True ∧ True ∧ True ∧ True ∧ True ∧ True ∧ True ∧ True ∧ True ∧ True ∧ True ∧ (([]:List SV) = []))) ∧ True)) ∧ wH d17))) ∧
              ((decide (d14 < (q4 aX).1)) = false →
                (q4 (q4 (q4 aX))).2 = w1 ∧ (((0:Int) != (0:Int)) = true →
                  ((True ∧ (0:Int) = (G7 C) ∧ (0:Int) = (0:Int) ∧ (([]:List SV) = [])) ∧ (Hs C))) ∧
                (((0:Int) != (0:Int)) = false →
                  (aX.2.2.1 = 1 ∧ aX.1 = [] ∧ ZK aX.2.1) ∧ (I64 ((lI (Q1 aX.2.1)) - (1:Int))) ∧ (0 ≤ (lI (q4 aX).2.2.2.1)) ∧ ((lI (q4 aX).2.2.2.1) ≤ (lI (q4 aX).2.2.2.1)) ∧ ((lI (q4 aX).2.2.2.1) * 8 ≤ 70368744177664) ∧ ((lI (q4 aX).2.2.2.1) ≤ 70368744177664) ∧ ∃ (r8:Unit) (mv:(List Int) × Int), ((True ∧ True ∧ ((lI (Q1 aX.2.1)) - (1:Int)) = ((lI (Q1 C)) - (1:Int)) ∧ ((lI (Q1 aX.2.1)) - (1:Int)) = mv.2 ∧ True) ∧ (((List.replicate (Int.toNat (lI (q4 aX).2.2.2.1)) (0:Int)) = mv.1 ∧ false = false) ∧ ((Q1 aX.2.1) = (Q1 C) ∧ false = false) ∧ True)) ∧
                  LoopP (fun (d20:(List Int) × Int) (wI:((List Int) × Int) → Prop) =>
                    ((decide (d20.2 > (0:Int))) = true →
                      (0 ≤ d20.2) ∧ (d20.2 < (List.length (Q1 C))) ∧ (0 ≤ d20.2) ∧ (d20.2 < (List.length (Q1 C))) ∧ (0 ≤ (gD (Q1 C) d20.2 (0, (0, 0))).1) ∧ ((gD (Q1 C) d20.2 (0, (0, 0))).1 < (List.length d20.1)) ∧ (0 ≤ d20.2) ∧ (d20.2 < (List.length (Q1 C))) ∧ (0 ≤ (gD (Q1 C) d20.2 (0, (0, 0))).1) ∧ (I64 (Qo .i64 (1:Int) (gD (Q1 C) d20.2 (0, (0, 0))).1)) ∧ (∃ d21:(List Int) × Int, ((True ∧ True ∧ ((lI (Q1 C)) - (1:Int)) = ((lI (Q1 C)) - (1:Int)) ∧ (Qd .andNot .i64 d20.2 (Qo .i64 (1:Int) (gD (Q1 C) d20.2 (0, (0, 0))).1)) = d21.2 ∧ True) ∧ (((List.set d20.1 (Int.toNat (gD (Q1 C) d20.2 (0, (0, 0))).1) (gD (Q1 C) d20.2 (0, (0, 0))).2.1) = d21.1 ∧ false = false) ∧ ((Q1 C) = (Q1 C) ∧ false = false) ∧ True)) ∧ wI d21)) ∧
                    ((decide (d20.2 > (0:Int))) = false →
                      (0 ≤ ((lI (Q1 C)) - (1:Int))) ∧ (((lI (Q1 C)) - (1:Int)) < (List.length (Q1 C))) ∧ ((True ∧ (gD (Q1 C) ((lI (Q1 C)) - (1:Int)) (0, (0, 0))).2.2 = (G7 C) ∧ (0:Int) = (0:Int) ∧ (([]:List SV) = [])) ∧ ((d20.1 = (R3 C) ∧ false = false) ∧ True)))) mv))) d140)))))))))
def W0:Cx:=⟨[(3,(.i .i64))],[(37,XQ),(59,Qf),(58,Xk)],58,[],0,[],[],[],[],false,[],[],[17,25],[]⟩
def XW:List (Nat×LoopAnn):=[(1,⟨(List Int)×(List (Int×Int))×Int×Int×Int×Int×(List Int)×(List (Int×Int))×Int×Int×Int×(List Int)×(List (Int×Int))×(List Value),Int,[1,2,3,6,34,35],fun e x=>[.val (.list (.i .i64)) e.1,.val (.list (.pair (.i .i64) (.i .i64))) e.2.1,.box 1800003 0,.box 1800006 0,.val (.i .i64) e.2.2.2.2.1,.val (.i .i64) x],fun e x=>[(1800003,.slot 3,.cells [.val (.i .i64) e.2.2.1] (some 3)),(1800006,.slot 6,.cells [.val (.i .i64) e.2.2.2.1,.nilS,.nilS] (some 113)),(1799999,.key 1799999,.stk [.val (.i .i64) e.2.2.2.2.2.1,.val (.list (.i .i64)) e.2.2.2.2.2.2.1,.val (.list (.pair (.i .i64) (.i .i64))) e.2.2.2.2.2.2.2.1,.any,.any,.any,.nilS,.val (.i .i64) e.2.2.2.2.2.2.2.2.1,.val (.i .i64) e.2.2.2.2.2.2.2.2.2.1,.any,.any,.any,.any,.any,.val (.i .i64) e.2.2.2.2.2.2.2.2.2.2.1,.val (.list (.i .i64)) e.2.2.2.2.2.2.2.2.2.2.2.1,.val (.list (.pair (.i .i64) (.i .i64))) e.2.2.2.2.2.2.2.2.2.2.2.2.1,.any,.any,.any,.any,.any,.any,.any,.any,.any,.any,.any,.any,.any,.any,.any,.any,.any,.any,.any,.any,.any,.any,.any,.any,.any,.any,.any,.any,.any,.any,.any,.any,.any,.any,.any,.any,.any,.any,.any,.any,.any,.any,.any] e.2.2.2.2.2.2.2.2.2.2.2.2.2)]⟩)]
def TJ:Cx:=⟨[(3,(.i .i64))],[(36,JV)],60,[],0,[(35,Z1k W0 (fun _=>XW) c35 [.cell 6 true 3,.tmp 7] 58)],[],[],[],false,[],[],[],[]⟩
def EG (re:Int) (bd:List Int) (C:List (Int×Int)):List (Nat×LoopAnn):=[(0,⟨Unit,(List Int)×Int,[6,10,11,12],fun e x=>[.lst 30,.lst 24,.val (.i .i64) ((((List.length (Q1 C)):Nat):Int)-(1:Int)),.val (.i .i64) x.2],fun e x=>[(30,.slot 6,.lst 3 (.i .i64) x.1 false),(24,.slot 10,.lst 119 (.pair (.i .i64) (.pair (.i .i64) (.i .i64))) (Q1 C) false)]⟩)]
theorem FG (d:Int×List Int×List (Int×Int)):gwp (TJ) (EG d.1 d.2.1 d.2.2) c17 0 (V8 [.tmp 6,.tmp 7,.tmp 8] (Ph d) (HX d)) (Qr 60 (AL.can R7 d))=Nx d.1 d.2.1 d.2.2:=by kernel_rfl
abbrev EK:Prop:=OkC Tryz.prog 17 HI
theorem EX (h:∀ (re:Int) (bd:List Int) (C:List (Int×Int)),(re=1∧bd=[]∧ZK C)→Nx re bd C):OkC Tryz.prog 17 HI :=
 Z8 Z0c mixed (C:=TJ) (V:=fun (d:Int×List Int×List (Int×Int))=>Nx d.1 d.2.1 d.2.2) ⟨(.cons Kx .nil),(XsOk.cons (Fm Q73 mixed (C:=W0) ⟨(.cons YS (.cons QR (.cons Vy .nil))),XsOk.nil,ItsOk.nil,YlOk.nil,IysOk.nil,XfOk.nil⟩ (fun _=>XW)) XsOk.nil),ItsOk.nil,YlOk.nil,IysOk.nil,XfOk.nil⟩ (FG) fun d hp=>h d.1 d.2.1 d.2.2 hp
theorem EZ:EK:=EX fun re bd C h=>by
 obtain⟨rfl,rfl,hC⟩:=h;unfold Nx;(try delta Ny Hs Fc Fs q4);(try delta lI gD sT I64);intro w1;have n8:=hC.1;have hp:(2:Nat) ^ C.length≤2 ^ 8:=Nat.pow_le_pow_right (by omega) n8;have gC:=Nat.one_le_two_pow (n:=C.length);have a1:([(1:Int)].any fun n=>decide (n<1)||decide (100<n))=false:=by decide
 have a2:(([]:List Int).any fun n=>decide (n<0)||decide (100000<n))=false:=rfl;have a3:(C.any fun x1=>Dn 1 (x1.1,x1.2))=false:=Aq hC;have r9:decide (((([]:List Int).length:Nat):Int) > 40)=false:=by decide
 have g8:decide (((C.length:Nat):Int) > 8)=false:=by have:=hC.1;exact decide_eq_false (by omega)
 have b0:((0:Int) != 0)=false:=by decide
 simp only[a1,a2,a3,r9,g8,b0,true_and,and_true,exists_eq_left',exists_const,decide_eq_true_eq,decide_eq_false_iff_not,bne_iff_ne,ne_eq,bne_eq_false_iff_eq,Int.toNat_natCast,gt_iff_lt,false_implies,Bool.false_eq_true,Bool.not_true,Bool.not_false,forall_const];refine⟨by simp,by simp,⟨by omega,fun _ _=>⟨by omega,by omega⟩⟩,([],C,1,0,0,1,[],C,0,0,1,[],C,w1),0,by and_intros<;>first|rfl|trivial,?_⟩;refine⟨fun d=>d=0,fun _=>0,rfl,?_⟩;rintro _ rfl;dsimp only;simp only[Hv];refine⟨fun c=>absurd c (by decide),fun _=>⟨trivial,by first|exact hC|exact⟨trivial,hC⟩|exact⟨trivial,trivial,hC⟩,by rw[Qj];omega,by omega,by omega,by omega,by omega,(List.replicate C.length 0,((2 ^ C.length-1:Nat):Int)),?_,?_⟩⟩
 ·and_intros<;>first|rfl|trivial|(dsimp only;omega)
 refine⟨fun d=>∃ (s:Nat) (l:List Int),s<2 ^ C.length∧l.length=C.length∧stF C (2 ^ C.length) s l=R3 C∧d=(l,(s:Int)),fun d=>d.2.toNat,⟨2 ^ C.length-1,List.replicate C.length 0,by omega,by simp,rfl,rfl⟩,?_⟩;rintro _ ⟨s,l,hs,hl,bj,rfl⟩;dsimp only;simp only[Int.toNat_natCast];refine⟨fun c=>?_,fun c=>?_⟩
 ·have h0:0<s:=by omega
  obtain⟨j,j1,j2,j3⟩:=(Gw hC hs).2 h0;have pa:(Q1 C).getD s (0,0,0)=KT C s:=Ry hs;have st:=Q4p hC hs h0 l;rw[j3] at st pa;simp only[Int.toNat_natCast] at st;have lt:=Ca j2;have p2:(2:Nat) ^ j≤2 ^ 8:=Nat.pow_le_pow_right (by omega) (by omega);have an:Qd .andNot .i64 (s:Int) ((2 ^ j:Nat):Int)=((EE s j:Nat):Int):=(HL (a:=s) (b:=2 ^ j) (by omega) (by omega)).1;have lk:=C7 (k:=j) (by omega);have ik:InK .i64 ((2 ^ j:Nat):Int):=by
   clear an lk;generalize (2:Nat) ^ j=P at *
   rw[Qj];omega
  simp only[pa,lk,an,Int.toNat_natCast];refine⟨by omega,by omega,by omega,by omega,by omega,by omega,by omega,by omega,by omega,ik,(l.set j (Mq C s C.length-C_ C j),((EE s j:Nat):Int)),?_,⟨EE s j,_,by omega,by simpa using hl,st.symm.trans bj,rfl⟩,by dsimp only;omega⟩;and_intros<;>first|rfl|trivial
 ·have h0:s=0:=by omega
  subst h0;have e1:(((2 ^ C.length:Nat):Int)-1).toNat=2 ^ C.length-1:=by omega
  have e2:(Q1 C).getD (2 ^ C.length-1) (0,0,0)=KT C (2 ^ C.length-1):=Ry (by omega);have e3:stF C (2 ^ C.length) 0 l=l:=by obtain⟨m,hm⟩:∃ m,2 ^ C.length=m+1:=⟨2 ^ C.length-1,by omega⟩;rw[hm,stF,if_pos rfl]
  rw[e1,e2,(Gw hC (by omega)).1,TC,←bj,e3];refine⟨by omega,by omega,?_⟩;and_intros<;>first|rfl|trivial
def Dp:AL (Int×Int×List (Int×Int)):=(.cons (.k (.i .i64)) (.cons (.k (.i .i64)) (.one (.k (.list (.pair (.i .i64) (.i .i64)))))))
def Rf (d:Int×Int×List (Int×Int)):Prop:=d.1=1∧ZK d.2.2∧1≤d.2.1∧d.2.1≤100000∧G7 d.2.2≤d.2.1
def G8 (d:Int×Int×List (Int×Int)):SV:=.tup [.val (.i .i64) (if d.2.2.length=0 then 0 else 1),.val (.i .i64) (0:Int)]
def MI (d:Int×Int×List (Int×Int)):List OB:=[]
def NK:CSp:=Yo Dp Rf G8 MI
def YV (re:Int) (pi:Int) (C:List (Int×Int)):Prop :=
 ([pi].length≤1000000)∧((!(!([pi].any fun n=>decide (n<(1:Int))||decide ((100000:Int)<n))))=true →
  (((0:Int)=(if C.length=0 then 0 else 1)∧(3:Int)=(0:Int)∧(([]:List SV)=[]))∧(True))) ∧
 ((!(!([pi].any fun n=>decide (n<(1:Int))||decide ((100000:Int)<n))))=false →
  ∀ w1:List Value,([re].length≤1000000)∧((!(!([re].any fun n=>decide (n<(1:Int))||decide ((100:Int)<n))))=true →
   w1=w1∧(((3:Int) != (0:Int))=true →
    (((0:Int)=(if C.length=0 then 0 else 1)∧(3:Int)=(0:Int)∧(([]:List SV)=[]))∧(True))) ∧
   (((3:Int) != (0:Int))=false →
    ((0:Int)=1∧([]:List Int)=[]∧ZK ([]:List (Int×Int)))∧∃ (e2:Unit) (d20:Int),((pi=pi∧C=C∧True∧(lI C)=(lI C)∧(0:Int)=d20∧True)∧(((Q1 ([]:List (Int×Int)))=(Q1 C)∧false=false)∧True)) ∧
    LoopP (fun (d2:Int) (q2:(Int)→Prop) =>
     ((decide (d2<(lI C)))=true →
      (0≤d2)∧(I64 (Qo .i64 (1:Int) d2))∧(0≤(Qo .i64 (1:Int) d2))∧((Qo .i64 (1:Int) d2)<(List.length (Q1 C)))∧((decide ((gD (Q1 C) (Qo .i64 (1:Int) d2) (0,(0,0))).2.2 > pi))=true →
       (((0:Int)=(if C.length=0 then 0 else 1)∧(9:Int)=(0:Int)∧(([]:List SV)=[]))∧(True))) ∧
      ((decide ((gD (Q1 C) (Qo .i64 (1:Int) d2) (0,(0,0))).2.2 > pi))=false →
       (I64 (d2+(1:Int)))∧(∃ d3:Int,((pi=pi∧C=C∧True∧(lI C)=(lI C)∧(d2+(1:Int))=d3∧True)∧(((Q1 C)=(Q1 C)∧false=false)∧True))∧q2 d3))) ∧
     ((decide (d2<(lI C)))=false →
      (0≤(lI (Q1 C)))∧((lI (Q1 C))≤(lI (Q1 C)))∧((lI (Q1 C))*8≤70368744177664)∧((lI (Q1 C))≤70368744177664)∧∃ (e4:Unit) (d40:(List Int)×Int),((pi=pi∧C=C∧True∧True∧(1:Int)=d40.2∧True)∧(((Q1 C)=(Q1 C)∧false=false)∧((List.replicate (Int.toNat (lI (Q1 C))) (0:Int))=d40.1∧false=false)∧True)) ∧
      LoopP (fun (d4:(List Int)×Int) (q4:((List Int)×Int)→Prop) =>
       ((decide (d4.2<(lI (Q1 C))))=true →
        (0≤d4.2)∧(d4.2<(List.length d4.1))∧∃ (e5:Int) (d50:(List Int)×Int),((pi=pi∧C=C∧True∧True∧d4.2=e5∧d4.2=d50.2∧True)∧(((Q1 C)=(Q1 C)∧false=false)∧((sT d4.1 d4.2 (lI C))=d50.1∧false=false)∧True)) ∧
        LoopP (fun (d5:(List Int)×Int) (q5:((List Int)×Int)→Prop) =>
         ((decide (d5.2 > (0:Int)))=true →
          (0≤d5.2)∧(d5.2<(List.length (Q1 C)))∧((decide ((gD (Q1 C) d5.2 (0,(0,0))).2.2≤pi))=true →
           (0≤e5)∧(e5<(List.length d5.1))∧(0≤(Qd .andNot .i64 e5 d5.2))∧((Qd .andNot .i64 e5 d5.2)<(List.length d5.1))∧(I64 ((gD d5.1 (Qd .andNot .i64 e5 d5.2) 0)+(1:Int)))∧(0≤e5)∧(e5<(List.length d5.1))∧(I64 (d5.2-(1:Int)))∧(∃ d6:(List Int)×Int,((pi=pi∧C=C∧True∧True∧e5=e5∧(Qd .and .i64 (d5.2-(1:Int)) e5)=d6.2∧True)∧(((Q1 C)=(Q1 C)∧false=false)∧((sT d5.1 e5 (My (gD d5.1 e5 0) ((gD d5.1 (Qd .andNot .i64 e5 d5.2) 0)+(1:Int))))=d6.1∧false=false)∧True))∧q5 d6)) ∧
          ((decide ((gD (Q1 C) d5.2 (0,(0,0))).2.2≤pi))=false →
           (I64 (d5.2-(1:Int)))∧(∃ d7:(List Int)×Int,((pi=pi∧C=C∧True∧True∧e5=e5∧(Qd .and .i64 (d5.2-(1:Int)) e5)=d7.2∧True)∧(((Q1 C)=(Q1 C)∧false=false)∧(d5.1=d7.1∧false=false)∧True))∧q5 d7))) ∧
         ((decide (d5.2 > (0:Int)))=false →
          (I64 (e5+(1:Int)))∧(∃ d8:(List Int)×Int,((pi=pi∧C=C∧True∧True∧(e5+(1:Int))=d8.2∧True)∧(((Q1 C)=(Q1 C)∧false=false)∧(d5.1=d8.1∧false=false)∧True))∧q4 d8))) d50) ∧
       ((decide (d4.2<(lI (Q1 C))))=false →
        (I64 ((lI (Q1 C))-(1:Int)))∧(0≤((lI (Q1 C))-(1:Int)))∧(((lI (Q1 C))-(1:Int))<(List.length d4.1))∧(((gD d4.1 ((lI (Q1 C))-(1:Int)) 0)=(if C.length=0 then 0 else 1)∧(0:Int)=(0:Int)∧(([]:List SV)=[]))∧(True)))) d40)) d20)) ∧
  ((!(!([re].any fun n=>decide (n<(1:Int))||decide ((100:Int)<n))))=false →
   (((decide (((0:Nat):Int) > (40:Int)))=true →
    w1=w1∧(((5:Int) != (0:Int))=true →
     (((0:Int)=(if C.length=0 then 0 else 1)∧(5:Int)=(0:Int)∧(([]:List SV)=[]))∧(True))) ∧
    (((5:Int) != (0:Int))=false →
     ((0:Int)=1∧([]:List Int)=[]∧ZK ([]:List (Int×Int)))∧∃ (e9:Unit) (d90:Int),((pi=pi∧C=C∧True∧(lI C)=(lI C)∧(0:Int)=d90∧True)∧(((Q1 ([]:List (Int×Int)))=(Q1 C)∧false=false)∧True)) ∧
     LoopP (fun (d9:Int) (q9:(Int)→Prop) =>
      ((decide (d9<(lI C)))=true →
       (0≤d9)∧(I64 (Qo .i64 (1:Int) d9))∧(0≤(Qo .i64 (1:Int) d9))∧((Qo .i64 (1:Int) d9)<(List.length (Q1 C)))∧((decide ((gD (Q1 C) (Qo .i64 (1:Int) d9) (0,(0,0))).2.2 > pi))=true →
        (((0:Int)=(if C.length=0 then 0 else 1)∧(9:Int)=(0:Int)∧(([]:List SV)=[]))∧(True))) ∧
       ((decide ((gD (Q1 C) (Qo .i64 (1:Int) d9) (0,(0,0))).2.2 > pi))=false →
        (I64 (d9+(1:Int)))∧(∃ d10:Int,((pi=pi∧C=C∧True∧(lI C)=(lI C)∧(d9+(1:Int))=d10∧True)∧(((Q1 C)=(Q1 C)∧false=false)∧True))∧q9 d10))) ∧
      ((decide (d9<(lI C)))=false →
       (0≤(lI (Q1 C)))∧((lI (Q1 C))≤(lI (Q1 C)))∧((lI (Q1 C))*8≤70368744177664)∧((lI (Q1 C))≤70368744177664)∧∃ (r_:Unit) (d110:(List Int)×Int),((pi=pi∧C=C∧True∧True∧(1:Int)=d110.2∧True)∧(((Q1 C)=(Q1 C)∧false=false)∧((List.replicate (Int.toNat (lI (Q1 C))) (0:Int))=d110.1∧false=false)∧True)) ∧
       LoopP (fun (d11:(List Int)×Int) (wJ:((List Int)×Int)→Prop) =>
        ((decide (d11.2<(lI (Q1 C))))=true →
         (0≤d11.2)∧(d11.2<(List.length d11.1))∧∃ (eY:Int) (d120:(List Int)×Int),((pi=pi∧C=C∧True∧True∧d11.2=eY∧d11.2=d120.2∧True)∧(((Q1 C)=(Q1 C)∧false=false)∧((sT d11.1 d11.2 (lI C))=d120.1∧false=false)∧True)) ∧
         LoopP (fun (d12:(List Int)×Int) (tV:((List Int)×Int)→Prop) =>
          ((decide (d12.2 > (0:Int)))=true →
           (0≤d12.2)∧(d12.2<(List.length (Q1 C)))∧((decide ((gD (Q1 C) d12.2 (0,(0,0))).2.2≤pi))=true →
            (0≤eY)∧(eY<(List.length d12.1))∧(0≤(Qd .andNot .i64 eY d12.2))∧((Qd .andNot .i64 eY d12.2)<(List.length d12.1))∧(I64 ((gD d12.1 (Qd .andNot .i64 eY d12.2) 0)+(1:Int)))∧(0≤eY)∧(eY<(List.length d12.1))∧(I64 (d12.2-(1:Int)))∧(∃ d13:(List Int)×Int,((pi=pi∧C=C∧True∧True∧eY=eY∧(Qd .and .i64 (d12.2-(1:Int)) eY)=d13.2∧True)∧(((Q1 C)=(Q1 C)∧false=false)∧((sT d12.1 eY (My (gD d12.1 eY 0) ((gD d12.1 (Qd .andNot .i64 eY d12.2) 0)+(1:Int))))=d13.1∧false=false)∧True))∧tV d13)) ∧
           ((decide ((gD (Q1 C) d12.2 (0,(0,0))).2.2≤pi))=false →
            (I64 (d12.2-(1:Int)))∧(∃ d14:(List Int)×Int,((pi=pi∧C=C∧True∧True∧eY=eY∧(Qd .and .i64 (d12.2-(1:Int)) eY)=d14.2∧True)∧(((Q1 C)=(Q1 C)∧false=false)∧(d12.1=d14.1∧false=false)∧True))∧tV d14))) ∧
          ((decide (d12.2 > (0:Int)))=false →
           (I64 (eY+(1:Int)))∧(∃ d15:(List Int)×Int,((pi=pi∧C=C∧True∧True∧(eY+(1:Int))=d15.2∧True)∧(((Q1 C)=(Q1 C)∧false=false)∧(d12.1=d15.1∧false=false)∧True))∧wJ d15))) d120) ∧
        ((decide (d11.2<(lI (Q1 C))))=false →
         (I64 ((lI (Q1 C))-(1:Int)))∧(0≤((lI (Q1 C))-(1:Int)))∧(((lI (Q1 C))-(1:Int))<(List.length d11.1))∧(((gD d11.1 ((lI (Q1 C))-(1:Int)) 0)=(if C.length=0 then 0 else 1)∧(0:Int)=(0:Int)∧(([]:List SV)=[]))∧(True)))) d110)) d90)) ∧
   ((decide (((0:Nat):Int) > (40:Int)))=false →
    (((decide ((lI C) > (8:Int)))=true →
     w1=w1∧(((5:Int) != (0:Int))=true →
      (((0:Int)=(if C.length=0 then 0 else 1)∧(5:Int)=(0:Int)∧(([]:List SV)=[]))∧(True))) ∧
     (((5:Int) != (0:Int))=false →
      ((0:Int)=1∧([]:List Int)=[]∧ZK ([]:List (Int×Int)))∧∃ (xq:Unit) (d160:Int),((pi=pi∧C=C∧True∧(lI C)=(lI C)∧(0:Int)=d160∧True)∧(((Q1 ([]:List (Int×Int)))=(Q1 C)∧false=false)∧True)) ∧
      LoopP (fun (d16:Int) (wK:(Int)→Prop) =>
       ((decide (d16<(lI C)))=true →
        (0≤d16)∧(I64 (Qo .i64 (1:Int) d16))∧(0≤(Qo .i64 (1:Int) d16))∧((Qo .i64 (1:Int) d16)<(List.length (Q1 C)))∧((decide ((gD (Q1 C) (Qo .i64 (1:Int) d16) (0,(0,0))).2.2 > pi))=true →
         (((0:Int)=(if C.length=0 then 0 else 1)∧(9:Int)=(0:Int)∧(([]:List SV)=[]))∧(True))) ∧
        ((decide ((gD (Q1 C) (Qo .i64 (1:Int) d16) (0,(0,0))).2.2 > pi))=false →
         (I64 (d16+(1:Int)))∧(∃ d17:Int,((pi=pi∧C=C∧True∧(lI C)=(lI C)∧(d16+(1:Int))=d17∧True)∧(((Q1 C)=(Q1 C)∧false=false)∧True))∧wK d17))) ∧
       ((decide (d16<(lI C)))=false →
        (0≤(lI (Q1 C)))∧((lI (Q1 C))≤(lI (Q1 C)))∧((lI (Q1 C))*8≤70368744177664)∧((lI (Q1 C))≤70368744177664)∧∃ (qb:Unit) (mw:(List Int)×Int),((pi=pi∧C=C∧True∧True∧(1:Int)=mw.2∧True)∧(((Q1 C)=(Q1 C)∧false=false)∧((List.replicate (Int.toNat (lI (Q1 C))) (0:Int))=mw.1∧false=false)∧True)) ∧
        LoopP (fun (d18:(List Int)×Int) (wL:((List Int)×Int)→Prop) =>
         ((decide (d18.2<(lI (Q1 C))))=true →
          (0≤d18.2)∧(d18.2<(List.length d18.1))∧∃ (dT:Int) (ew:(List Int)×Int),((pi=pi∧C=C∧True∧True∧d18.2=dT∧d18.2=ew.2∧True)∧(((Q1 C)=(Q1 C)∧false=false)∧((sT d18.1 d18.2 (lI C))=ew.1∧false=false)∧True)) ∧
          LoopP (fun (d19:(List Int)×Int) (pw:((List Int)×Int)→Prop) =>
           ((decide (d19.2 > (0:Int)))=true →
            (0≤d19.2)∧(d19.2<(List.length (Q1 C)))∧((decide ((gD (Q1 C) d19.2 (0,(0,0))).2.2≤pi))=true →
             (0≤dT)∧(dT<(List.length d19.1))∧(0≤(Qd .andNot .i64 dT d19.2))∧((Qd .andNot .i64 dT d19.2)<(List.length d19.1))∧(I64 ((gD d19.1 (Qd .andNot .i64 dT d19.2) 0)+(1:Int)))∧(0≤dT)∧(dT<(List.length d19.1))∧(I64 (d19.2-(1:Int)))∧(∃ d20:(List Int)×Int,((pi=pi∧C=C∧True∧True∧dT=dT∧(Qd .and .i64 (d19.2-(1:Int)) dT)=d20.2∧True)∧(((Q1 C)=(Q1 C)∧false=false)∧((sT d19.1 dT (My (gD d19.1 dT 0) ((gD d19.1 (Qd .andNot .i64 dT d19.2) 0)+(1:Int))))=d20.1∧false=false)∧True))∧pw d20)) ∧
            ((decide ((gD (Q1 C) d19.2 (0,(0,0))).2.2≤pi))=false →
             (I64 (d19.2-(1:Int)))∧(∃ d21:(List Int)×Int,((pi=pi∧C=C∧True∧True∧dT=dT∧(Qd .and .i64 (d19.2-(1:Int)) dT)=d21.2∧True)∧(((Q1 C)=(Q1 C)∧false=false)∧(d19.1=d21.1∧false=false)∧True))∧pw d21))) ∧
           ((decide (d19.2 > (0:Int)))=false →
            (I64 (dT+(1:Int)))∧(∃ d22:(List Int)×Int,((pi=pi∧C=C∧True∧True∧(dT+(1:Int))=d22.2∧True)∧(((Q1 C)=(Q1 C)∧false=false)∧(d19.1=d22.1∧false=false)∧True))∧wL d22))) ew) ∧
         ((decide (d18.2<(lI (Q1 C))))=false →
          (I64 ((lI (Q1 C))-(1:Int)))∧(0≤((lI (Q1 C))-(1:Int)))∧(((lI (Q1 C))-(1:Int))<(List.length d18.1))∧(((gD d18.1 ((lI (Q1 C))-(1:Int)) 0)=(if C.length=0 then 0 else 1)∧(0:Int)=(0:Int)∧(([]:List SV)=[]))∧(True)))) mw)) d160)) ∧
    ((decide ((lI C) > (8:Int)))=false →
     (([]:List Int).length≤1000000)∧(((!(!(([]:List Int).any fun n=>decide (n<(0:Int))||decide ((100000:Int)<n))))=true →
      w1=w1∧(((2:Int) != (0:Int))=true →
       (((0:Int)=(if C.length=0 then 0 else 1)∧(2:Int)=(0:Int)∧(([]:List SV)=[]))∧(True))) ∧
      (((2:Int) != (0:Int))=false →
       ((0:Int)=1∧([]:List Int)=[]∧ZK ([]:List (Int×Int)))∧∃ (xr:Unit) (pz:Int),((pi=pi∧C=C∧True∧(lI C)=(lI C)∧(0:Int)=pz∧True)∧(((Q1 ([]:List (Int×Int)))=(Q1 C)∧false=false)∧True)) ∧
       LoopP (fun (d23:Int) (wM:(Int)→Prop) =>
        ((decide (d23<(lI C)))=true →
         (0≤d23)∧(I64 (Qo .i64 (1:Int) d23))∧(0≤(Qo .i64 (1:Int) d23))∧((Qo .i64 (1:Int) d23)<(List.length (Q1 C)))∧((decide ((gD (Q1 C) (Qo .i64 (1:Int) d23) (0,(0,0))).2.2 > pi))=true →
          (((0:Int)=(if C.length=0 then 0 else 1)∧(9:Int)=(0:Int)∧(([]:List SV)=[]))∧(True))) ∧
         ((decide ((gD (Q1 C) (Qo .i64 (1:Int) d23) (0,(0,0))).2.2 > pi))=false →
          (I64 (d23+(1:Int)))∧(∃ d24:Int,((pi=pi∧C=C∧True∧(lI C)=(lI C)∧(d23+(1:Int))=d24∧True)∧(((Q1 C)=(Q1 C)∧false=false)∧True))∧wM d24))) ∧
        ((decide (d23<(lI C)))=false →
         (0≤(lI (Q1 C)))∧((lI (Q1 C))≤(lI (Q1 C)))∧((lI (Q1 C))*8≤70368744177664)∧((lI (Q1 C))≤70368744177664)∧∃ (xt:Unit) (my:(List Int)×Int),((pi=pi∧C=C∧True∧True∧(1:Int)=my.2∧True)∧(((Q1 C)=(Q1 C)∧false=false)∧((List.replicate (Int.toNat (lI (Q1 C))) (0:Int))=my.1∧false=false)∧True)) ∧
         LoopP (fun (d25:(List Int)×Int) (wN:((List Int)×Int)→Prop) =>
          ((decide (d25.2<(lI (Q1 C))))=true →
           (0≤d25.2)∧(d25.2<(List.length d25.1))∧∃ (eZ:Int) (mz:(List Int)×Int),((pi=pi∧C=C∧True∧True∧d25.2=eZ∧d25.2=mz.2∧True)∧(((Q1 C)=(Q1 C)∧false=false)∧((sT d25.1 d25.2 (lI C))=mz.1∧false=false)∧True)) ∧
           LoopP (fun (d26:(List Int)×Int) (tX:((List Int)×Int)→Prop) =>
            ((decide (d26.2 > (0:Int)))=true →
             (0≤d26.2)∧(d26.2<(List.length (Q1 C)))∧((decide ((gD (Q1 C) d26.2 (0,(0,0))).2.2≤pi))=true →
              (0≤eZ)∧(eZ<(List.length d26.1))∧(0≤(Qd .andNot .i64 eZ d26.2))∧((Qd .andNot .i64 eZ d26.2)<(List.length d26.1))∧(I64 ((gD d26.1 (Qd .andNot .i64 eZ d26.2) 0)+(1:Int)))∧(0≤eZ)∧(eZ<(List.length d26.1))∧(I64 (d26.2-(1:Int)))∧(∃ d27:(List Int)×Int,((pi=pi∧C=C∧True∧True∧eZ=eZ∧(Qd .and .i64 (d26.2-(1:Int)) eZ)=d27.2∧True)∧(((Q1 C)=(Q1 C)∧false=false)∧((sT d26.1 eZ (My (gD d26.1 eZ 0) ((gD d26.1 (Qd .andNot .i64 eZ d26.2) 0)+(1:Int))))=d27.1∧false=false)∧True))∧tX d27)) ∧
             ((decide ((gD (Q1 C) d26.2 (0,(0,0))).2.2≤pi))=false →
              (I64 (d26.2-(1:Int)))∧(∃ d28:(List Int)×Int,((pi=pi∧C=C∧True∧True∧eZ=eZ∧(Qd .and .i64 (d26.2-(1:Int)) eZ)=d28.2∧True)∧(((Q1 C)=(Q1 C)∧false=false)∧(d26.1=d28.1∧false=false)∧True))∧tX d28))) ∧
            ((decide (d26.2 > (0:Int)))=false →
             (I64 (eZ+(1:Int)))∧(∃ d29:(List Int)×Int,((pi=pi∧C=C∧True∧True∧(eZ+(1:Int))=d29.2∧True)∧(((Q1 C)=(Q1 C)∧false=false)∧(d26.1=d29.1∧false=false)∧True))∧wN d29))) mz) ∧
          ((decide (d25.2<(lI (Q1 C))))=false →
           (I64 ((lI (Q1 C))-(1:Int)))∧(0≤((lI (Q1 C))-(1:Int)))∧(((lI (Q1 C))-(1:Int))<(List.length d25.1))∧(((gD d25.1 ((lI (Q1 C))-(1:Int)) 0)=(if C.length=0 then 0 else 1)∧(0:Int)=(0:Int)∧(([]:List SV)=[]))∧(True)))) my)) pz)) ∧
     ((!(!(([]:List Int).any fun n=>decide (n<(0:Int))||decide ((100000:Int)<n))))=false →
      (C.length≤1000000∧∀ x∈C,(fun (x1:Int×Int)=>1≤re∧re≤100) x)∧(((C.any (fun (x1:Int×Int)=>(Dn re (x1.1,x1.2))))=true →
       w1=w1∧(((2:Int) != (0:Int))=true →
        (((0:Int)=(if C.length=0 then 0 else 1)∧(2:Int)=(0:Int)∧(([]:List SV)=[]))∧(True))) ∧
       (((2:Int) != (0:Int))=false →
        ((0:Int)=1∧([]:List Int)=[]∧ZK ([]:List (Int×Int)))∧∃ (xu:Unit) (pA:Int),((pi=pi∧C=C∧True∧(lI C)=(lI C)∧(0:Int)=pA∧True)∧(((Q1 ([]:List (Int×Int)))=(Q1 C)∧false=false)∧True)) ∧
        LoopP (fun (d30:Int) (wO:(Int)→Prop) =>
         ((decide (d30<(lI C)))=true →
          (0≤d30)∧(I64 (Qo .i64 (1:Int) d30))∧(0≤(Qo .i64 (1:Int) d30))∧((Qo .i64 (1:Int) d30)<(List.length (Q1 C)))∧((decide ((gD (Q1 C) (Qo .i64 (1:Int) d30) (0,(0,0))).2.2 > pi))=true →
           (((0:Int)=(if C.length=0 then 0 else 1)∧(9:Int)=(0:Int)∧(([]:List SV)=[]))∧(True))) ∧
          ((decide ((gD (Q1 C) (Qo .i64 (1:Int) d30) (0,(0,0))).2.2 > pi))=false →
           (I64 (d30+(1:Int)))∧(∃ d31:Int,((pi=pi∧C=C∧True∧(lI C)=(lI C)∧(d30+(1:Int))=d31∧True)∧(((Q1 C)=(Q1 C)∧false=false)∧True))∧wO d31))) ∧
         ((decide (d30<(lI C)))=false →
          (0≤(lI (Q1 C)))∧((lI (Q1 C))≤(lI (Q1 C)))∧((lI (Q1 C))*8≤70368744177664)∧((lI (Q1 C))≤70368744177664)∧∃ (xw:Unit) (mA:(List Int)×Int),((pi=pi∧C=C∧True∧True∧(1:Int)=mA.2∧True)∧(((Q1 C)=(Q1 C)∧false=false)∧((List.replicate (Int.toNat (lI (Q1 C))) (0:Int))=mA.1∧false=false)∧True)) ∧
          LoopP (fun (d32:(List Int)×Int) (wP:((List Int)×Int)→Prop) =>
           ((decide (d32.2<(lI (Q1 C))))=true →
            (0≤d32.2)∧(d32.2<(List.length d32.1))∧∃ (e_:Int) (mB:(List Int)×Int),((pi=pi∧C=C∧True∧True∧d32.2=e_∧d32.2=mB.2∧True)∧(((Q1 C)=(Q1 C)∧false=false)∧((sT d32.1 d32.2 (lI C))=mB.1∧false=false)∧True)) ∧
            LoopP (fun (d33:(List Int)×Int) (tY:((List Int)×Int)→Prop) =>
             ((decide (d33.2 > (0:Int)))=true →
              (0≤d33.2)∧(d33.2<(List.length (Q1 C)))∧((decide ((gD (Q1 C) d33.2 (0,(0,0))).2.2≤pi))=true →
               (0≤e_)∧(e_<(List.length d33.1))∧(0≤(Qd .andNot .i64 e_ d33.2))∧((Qd .andNot .i64 e_ d33.2)<(List.length d33.1))∧(I64 ((gD d33.1 (Qd .andNot .i64 e_ d33.2) 0)+(1:Int)))∧(0≤e_)∧(e_<(List.length d33.1))∧(I64 (d33.2-(1:Int)))∧(∃ d34:(List Int)×Int,((pi=pi∧C=C∧True∧True∧e_=e_∧(Qd .and .i64 (d33.2-(1:Int)) e_)=d34.2∧True)∧(((Q1 C)=(Q1 C)∧false=false)∧((sT d33.1 e_ (My (gD d33.1 e_ 0) ((gD d33.1 (Qd .andNot .i64 e_ d33.2) 0)+(1:Int))))=d34.1∧false=false)∧True))∧tY d34)) ∧
              ((decide ((gD (Q1 C) d33.2 (0,(0,0))).2.2≤pi))=false →
               (I64 (d33.2-(1:Int)))∧(∃ d35:(List Int)×Int,((pi=pi∧C=C∧True∧True∧e_=e_∧(Qd .and .i64 (d33.2-(1:Int)) e_)=d35.2∧True)∧(((Q1 C)=(Q1 C)∧false=false)∧(d33.1=d35.1∧false=false)∧True))∧tY d35))) ∧
             ((decide (d33.2 > (0:Int)))=false →
              (I64 (e_+(1:Int)))∧(∃ d36:(List Int)×Int,((pi=pi∧C=C∧True∧True∧(e_+(1:Int))=d36.2∧True)∧(((Q1 C)=(Q1 C)∧false=false)∧(d33.1=d36.1∧false=false)∧True))∧wP d36))) mB) ∧
           ((decide (d32.2<(lI (Q1 C))))=false →
            (I64 ((lI (Q1 C))-(1:Int)))∧(0≤((lI (Q1 C))-(1:Int)))∧(((lI (Q1 C))-(1:Int))<(List.length d32.1))∧(((gD d32.1 ((lI (Q1 C))-(1:Int)) 0)=(if C.length=0 then 0 else 1)∧(0:Int)=(0:Int)∧(([]:List SV)=[]))∧(True)))) mA)) pA)) ∧
      ((C.any (fun (x1:Int×Int)=>(Dn re (x1.1,x1.2))))=false →
       ∃ (c_:(List (Int×Int))×Int×Int×Int×Int×Int×Int×(List (Int×Int))×Int×Int×Int×(List Int)×Bool×Bool×Int×(List (Int×Int))×(List Value)) (sd:Unit),((True∧C=c_.1∧True∧True∧((0:Nat):Int)=c_.2.2.2.1∧(0:Int)=c_.2.2.2.2.1∧True)∧((re=c_.2.1∧(([]:List SV)=[]))∧((0:Int)=c_.2.2.1∧True∧True∧(([]:List SV)=[]))∧(c_.2.2.2.2.2.2.2.2.2.2.2.2.2.2.2.2=w1∧(re=c_.2.2.2.2.2.1∧pi=c_.2.2.2.2.2.2.1∧C=c_.2.2.2.2.2.2.2.1∧True∧True∧True∧(0:Int)=c_.2.2.2.2.2.2.2.2.1∧(0:Int)=c_.2.2.2.2.2.2.2.2.2.1∧True∧True∧True∧True∧True∧True∧True∧pi=c_.2.2.2.2.2.2.2.2.2.2.1∧True∧(!([pi].any fun n=>decide (n<(1:Int))||decide ((100000:Int)<n)))=c_.2.2.2.2.2.2.2.2.2.2.2.2.1∧(!(!([pi].any fun n=>decide (n<(1:Int))||decide ((100000:Int)<n))))=c_.2.2.2.2.2.2.2.2.2.2.2.2.2.1∧True∧re=c_.2.2.2.2.2.2.2.2.2.2.2.2.2.2.1∧C=c_.2.2.2.2.2.2.2.2.2.2.2.2.2.2.2.1∧True∧True∧True∧True∧True∧True∧True∧True∧True∧True∧True∧True∧True∧True∧True∧True∧True∧True∧True∧True∧True∧True∧True∧True∧True∧True∧True∧True∧True∧True∧True∧True∧True∧True∧True∧True∧True∧True∧True∧True∧True∧True∧True∧True∧True∧True∧True∧True∧True∧True∧True∧True∧True∧True∧True∧True∧True∧True∧True∧True∧True∧True∧True∧True∧True∧True∧True∧True∧True∧True∧True∧(([]:List SV)=[])))∧([pi]=c_.2.2.2.2.2.2.2.2.2.2.2.1∧false=false)∧True)) ∧
       LoopP (fun (d39:Unit) (xx:(Unit)→Prop) =>
        ((decide (c_.2.2.2.2.1<c_.2.2.2.1))=true →
         False) ∧
        ((decide (c_.2.2.2.2.1<c_.2.2.2.1))=false →
         c_.2.2.2.2.2.2.2.2.2.2.2.2.2.2.2.2=w1∧(((0:Int) != (0:Int))=true →
          (((0:Int)=(if C.length=0 then 0 else 1)∧(0:Int)=(0:Int)∧(([]:List SV)=[]))∧(True))) ∧
         (((0:Int) != (0:Int))=false →
          (c_.2.1=1∧([]:List Int)=[]∧ZK c_.1)∧∃ (xy:Unit) (pB:Int),((c_.2.2.2.2.2.2.1=pi∧c_.2.2.2.2.2.2.2.1=C∧True∧(lI c_.2.2.2.2.2.2.2.1)=(lI C)∧(0:Int)=pB∧True)∧(((Q1 c_.1)=(Q1 C)∧false=false)∧True)) ∧
          LoopP (fun (d42:Int) (wQ:(Int)→Prop) =>
           ((decide (d42<(lI C)))=true →
            (0≤d42)∧(I64 (Qo .i64 (1:Int) d42))∧(0≤(Qo .i64 (1:Int) d42))∧((Qo .i64 (1:Int) d42)<(List.length (Q1 C)))∧((decide ((gD (Q1 C) (Qo .i64 (1:Int) d42) (0,(0,0))).2.2 > pi))=true →
             (((0:Int)=(if C.length=0 then 0 else 1)∧(9:Int)=(0:Int)∧(([]:List SV)=[]))∧(True))) ∧
            ((decide ((gD (Q1 C) (Qo .i64 (1:Int) d42) (0,(0,0))).2.2 > pi))=false →
             (I64 (d42+(1:Int)))∧(∃ d43:Int,((pi=pi∧C=C∧True∧(lI C)=(lI C)∧(d42+(1:Int))=d43∧True)∧(((Q1 C)=(Q1 C)∧false=false)∧True))∧wQ d43))) ∧
           ((decide (d42<(lI C)))=false →
            (0≤(lI (Q1 C)))∧((lI (Q1 C))≤(lI (Q1 C)))∧((lI (Q1 C))*8≤70368744177664)∧((lI (Q1 C))≤70368744177664)∧∃ (uq:Unit) (mC:(List Int)×Int),((pi=pi∧C=C∧True∧True∧(1:Int)=mC.2∧True)∧(((Q1 C)=(Q1 C)∧false=false)∧((List.replicate (Int.toNat (lI (Q1 C))) (0:Int))=mC.1∧false=false)∧True)) ∧
            LoopP (fun (d46:(List Int)×Int) (wR:((List Int)×Int)→Prop) =>
             ((decide (d46.2<(lI (Q1 C))))=true →
              (0≤d46.2)∧(d46.2<(List.length d46.1))∧∃ (fa:Int) (mD:(List Int)×Int),((pi=pi∧C=C∧True∧True∧d46.2=fa∧d46.2=mD.2∧True)∧(((Q1 C)=(Q1 C)∧false=false)∧((sT d46.1 d46.2 (lI C))=mD.1∧false=false)∧True)) ∧
              LoopP (fun (d49:(List Int)×Int) (tZ:((List Int)×Int)→Prop) =>
               ((decide (d49.2 > (0:Int)))=true →
                (0≤d49.2)∧(d49.2<(List.length (Q1 C)))∧((decide ((gD (Q1 C) d49.2 (0,(0,0))).2.2≤pi))=true →
                 (0≤fa)∧(fa<(List.length d49.1))∧(0≤(Qd .andNot .i64 fa d49.2))∧((Qd .andNot .i64 fa d49.2)<(List.length d49.1))∧(I64 ((gD d49.1 (Qd .andNot .i64 fa d49.2) 0)+(1:Int)))∧(0≤fa)∧(fa<(List.length d49.1))∧(I64 (d49.2-(1:Int)))∧(∃ d50:(List Int)×Int,((pi=pi∧C=C∧True∧True∧fa=fa∧(Qd .and .i64 (d49.2-(1:Int)) fa)=d50.2∧True)∧(((Q1 C)=(Q1 C)∧false=false)∧((sT d49.1 fa (My (gD d49.1 fa 0) ((gD d49.1 (Qd .andNot .i64 fa d49.2) 0)+(1:Int))))=d50.1∧false=false)∧True))∧tZ d50)) ∧
                ((decide ((gD (Q1 C) d49.2 (0,(0,0))).2.2≤pi))=false →
                 (I64 (d49.2-(1:Int)))∧(∃ d51:(List Int)×Int,((pi=pi∧C=C∧True∧True∧fa=fa∧(Qd .and .i64 (d49.2-(1:Int)) fa)=d51.2∧True)∧(((Q1 C)=(Q1 C)∧false=false)∧(d49.1=d51.1∧false=false)∧True))∧tZ d51))) ∧
               ((decide (d49.2 > (0:Int)))=false →
                (I64 (fa+(1:Int)))∧(∃ d52:(List Int)×Int,((pi=pi∧C=C∧True∧True∧(fa+(1:Int))=d52.2∧True)∧(((Q1 C)=(Q1 C)∧false=false)∧(d49.1=d52.1∧false=false)∧True))∧wR d52))) mD) ∧
             ((decide (d46.2<(lI (Q1 C))))=false →
              (I64 ((lI (Q1 C))-(1:Int)))∧(0≤((lI (Q1 C))-(1:Int)))∧(((lI (Q1 C))-(1:Int))<(List.length d46.1))∧(((gD d46.1 ((lI (Q1 C))-(1:Int)) 0)=(if C.length=0 then 0 else 1)∧(0:Int)=(0:Int)∧(([]:List SV)=[]))∧(True)))) mC)) pB))) sd))))))))))
def X8:Cx:=⟨[(3,(.i .i64))],[(37,XQ),(59,Qf),(58,Xk)],58,[],0,[],[],[],[],false,[],[],[17,25],[]⟩
def X7:List (Nat×LoopAnn):=[(1,⟨(List (Int×Int))×Int×Int×Int×Int×Int×Int×(List (Int×Int))×Int×Int×Int×(List Int)×Bool×Bool×Int×(List (Int×Int))×(List Value),Unit,[1,2,3,6,34,35],fun e x=>[.nilS,.val (.list (.pair (.i .i64) (.i .i64))) e.1,.box 2300003 0,.box 2300006 0,.val (.i .i64) e.2.2.2.1,.val (.i .i64) e.2.2.2.2.1],fun e x=>[(2300003,.slot 3,.cells [.val (.i .i64) e.2.1] (some 3)),(2300006,.slot 6,.cells [.val (.i .i64) e.2.2.1,.nilS,.nilS] (some 113)),(2299999,.key 2299999,.stk [.val (.i .i64) e.2.2.2.2.2.1,.val (.i .i64) e.2.2.2.2.2.2.1,.val (.list (.pair (.i .i64) (.i .i64))) e.2.2.2.2.2.2.2.1,.any,.any,.any,.val (.i .i64) e.2.2.2.2.2.2.2.2.1,.val (.i .i64) e.2.2.2.2.2.2.2.2.2.1,.any,.any,.any,.any,.any,.any,.any,.val (.i .i64) e.2.2.2.2.2.2.2.2.2.2.1,.lst 16,.val .bo e.2.2.2.2.2.2.2.2.2.2.2.2.1,.val .bo e.2.2.2.2.2.2.2.2.2.2.2.2.2.1,.any,.val (.i .i64) e.2.2.2.2.2.2.2.2.2.2.2.2.2.2.1,.val (.list (.pair (.i .i64) (.i .i64))) e.2.2.2.2.2.2.2.2.2.2.2.2.2.2.2.1,.any,.any,.any,.any,.any,.any,.any,.any,.any,.any,.any,.any,.any,.any,.any,.any,.any,.any,.any,.any,.any,.any,.any,.any,.any,.any,.any,.any,.any,.any,.any,.any,.any,.any,.any,.any,.any,.any,.any,.any,.any,.any,.any,.any,.any,.any,.any,.any,.any,.any,.any,.any,.any,.any,.any,.any,.any,.any,.any,.any,.any,.any,.any,.any,.any,.any,.any,.any,.any,.any,.any] e.2.2.2.2.2.2.2.2.2.2.2.2.2.2.2.2),(16,.key 16,.lst 3 (.i .i64) e.2.2.2.2.2.2.2.2.2.2.2.1 false)]⟩)]
def Dt:Cx:=⟨[(3,(.i .i64))],[(37,XQ),(36,JV)],93,[],0,[(35,Z1k X8 (fun _=>X7) c35 [.cell 6 true 3,.tmp 7] 58)],[],[],[],false,[],[],[],[]⟩
def Sy (re:Int) (pi:Int) (C:List (Int×Int)):List (Nat×LoopAnn):=[(0,⟨Unit,Int,[1,2,10,31,32],fun e x=>[.val (.i .i64) pi,.val (.list (.pair (.i .i64) (.i .i64))) C,.lst 29,.val (.i .i64) (((List.length C):Nat):Int),.val (.i .i64) x],fun e x=>[(29,.slot 10,.lst 119 (.pair (.i .i64) (.pair (.i .i64) (.i .i64))) (Q1 C) false)]⟩),
 (2,⟨Unit,(List Int)×Int,[1,2,10,12,13],fun e x=>[.val (.i .i64) pi,.val (.list (.pair (.i .i64) (.i .i64))) C,.lst 29,.lst 46,.val (.i .i64) x.2],fun e x=>[(29,.slot 10,.lst 119 (.pair (.i .i64) (.pair (.i .i64) (.i .i64))) (Q1 C) false),(46,.slot 12,.lst 3 (.i .i64) x.1 false)]⟩),
 (4,⟨Int,(List Int)×Int,[1,2,10,12,13,14],fun e x=>[.val (.i .i64) pi,.val (.list (.pair (.i .i64) (.i .i64))) C,.lst 29,.lst 46,.val (.i .i64) e,.val (.i .i64) x.2],fun e x=>[(29,.slot 10,.lst 119 (.pair (.i .i64) (.pair (.i .i64) (.i .i64))) (Q1 C) false),(46,.slot 12,.lst 3 (.i .i64) x.1 false)]⟩)]
theorem SB (d:Int×Int×List (Int×Int)):gwp (Dt) (Sy d.1 d.2.1 d.2.2) c18 0 (V8 [.tmp 6,.tmp 7] (G8 d) (MI d)) (Qr 93 (AL.can Dp d))=YV d.1 d.2.1 d.2.2:=by kernel_rfl
abbrev Sb:Prop:=OkC Tryz.prog 18 NK
theorem S5 (h:∀ (re:Int) (pi:Int) (C:List (Int×Int)),(re=1∧ZK C∧1≤pi∧pi≤100000∧G7 C≤pi)→YV re pi C):OkC Tryz.prog 18 NK :=
 Z8 Z03 mixed (C:=Dt) (V:=fun (d:Int×Int×List (Int×Int))=>YV d.1 d.2.1 d.2.2) ⟨(.cons YS (.cons Kx .nil)),(XsOk.cons (Fm Q73 mixed (C:=X8) ⟨(.cons YS (.cons QR (.cons Vy .nil))),XsOk.nil,ItsOk.nil,YlOk.nil,IysOk.nil,XfOk.nil⟩ (fun _=>X7)) XsOk.nil),ItsOk.nil,YlOk.nil,IysOk.nil,XfOk.nil⟩ (SB) fun d hp=>h d.1 d.2.1 d.2.2 hp
theorem S9:Sb:=S5 fun re pi C h=>by
 obtain⟨rfl,hC,p1,p2,p3⟩:=h;unfold YV;(try delta lI gD sT I64);have n8:=hC.1;have hp:(2:Nat) ^ C.length≤2 ^ 8:=Nat.pow_le_pow_right (by omega) n8;have gC:=Nat.one_le_two_pow (n:=C.length);have a0:([pi].any fun n=>decide (n<1)||decide (100000<n))=false:=by simp;omega
 have a1:([(1:Int)].any fun n=>decide (n<1)||decide (100<n))=false:=by decide
 have a2:(([]:List Int).any fun n=>decide (n<0)||decide (100000<n))=false:=rfl;have a3:(C.any fun x1=>Dn 1 (x1.1,x1.2))=false:=Aq hC;have r9:decide (((0:Nat):Int) > 40)=false:=by decide
 have g8:decide (((C.length:Nat):Int) > 8)=false:=by have:=hC.1;exact decide_eq_false (by omega)
 have b0:((0:Int) != 0)=false:=by decide
 simp only[a0,a1,a2,a3,r9,g8,b0,true_and,and_true,exists_eq_left',exists_const,decide_eq_true_eq,decide_eq_false_iff_not,bne_iff_ne,ne_eq,bne_eq_false_iff_eq,Int.toNat_natCast,gt_iff_lt,false_implies,Bool.false_eq_true,Bool.not_true,Bool.not_false,forall_const];have en:∀ s,s<2 ^ C.length→((Q1 C).getD s (0,0,0)).2.2≤pi:=fun s hs=>by rw[Ry hs,(Gw hC hs).1];have:=Q0r hC s C.length (Nat.le_refl _);rw[TC] at this;omega
 refine⟨by simp,fun w1=>⟨by simp,by simp,⟨by omega,fun _ _=>⟨by omega,by omega⟩⟩,(C,1,0,0,0,1,pi,C,0,0,pi,[pi],true,false,1,C,w1),(),by and_intros<;>first|rfl|trivial,?_⟩⟩;refine⟨fun _=>True,fun _=>0,trivial,?_⟩;intro _ _;dsimp only;simp only[Hv];refine⟨fun c=>absurd c (by decide),fun _=>⟨trivial,by first|exact hC|exact⟨trivial,hC⟩|exact⟨trivial,trivial,hC⟩,0,by and_intros<;>first|rfl|trivial,?_⟩⟩;refine⟨fun d=>∃ i:Nat,i≤C.length∧d=(i:Int),fun d=>C.length-d.toNat,⟨0,by omega,rfl⟩,?_⟩;rintro _ ⟨i,hi,rfl⟩;refine⟨fun c=>?_,fun c=>?_⟩
 ·have hi:i<C.length:=by omega
  have p2:(2:Nat) ^ i<2 ^ C.length:=Nat.pow_lt_pow_right (by omega) hi;have lk:=C7 (k:=i) (by omega);have e1:=en _ p2;have ik:InK .i64 ((2 ^ i:Nat):Int)∧(0:Int)≤((2 ^ i:Nat):Int)∧((2 ^ i:Nat):Int)<((2 ^ C.length:Nat):Int):=by
   clear lk e1 en;generalize (2:Nat) ^ i=P at *
   rw[Qj];omega
  simp only[lk,Int.toNat_natCast];refine⟨by omega,ik.1,ik.2.1,ik.2.2,fun c2=>absurd c2 (by omega),fun _=>⟨by rw[Qj];omega,⟨i+1,hi,by omega⟩,by omega⟩⟩
 ·refine⟨by omega,by omega,by omega,by omega,(mW C.length 1,1),⟨rfl,(Q9h _).symm⟩,?_⟩;refine⟨fun d=>∃ s:Nat,1≤s∧s≤2 ^ C.length∧d=(mW C.length s,(s:Int)),fun d=>2 ^ C.length-d.2.toNat,⟨1,by omega,by omega,rfl⟩,?_⟩;rintro _ ⟨s,s1,s2,rfl⟩;dsimp only;simp only[A7,Int.toNat_natCast];refine⟨fun c=>?_,fun c=>?_⟩
  ·have hs:s<2 ^ C.length:=by omega
   have hn:1≤C.length:=by
    rcases Nat.eq_zero_or_pos C.length with e|e
    ·rw[e] at hs;omega
    ·exact e
   have aW:=Z10 (n:=C.length) (s:=s) s1;have jt:(mW C.length (s+1)).set s 1=mW C.length (s+1):=by rw[←aW,List.set_set]
   refine⟨by omega,by omega,(s:Int),((mW C.length s).set s (C.length:Int),(s:Int)),⟨⟨rfl,rfl⟩,rfl⟩,?_⟩;refine⟨fun d=>∃ t:Nat,t≤s∧(t=s∧d=((mW C.length s).set s (C.length:Int),(t:Int))∨t<s∧d=(mW C.length (s+1),(t:Int))),fun d=>d.2.toNat,⟨s,Nat.le_refl _,.inl ⟨rfl,rfl⟩⟩,?_⟩;rintro d ⟨t,ht,hd⟩;have pb:d.2=(t:Int):=by rcases hd with⟨_,rfl⟩|⟨_,rfl⟩<;>rfl
   have hl:d.1.length=2 ^ C.length:=by rcases hd with⟨_,rfl⟩|⟨_,rfl⟩<;>simp[A7]
   simp only[pb,hl,Int.toNat_natCast];refine⟨fun c=>?_,fun c=>?_⟩
   ·have t0:0<t:=by omega
    obtain⟨an,al⟩:=HL (a:=s) (b:=t) (by omega) (by omega);have aa:=Q0l (a:=t-1) (b:=s) (by omega) (by omega);have xA:(t-1) &&& s≤t-1:=Nat.and_le_left;have ec:((t:Int)-1)=((t-1:Nat):Int):=by omega
    have key:0≤d.1.getD (s ^^^ (s &&& t)) 0∧d.1.getD (s ^^^ (s &&& t)) 0≤1∧d.1.set s (My (d.1.getD s 0) (d.1.getD (s ^^^ (s &&& t)) 0+1))=mW C.length (s+1):=by
     rcases hd with⟨rfl,rfl⟩|⟨h1,rfl⟩
     ·have e0:t ^^^ (t &&& t)=0:=by rw[Nat.and_self,Nat.xor_self]
      have v0:((mW C.length t).set t (C.length:Int)).getD 0 0=0:=by rw[Q6 (by rw[List.length_set,A7];omega),List.getElem_set_ne (by omega),←Q6 (d:=0),Q3v (by omega),if_pos (by omega),if_pos rfl]
      have v1:((mW C.length t).set t (C.length:Int)).getD t 0=(C.length:Int):=by rw[Q6 (by rw[List.length_set,A7];omega),List.getElem_set_self]
      dsimp only;rw[e0,v0,v1,List.set_set];refine⟨by omega,by omega,?_⟩;have:My (C.length:Int) (0+1)=1:=by unfold My;split<;>omega
      rw[this,aW]
     ·have v1:(mW C.length (s+1)).getD s 0=1:=by rw[Q3v hs,if_pos (by omega),if_neg (by omega)]
      have v0:(mW C.length (s+1)).getD (s ^^^ (s &&& t)) 0=if s ^^^ (s &&& t)=0 then 0 else 1:=by rw[Q3v (by omega),if_pos (by omega)]
      dsimp only;have b:(0:Int)≤(if s ^^^ (s &&& t)=0 then 0 else 1)∧(if s ^^^ (s &&& t)=0 then (0:Int) else 1)≤1:=by split<;>omega
      rw[v0,v1];refine⟨b.1,b.2,?_⟩;have:My (1:Int) ((if s ^^^ (s &&& t)=0 then 0 else 1)+1)=1:=by unfold My;split<;>omega
      rw[this,jt]
    obtain⟨k1,k2,k3⟩:=key;have et:=en t (by omega);refine⟨by omega,by omega,fun _=>?_,fun c2=>absurd et c2⟩;simp only[an,ec,aa,Int.toNat_natCast];refine⟨by omega,by omega,by omega,by omega,by rw[Qj];omega,by omega,by omega,by rw[Qj];omega,(mW C.length (s+1),(((t-1) &&& s:Nat):Int)),⟨rfl,k3⟩,⟨(t-1) &&& s,by omega,.inr ⟨by omega,rfl⟩⟩,by omega⟩
   ·have t0:t=0:=by omega
    have hd1:d.1=mW C.length (s+1):=by
     rcases hd with⟨h1,_⟩|⟨_,rfl⟩
     ·omega
     ·rfl
    refine⟨by rw[Qj];omega,(mW C.length (s+1),(s:Int)+1),⟨rfl,hd1⟩,⟨s+1,by omega,by omega,rfl⟩,by dsimp only;omega⟩
  ·have hs:s=2 ^ C.length:=by omega
   subst hs;have e1:(((2 ^ C.length:Nat):Int)-1).toNat=2 ^ C.length-1:=by omega
   refine⟨by rw[Qj];omega,by omega,by omega,?_⟩;rw[e1,Q3v (by omega),if_pos (by omega)];rcases Nat.eq_zero_or_pos C.length with e|e
   ·rw[e]
   ·have:=Nat.pow_le_pow_right (show 1≤2 by omega) e;rw[if_neg (by omega),if_neg (by omega)]
end Go.Proofs.Tryz
namespace Go.V
open Go
theorem Q4n {P:Program}{σ:Heap}:Ret P σ (.val .bo true) [] (.bool true) σ :=
 ⟨⟨.refl _,Dead.refl _⟩,fun _=>rfl,X0,fun j b hj=>by simp at hj,fun j j' i hj=>by simp at hj,by simp[SR,KC]⟩
theorem FR {P:Program}{f:Nat}(h:∀ (σ:Heap) (K:Value→Heap→Prop),K (.bool true) σ→VCalled P f [] σ K):OkC P f (Yo (.nil:AL Unit) (fun _=>True) (fun _=>.val .bo true) (fun _=>[])):=by
 intro ap cZ σ args vs c v bs av hs hv cg hc;unfold Yo at hs;split at hs
 ·rename_i d hd;obtain⟨rfl,rfl,rfl⟩:=(by simpa using hs:True=c∧SV.val .bo true=v∧[]=bs);have:vs=[]:=by
   cases args with
   |nil=>simpa [SRs] using av
   |cons a l=>simp[AL.dec] at hd
  subst this;refine⟨h σ _ Q4n,fun _ _=>h σ _ ⟨rfl,?_⟩⟩;unfold Tz;cases σ;simp only[List.length_nil,Nat.add_zero,List.getElem?_nil,Option.bind_none,Heap.mk.injEq,and_true];funext i;split
  ·rfl
  ·rename_i wf hi;exact wf i (by simpa using hi)
 ·cases hs
end Go.V
namespace Go.V
open Go Go.ChangeShapes Go.WideShapes Go.RowKit Go.Deep Go.Joins
def Heap.RO (σ:Heap):Prop:=∀ i b,σ.get i=some b→b.wr=false
structure View (w:World) (ρ:Plc) (σ:Heap):Prop where
 rel:HRel ρ σ w
 ro:σ.RO
structure More (ρ:Plc) (σ:Heap) (ρ':Plc) (σ':Heap):Prop where
 n:σ.n≤σ'.n
 pl:∀ i,i<σ.n→∀ p,ρ' i=some p→ρ i=some p
 ag:Agree σ σ'
theorem More.refl (ρ:Plc) (σ:Heap):More ρ σ ρ σ:=⟨Nat.le_refl _,fun _ _ _ h=>h,Agree.refl _⟩
theorem More.trans {ρ ρ' eJ:Plc}{σ σ' aE:Heap}(h:More ρ σ ρ' σ') (k:More ρ' σ' eJ aE):More ρ σ eJ aE :=
 ⟨Nat.le_trans h.n k.n,fun i hi p hp=>h.pl i hi p (k.pl i (Nat.lt_of_lt_of_le hi h.n) p hp),h.ag.trans k.ag h.n⟩
def Z3u (w:World):Prop:=∀ g cs,Q3c g=some cs→∃ e f,w.heap[g]?=some (.cells cs.toArray e f)
theorem View.emptyT (w:World) (ht:Z3u w):View w (fun _=>none) Heap.empty where
 rel:=⟨⟨fun i b h=>(by cases h),fun _ _=>rfl,fun i p h=>(by cases h),fun i j p q b _ h=>(by cases h)⟩,fun g cs hg=>⟨ht g cs hg,fun ⟨_,_,_,h,_⟩=>by cases h⟩⟩
 ro:=fun i b h=>by cases h
theorem View.add {w:World}{ρ:Plc}{σ:Heap}(h:View w ρ σ) (p:Pl) (c:List Value) {C:Array Value}{e:TypeId}{f:Nat×Nat}(hb:w.heap[p.blk]?=some (.cells C e f)) (hs:p.shift+p.ext≤C.size) (hl:c.length≤p.ext) (ht:e=p.esz.ty)
  (hc:∀ (k:Nat) (v:Value),c[k]?=some v→∃ u,w.cell? ⟨p.blk,p.shift+k,none⟩=some u∧VRel ρ σ.n v u) :
  View w (ρ.put σ.n (some p)) (σ.push (.cells c p.esz false p.tight))∧More ρ σ (ρ.put σ.n (some p)) (σ.push (.cells c p.esz false p.tight)):=by
 have aP:∀ i,i<σ.n→∀ q,(ρ.put σ.n (some p)) i=some q→ρ i=some q:=fun i hi q hq=>by unfold Plc.put at hq;rwa [if_neg (by omega)] at hq
 have bL:(σ.push (.cells c p.esz false p.tight)).RO:=fun i b hi=>by
  by_cases e:i=σ.n
  ·subst e;rw[Heap.get_push_self] at hi;obtain rfl:=osj hi;rfl
  ·rw[Heap.get_push_ne _ _ e] at hi;exact h.ro i b hi
 refine⟨⟨⟨⟨?_,?_,?_,?_⟩,fun g cs hg=>⟨(h.rel.tab g cs hg).1,fun ⟨i,_,b,_,hi,hw,_⟩=>by rw[bL i b hi] at hw;cases hw⟩⟩,bL⟩,⟨by simp,aP,fun i hi=>Heap.get_push_lt _ _ hi⟩⟩
 ·intro i b hi;by_cases aL:i=σ.n
  ·subst aL;rw[Heap.get_push_self] at hi;obtain rfl:=osj hi;refine⟨p,by simp[Plc.put],rfl,rfl,hl,⟨C,e,f,hb,hs,ht⟩,fun k v hk=>?_,fun h=>by cases h⟩;obtain⟨u,hu,hv⟩:=hc k v hk;exact⟨u,hu,hv.mono (by simp) aP⟩
  ·rw[Heap.get_push_ne _ _ aL] at hi;obtain⟨q,hq,hB⟩:=h.rel.live i b hi;exact⟨q,by simp[Plc.put,aL,hq],hB.mono (by simp) aP rfl⟩
 ·intro i hi;by_cases aL:i=σ.n
  ·subst aL;rw[Heap.get_push_self] at hi;cases hi
  ·rw[Heap.get_push_ne _ _ aL] at hi;simp[Plc.put,aL,h.rel.dead i hi]
 ·intro i q hq;by_cases aL:i=σ.n
  ·subst aL;simp[Plc.put] at hq;subst hq;exact(Array.getElem?_eq_some_iff.1 hb).1
  ·simp[Plc.put,aL] at hq;exact h.rel.lt i q hq
 ·intro i j q r b _ _ _ bK hw _;rw[bL i b bK] at hw;cases hw
theorem Q2z {P:Program}{fits:TypeId→Bool}{d:Nat}{e:TypeId}{count off n:Nat}(h:rowAt P fits d e count off n=true):off≤count*P.cellsOf e:=by
 cases d with
 |zero=>cases h
 |succ d =>
  unfold rowAt at h;by_cases hs:P.cellsOf e=0
  ·simp[hs] at h
  ·have dH:0<P.cellsOf e:=Nat.pos_of_ne_zero hs;simp only[hs,if_false,Bool.or_eq_true,Bool.and_eq_true,beq_iff_eq,decide_eq_true_eq] at h;have hd:=Nat.div_add_mod off (P.cellsOf e);have hm:=Nat.mod_lt off dH;rcases h with⟨⟨h1,h2⟩,_⟩|⟨h1,_⟩
   ·have:P.cellsOf e*(off / P.cellsOf e)≤P.cellsOf e*count:=Nat.mul_le_mul_left _ (by omega);rw[Nat.mul_comm count];omega
   ·have:P.cellsOf e*(off / P.cellsOf e+1)≤P.cellsOf e*count:=Nat.mul_le_mul_left _ (by omega);rw[Nat.mul_add] at this;rw[Nat.mul_comm count];omega
theorem Lj {P:Program}:∀ {d:Nat}{e:TypeId}{count off:Nat}{u:TypeId}{n:Nat},liesAt P d e count off u n=true→off≤count*P.cellsOf e
 |0,_,_,_,_,_,h=>by cases h
 |d+1,e,count,off,u,n,h=>by
  unfold liesAt at h;rw[Bool.or_eq_true] at h;rcases h with h|h
  ·exact Q2z h
  ·split at h
   ·exact Lj h
   ·cases h
theorem Q2o {P:Program}{w:World}{r:Reach}{base:Nat}{a:Addr}{e:TypeId}{n:Nat}(h:w.has P r base a e n):∃ C row f,w.heap[a.block]?=some (.cells C row f)∧a.off≤C.size∧a.spot=none:=by
 obtain⟨_,hs,row,cells,dy,hl⟩:=h;unfold World.shape? at dy;split at dy
 ·rename_i C e' f hb;obtain⟨rfl,rfl⟩:=(by simpa using dy:e'=row∧C.size=cells);exact⟨C,e',f,hb,Nat.le_trans (Lj hl) (Nat.div_mul_le_self _ _),hs⟩
 ·cases dy
theorem E9 {P:Program}{w:World}{r:Reach}{base:Nat}{t e:TypeId}{v:Value}(ht:P.underlying t=some (.slice e)) (h:Cell.okWide P w r base t v) :
  v=.slice none 0 0∨∃ a len cap,v=.slice (some a) len cap∧w.has P r base a e cap:=by
 unfold Cell.okWide at h;rw[ht] at h;have h':Cell.ok P w r base t v:=by split at h<;>first|exact h|simp_all
 unfold Cell.ok at h';rw[ht] at h';split at h'<;>first|exact .inl rfl|(cases h';done)|skip
 all_goals first|(rename_i h1 h2;simp_all;done)|skip
 all_goals first|(simp_all;exact⟨_,_,_,⟨rfl,rfl,rfl⟩,h'.2.2⟩)|(simp_all)
theorem Q7w {k:IntKind}{x:Int}(h:(Lit.int k x).wf=true):k.min≤x∧x≤k.max:=by simpa [Lit.wf] using h
theorem View.calls {P:Program}{f:FuncId}{w:World}{ρ:Plc}{σ:Heap}(h:View w ρ σ) {args:List Value}{az:Array Value}(hl:LRel ρ σ.n args az.toList) (hc:VCallsTo P f args σ fun v _=>v=.bool true) :
  Calls P f az w fun e w'=>e=.returned (.bool true)∧Below w.heap.size w w':=by
 refine (hc ρ w az h.rel hl).mono fun e w' ⟨c,he,v,ρ',σ',hv,hr,_,hx⟩=>?_;subst hv;have:c=.bool true:=by cases hr;rfl
 subst this;exact⟨he,hx.os,hx.tape,hx.output,hx.size,fun B hB=>hx.keep B hB fun ⟨i,p,b,_,hi,hw,_⟩=>by rw[h.ro i b hi] at hw;cases hw⟩
theorem BW {H:Type}{enc:TypeId×Value→H}{P:Program}(hl:laidOutB P=true) {W W':World}{sp:Nat→Bool}(hb:Below W.heap.size W W') :
  ∀ {ts:List TypeId}{vs:List Value}{ds:List (DataW H)}{ps:List MemPlace},(∀ t∈ts,P.readableRec t=true∧t<P.types.size)→DataW.TrodAll enc P W 0 (fun _=>true) true ts vs ds ps→(∀ p∈ps,p.block<W.heap.size)→(∀ p∈ps,sp p.block=true) →
   DataW.TrodAll enc P W' 0 sp true ts vs ds ps
 |[],vs,ds,ps,_,h,_,_=>by obtain⟨rfl,rfl,rfl⟩:=trodAll_nil h;rfl
 |t::ts,vs,ds,ps,ht,h,aj,hs=>by
  obtain⟨v,cI,d,ds',p,q,rfl,rfl,rfl,h1,h2⟩:=trodAll_cons h;obtain⟨r1,r2⟩:=ht t (by simp);exact⟨p,q,WideElems.Trod_stays hl r1 r2 h1 (fun x hx=>hb.same (aj x (by simp[hx]))) (fun x hx=>hs x (by simp[hx])),
   BW hl hb (fun t mS=>ht t (by simp[mS])) h2 (fun x hx=>aj x (by simp[hx])) (fun x hx=>hs x (by simp[hx])),rfl⟩
theorem Q21 {H:Type}{enc:TypeId×Value→H}{P:Program}{f:Func}{s:ChangeSpec}{apart fresh handsOn again:Bool}{W W':World}{args:Array Value}{ds gs:List (DataW H)}{before:List MemPlace}{tb:TypeId}
  (hl:laidOutB P=true) (hp:f.params.toList.all (fun t=>P.readableRec t&&decide (t<P.types.size))=true) (ll:s.vars=[]) (hr:f.resultTypes=#[tb]) (bp:P.underlying tb=some .bool) (hs:s.fn H ds={results:=[.lit (.bool true)],args:=ds})
  (hW:DataW.Whole enc P f.params.toList s.vars apart W args.toList ds gs before) (hb:Below W.heap.size W W'):s.post enc P f apart fresh handsOn again W args (.bool true) W':=by
 have aj:∀ p∈before,p.block<W.heap.size:=fun p hp=>hW.lt p hp;have wS:=hW;obtain⟨p,q,hA,hV,rfl,hz,hn⟩:=hW;rw[ll] at hV;obtain⟨rfl,rfl⟩:=trodVars_none hV;have br:∀ t∈f.params.toList,P.readableRec t=true∧t<P.types.size:=fun t ht=>by have:=List.all_eq_true.1 hp t ht;simpa using this
 have eR:s.fn H (ds++[])={results:=[.lit (.bool true)],args:=ds}:=by rw[List.append_nil];exact hs
 have cX:∀ (b:Nat) (sp:Nat→Bool) (hd:Bool),DataW.TrodAll enc P W' b sp hd f.resultTypes.toList ((Value.bool true).resultList f.resultTypes.size) (s.fn H (ds++[])).results []:=fun b sp hd=>by rw[eR,hr];exact trodAll_mk1 (shut_bool bp _)
 have av:∀ sp:Nat→Bool,(∀ x∈p++[],sp x.block=true)→DataW.TrodAll enc P W' 0 sp true f.params.toList args.toList (s.fn H (ds++[])).args p:=fun sp eH=>by rw[eR];exact BW hl hb br hA (fun x hx=>aj x (by simp[hx])) (fun x hx=>eH x (by simp[hx]))
 have cD:∀ sp:Nat→Bool,DataW.TrodVars enc P W' sp s.vars (s.fn H (ds++[])).vars []:=fun sp=>by rw[eR,ll];rfl
 have hold:∀ x∈p++[],(fun b=>decide (b<W.heap.size)) x.block=true:=fun x hx=>by simpa using aj x hx
 refine⟨ds,[],p++[],[],p,[],wS,cX _ _ _,av _ hold,cD _,World.keptBut_mono (fun x hx=>⟨hx,?_⟩) (hb.frame (·∈p++[])),fun _=>?_⟩
 ·exact .inr (by simpa using hx)
 ·refine⟨ok_one hr rfl (okWide_bool_mk bp _),_,_,([]++p)++[],⟨[]++p,[],trodAll_append (av _ (fun _ _=>rfl)) (cX _ _ _),cD _,rfl,?_,?_⟩,?_⟩
  ·intro b off hx;have aL:MemPlace.cell b off∈p++[]:=by simpa using hx
   rw[hb.frozen (aj _ aL)];exact hz b off aL
  ·intro ha;simpa using hn ha
  ·intro x hx _;simpa using hx
def KFs (T:Kind→TypeId→Bool) (sz:TypeId→Nat):Kind→List (TypeId×Nat)→Nat→Bool
 |_,[],_=>false
 |k,[p],off=>p.2==off&&(sz p.1==k.size&&T k p.1)
 |.pair a b,p::q::r,off=>p.2==off&&(sz p.1==a.size&&(T a p.1&&KFs T sz b (q::r) (off+a.size)))
 |_,_::_::_,_=>false
def KTy (P:Program):Nat→Kind→TypeId→Bool
 |0,_,_=>false
 |n+1,k,t=>match P.underlying t with
  |some (.struct fs)=>P.cellsOf t==k.size&&KFs (KTy P n) P.cellsOf k (fs.toList.map fun f=>(f.type,f.offset)) 0
  |some (.array m e)=>P.cellsOf t==k.size&&KFs (KTy P n) P.cellsOf k ((List.range m).map fun i=>(e,i*P.cellsOf e)) 0
  |some (.int ik)=>(match k with|.i k'=>decide (k'=ik)|_=>false)
  |some .bool=>(match k with|.bo=>true|_=>false)
  |some .string=>(match k with|.st=>true|_=>false)
  |some (.slice e)=>(match k with|.list k'=>P.cellsOf e==k'.size&&(k'.flat&&KTy P n k' e)|_=>false)
  |_=>false
def KWf:(k:Kind)→k.T→Prop
 |.i ik,x=>InK ik x
 |.bo,_=>True
 |.st,s=>s.length≤maxLen
 |.list k,l=>l.length≤maxLen∧∀ x∈l,KWf k x
 |.pair a b,x=>KWf a x.1∧KWf b x.2
theorem More.le {ρ ρ':Plc}{σ σ':Heap}(h:More ρ σ ρ' σ'):σ.Le σ':=⟨h.n,fun i b hb=>by rw[h.ag i (σ.lt hb)];exact hb⟩
def ArgIs (w:World) (ρ:Plc) (σ:Heap) (k:Kind) (cs:List Value):Prop :=
 ∃ ρ' σ' vs x,View w ρ' σ'∧More ρ σ ρ' σ'∧LRel ρ' σ'.n vs cs∧KC σ' k x vs∧KWf k x
theorem ArgIs.pair {w:World}{ρ:Plc}{σ:Heap}{a b:Kind}{cs ds:List Value}(h1:ArgIs w ρ σ a cs) (h2:∀ ρ σ,View w ρ σ→ArgIs w ρ σ b ds):ArgIs w ρ σ (.pair a b) (cs++ds):=by obtain⟨ρ1,σ1,p_,x1,k1,k2,k3,k4,k5⟩:=h1;obtain⟨ρ2,σ2,kR,x2,m1,m2,m3,m4,m5⟩:=h2 ρ1 σ1 k1;exact⟨ρ2,σ2,p_++kR,(x1,x2),m1,k2.trans m2,(k3.mono m2.n m2.pl).append m3,⟨p_,kR,rfl,k4.mono m2.le,m4⟩,k5,m5⟩
section
variable {H:Type}{enc:TypeId×Value→H}{P:Program}{w:World}{r:Reach}{base:Nat}
def okc (P:Program) (w:World) (r:Reach) (base:Nat) (ts:List TypeId) (cs:List Value):Prop:=∀ (i:Nat) v u,cs[i]?=some v→ts[i]?=some u→Cell.okWide P w r base u v
theorem Fi {T:Kind→TypeId→Bool}{sz:TypeId→Nat}{g:TypeId→Option (List TypeId)}(hT:∀ k t ts,T k t=true→g t=some ts→ts.length=k.size) :
  ∀ {k:Kind}{L:List (TypeId×Nat)}{off:Nat}{ic:List (List TypeId)},KFs T sz k L off=true→L.mapM (fun p=>g p.1)=some ic→ic.flatten.length=k.size
 |k,[],_,_,h,_=>by simp[KFs] at h
 |k,[p],off,ic,h,hm=>by
  simp only[KFs,Bool.and_eq_true] at h;cases hg:g p.1 with
  |none=>simp[hg] at hm
  |some ts =>simp[hg] at hm;subst hm;simpa using hT _ _ _ h.2.2 hg
 |.pair a b,p::q::r,off,ic,h,hm=>by
  simp only[KFs,Bool.and_eq_true] at h;rw[List.mapM_cons] at hm;cases hg:g p.1 with
  |none=>simp[hg] at hm
  |some ts =>
   cases hr:(q::r).mapM (fun p=>g p.1) with
   |none=>simp[hg,hr] at hm
   |some tr =>simp[hg,hr] at hm;subst hm;have:=Fi hT h.2.2.2 hr;simp only[List.flatten_cons,List.length_append,this,hT _ _ _ h.2.2.1 hg,Kind.size]
 |.i _,_::_::_,_,_,h,_|.bo,_::_::_,_,_,h,_|.st,_::_::_,_,_,h,_|.list _,_::_::_,_,_,h,_=>by cases h
theorem BY {α β γ:Type}{f:α→β}{g:β→Option γ}:∀ (l:List α),(l.map f).mapM g=l.mapM (fun x=>g (f x))
 |[]=>rfl
 |a::l=>by simp only[List.map_cons,List.mapM_cons,BY l]
theorem HQ {β:Type}{x:β}{f:Nat→Option β}(h:∀ i,f i=some x):∀ l:List Nat,l.mapM f=some (List.replicate l.length x)
 |[]=>rfl
 |a::l=>by simp[List.mapM_cons,h,HQ h l,List.replicate_succ]
theorem EM:∀ {n:Nat}{k:Kind}{t:TypeId}{d:Nat}{ts:List TypeId},KTy P n k t=true→P.cellTypes d t=some ts→ts.length=k.size
 |0,_,_,_,_,h,_=>by cases h
 |_+1,_,_,0,_,_,h=>by cases h
 |n+1,k,t,d+1,ts,h,ht=>by
  have ih:∀ k t ts,KTy P n k t=true→P.cellTypes d t=some ts→ts.length=k.size:=fun k t ts h1 h2=>EM h1 h2;unfold Program.cellTypes at ht;unfold KTy at h;cases hu:P.underlying t with
  |none=>rw[hu] at h;cases h
  |some u =>
   rw[hu] at h ht;cases u<;>first|(cases h;done)|skip
   all_goals simp only at h ht
   ·split at h<;>first|(cases h;done)|(obtain rfl:=osj ht;rfl)
   ·split at h<;>first|(cases h;done)|(obtain rfl:=osj ht;rfl)
   ·split at h<;>first|(cases h;done)|(obtain rfl:=osj ht;rfl)
   ·split at h<;>first|(cases h;done)|(obtain rfl:=osj ht;rfl)
   ·rename_i m e;rw[Bool.and_eq_true] at h;cases hc:P.cellTypes d e with
    |none=>rw[hc] at ht;cases ht
    |some te =>rw[hc] at ht;obtain rfl:=osj ht;refine Fi (g:=fun t=>P.cellTypes d t) ih h.2 ?_;rw[BY,HQ (x:=te) (fun _=>hc)];simp
   ·rename_i fs;rw[Bool.and_eq_true] at h;cases hc:fs.toList.mapM fun f=>P.cellTypes d f.type with
    |none=>rw[hc] at ht;cases ht
    |some ic =>rw[hc] at ht;obtain rfl:=osj ht;refine Fi (g:=fun t=>P.cellTypes d t) ih h.2 ?_;rw[BY];exact hc
theorem BG {T:Kind→TypeId→Bool}{sz:TypeId→Nat}{Q:TypeId→List Value→Prop}{R:Kind→List Value→Prop}(hT:∀ k t cs,T k t=true→Q t cs→R k cs) (hR:∀ a b cs ds,R a cs→R b ds→R (.pair a b) (cs++ds)) (cs:List Value) :
  ∀ {k:Kind}{L:List (TypeId×Nat)}{off:Nat},KFs T sz k L off=true→(∀ p∈L,Q p.1 ((cs.drop p.2).take (sz p.1)))→R k ((cs.drop off).take k.size)
 |k,[],_,h,_=>by simp[KFs] at h
 |k,[p],off,h,hq=>by simp only[KFs,Bool.and_eq_true,beq_iff_eq] at h;have:=hq p (by simp);rw[h.1,h.2.1] at this;exact hT _ _ _ h.2.2 this
 |.pair a b,p::q::r,off,h,hq=>by
  simp only[KFs,Bool.and_eq_true,beq_iff_eq] at h;have h1:=hq p (by simp);rw[h.1,h.2.1] at h1;have h2:=BG hT hR cs h.2.2.2 fun x hx=>hq x (List.mem_cons_of_mem _ hx);have e:(cs.drop off).take (Kind.pair a b).size=(cs.drop off).take a.size++(cs.drop (off+a.size)).take b.size:=by rw[Kind.size,List.take_add,List.drop_drop]
  rw[e];exact hR _ _ _ _ (hT _ _ _ h.2.2.1 h1) h2
 |.i _,_::_::_,_,h,_|.bo,_::_::_,_,h,_|.st,_::_::_,_,h,_|.list _,_::_::_,_,h,_=>by cases h
def FlatIs (k:Kind) (cs:List Value):Prop:=∃ y:k.T,(∀ h,KC h k y cs)∧KWf k y∧∀ ρ m,LRel ρ m cs cs
theorem FlatIs.pair {a b:Kind}{cs ds:List Value}(h1:FlatIs a cs) (h2:FlatIs b ds):FlatIs (.pair a b) (cs++ds):=by obtain⟨x,k1,k2,k3⟩:=h1;obtain⟨y,m1,m2,m3⟩:=h2;exact⟨(x,y),fun h=>⟨cs,ds,rfl,k1 h,m1 h⟩,⟨k2,m2⟩,fun ρ m=>(k3 ρ m).append (m3 ρ m)⟩
theorem LRel.one {ρ:Plc}{n:Nat}{v c:Value}(h:VRel ρ n v c):LRel ρ n [v] [c]:=.cons h (.nil _ _)
theorem H7 {fs:Array Field}{f:Field}(h:f∈fs.toList):∃ i:Nat,fs[i]?=some f:=by obtain⟨i,hi,rfl⟩:=List.mem_iff_getElem.1 h;exact⟨i,by simp at hi;simp[hi]⟩
theorem CJ {sp:Nat→Bool}{held:Bool}:∀ {n:Nat}{k:Kind}{t:TypeId}{fuel:Nat}{cs:List Value}{x:DataW H×List MemPlace},KTy P n k t=true→k.flat=true→DataW.trod enc P w base sp held fuel t cs=some x→FlatIs k cs
 |0,_,_,_,_,_,h,_,_=>by cases h
 |n+1,k,t,fuel,cs,x,h,hf,hx=>by
  unfold KTy at h;cases hu:P.underlying t with
  |none=>rw[hu] at h;cases h
  |some u =>
   rw[hu] at h;have hR:∀ a b cs ds,((a.flat=true→FlatIs a cs)∧True)→((b.flat=true→FlatIs b ds)∧True)→(((Kind.pair a b).flat=true→FlatIs (.pair a b) (cs++ds))∧True):=fun a b cs ds h1 h2=>⟨fun hf=>by
    simp only[Kind.flat,Bool.and_eq_true] at hf;exact(h1.1 hf.1).pair (h2.1 hf.2),trivial⟩
   have hT:∀ k t cs,KTy P n k t=true→(∃ fuel x,DataW.trod enc P w base sp held fuel t cs=some x)→((k.flat=true→FlatIs k cs)∧True):=fun k t cs h1 ⟨fuel,x,h2⟩=>⟨fun hf=>CJ h1 hf h2,trivial⟩;cases u<;>first|(cases h;done)|skip
   all_goals simp only at h
   ·split at h<;>first|(cases h;done)|skip
    obtain⟨b,rfl,_⟩:=DataW.trod_bool hu hx;exact⟨b,fun _=>rfl,trivial,fun _ _=>.one (.bool _)⟩
   ·split at h<;>first|(cases h;done)|skip
    obtain rfl:=of_decide_eq_true h;obtain⟨z,rfl,_,hw⟩:=DataW.trod_int hu hx;exact⟨z,fun _=>rfl,Q7w hw,fun _ _=>.one (.int _ _)⟩
   ·split at h<;>first|(cases h;done)|skip
    obtain⟨s,rfl,_,hs⟩:=DataW.trod_string hu hx;exact⟨s.data.toList,fun _=>rfl,hs,fun _ _=>.one (.string _)⟩
   ·split at h<;>first|(cases h;done)|(cases hf;done)
   ·rename_i m e;simp only[Bool.and_eq_true,beq_iff_eq] at h;obtain⟨xs,m',_,_,hl,jh,hx⟩:=DataW.trod_array hu hx;have:=(BG (R:=fun k cs=>(k.flat=true→FlatIs k cs)∧True) hT hR cs h.2 fun p hp=>by
     simp only[List.mem_map,List.mem_range] at hp;obtain⟨i,hi,rfl⟩:=hp;have:=hx i hi;rw[List.getElem?_eq_getElem (by omega)] at this;exact⟨_,_,this⟩).1 hf
    rwa [List.drop_zero,List.take_of_length_le (by omega)] at this
   ·rename_i fs;simp only[Bool.and_eq_true,beq_iff_eq] at h;obtain⟨xs,m',_,_,hl,jh,hx⟩:=DataW.trod_struct hu hx;have:=(BG (R:=fun k cs=>(k.flat=true→FlatIs k cs)∧True) hT hR cs h.2 fun p hp=>by
     simp only[List.mem_map] at hp;obtain⟨f,lQ,rfl⟩:=hp;obtain⟨i,hi⟩:=H7 lQ;have:=hx i f hi;have iw:i<fs.size:=(Array.getElem?_eq_some_iff.1 hi).1;rw[List.getElem?_eq_getElem (by omega)] at this;exact⟨_,_,this⟩).1 hf
    rwa [List.drop_zero,List.take_of_length_le (by omega)] at this
theorem Rows.range {α:Type}{R:α→List Value→Prop}{n:Nat}{c:List Value}{x:Nat→α}:∀ (m:Nat),(∀ i,i<m→R (x i) ((c.drop (i*n)).take n))→Rows R ((List.range m).map x) (c.take (m*n))
 |0,_=>by simp;exact .nil
 |m+1,h=>by
  have e:c.take ((m+1)*n)=c.take (m*n)++(c.drop (m*n)).take n:=by rw[Nat.add_mul,Nat.one_mul,List.take_add]
  rw[List.range_succ,List.map_append,e];exact(Rows.range m fun i hi=>h i (by omega)).append (by simpa using Rows.cons (h m (by omega)) .nil)
theorem A8 {α:Type}[Inhabited α] {m:Nat}{p:Nat→α→Prop}(h:∀ i,i<m→∃ x,p i x):∃ f:Nat→α,∀ i,i<m→p i (f i) :=
 ⟨fun i=>if hi:i<m then (h i hi).choose else default,fun i hi=>by simp only[hi,dif_pos];exact(h i hi).choose_spec⟩
instance KInh (k:Kind):Inhabited k.T:=⟨k.dflt⟩
theorem View.list {ρ:Plc}{σ:Heap}(h:View w ρ σ) {n:Nat}{k:Kind}{t e:TypeId}{fuel:Nat}{cs:List Value}{x:DataW H×List MemPlace}(hu:P.underlying t=some (.slice e)) (hs:P.cellsOf e=k.size) (hf:k.flat=true) (hk:KTy P n k e=true)
  (hx:DataW.trod enc P w 0 (fun _=>true) true fuel t cs=some x) (ah:okc P w r base [t] cs):ArgIs w ρ σ (.list k) cs:=by
 rcases open_slice hu hx with⟨rfl,_⟩|⟨a,len,cap,m,fu,D,Pl,rfl,hb,hl,hm,iC,_,hel⟩
 ·exact⟨ρ,σ,[.slice none 0 0],[],h,More.refl _ _,.one .nilSl,⟨_,rfl,.inl ⟨rfl,rfl⟩⟩,by simp[maxLen],fun _ hx=>by cases hx⟩
 simp only[if_true] at iC;subst iC;rw[hs] at hel;have sg:w.has P r base a e m:=by
  rcases E9 hu (ah 0 _ t rfl rfl) with hh|⟨a',wT,aq,hh,h2⟩
  ·cases hh
  ·cases hh;exact h2
 obtain⟨C,row,f,aF,aT,eH⟩:=Q2o sg;obtain⟨blk,off,spot⟩:=a;simp only at aF aT eH;subst eH;have lJ:∀ i,(⟨blk,off,none⟩:Addr).add i=⟨blk,off+i,none⟩:=fun i=>by unfold Addr.add;split<;>simp_all
 obtain⟨X,hX⟩:=A8 (α:=k.T×List Value) (m:=m) (p:=fun i p=>p.2.length=k.size∧(∀ j,j<k.size→w.cell? ⟨blk,off+i*k.size+j,none⟩=p.2[j]?)∧(∀ h,KC h k p.1 p.2)∧KWf k p.1∧∀ ρ m,LRel ρ m p.2 p.2) fun i hi=>by
  obtain⟨cs',h1,h2⟩:=hel i hi;obtain⟨_,k1,k2⟩:=World.cells?_some h1;obtain⟨y,m1,m2,m3⟩:=CJ hk hf h2;refine⟨(y,cs'),k1,fun j hj=>?_,m1,m2,m3⟩;have:=k2 j hj;rw[lJ] at this;have e2:(⟨blk,off+i*k.size,none⟩:Addr).add j=⟨blk,off+i*k.size+j,none⟩:=by unfold Addr.add;split<;>simp_all
  rw[e2] at this;exact this
 have dH:=k.size_pos;let c:List Value:=(List.range (m*k.size)).map fun j=>((X (j / k.size)).2[j % k.size]?).getD undef;have cG:c.length=m*k.size:=by simp[c]
 have hdiv:∀ j,j<m*k.size→j / k.size<m:=fun j hj=>Nat.div_lt_of_lt_mul (by rw[Nat.mul_comm];exact hj);have bm:∀ j,j<m*k.size→∃ v,c[j]?=some v∧w.cell? ⟨blk,off+j,none⟩=some v∧∀ ρ m,VRel ρ m v v:=fun j hj=>by
  have h1:=hX (j / k.size) (hdiv j hj);have ga:j % k.size<k.size:=Nat.mod_lt _ dH;have h2:=h1.2.1 _ ga;have e:off+j / k.size*k.size+j % k.size=off+j:=by rw[Nat.add_assoc,Nat.div_add_mod']
  rw[e] at h2;have h3:j % k.size<(X (j / k.size)).2.length:=by rw[h1.1];exact ga
  refine⟨(X (j / k.size)).2[j % k.size],?_,?_,fun ρ m=>(h1.2.2.2.2 ρ m).2 _ _ _ (List.getElem?_eq_getElem h3) (List.getElem?_eq_getElem h3)⟩
  ·simp only[c,List.getElem?_map,List.getElem?_range hj,Option.map_some,List.getElem?_eq_getElem h3,Option.getD_some]
  ·rw[h2,List.getElem?_eq_getElem h3]
 have sj:∀ i,i<m→(c.drop (i*k.size)).take k.size=(X i).2:=fun i hi=>by
  have h1:=hX i hi;have hle:i*k.size+k.size≤m*k.size:=by have:(i+1)*k.size≤m*k.size:=Nat.mul_le_mul_right _ hi;rw[Nat.add_mul] at this;omega
  apply List.ext_getElem?;intro j;by_cases hj:j<k.size
  ·rw[List.getElem?_take_of_lt hj,List.getElem?_drop];have eL:i*k.size+j<m*k.size:=by omega
   have e1:(i*k.size+j) / k.size=i:=by rw[Nat.mul_comm,Nat.mul_add_div dH,Nat.div_eq_of_lt hj,Nat.add_zero]
   have e2:(i*k.size+j) % k.size=j:=by rw[Nat.mul_comm,Nat.mul_add_mod,Nat.mod_eq_of_lt hj]
   have h3:j<(X i).2.length:=by rw[h1.1];exact hj
   simp only[c,List.getElem?_map,List.getElem?_range eL,Option.map_some,e1,e2,List.getElem?_eq_getElem h3,Option.getD_some]
  ·rw[List.getElem?_eq_none (by simp;omega),List.getElem?_eq_none (by omega)]
 have aC:off+m*k.size≤C.size:=by
  rcases Nat.eq_zero_or_pos (m*k.size) with h0|h0
  ·omega
  ·obtain⟨v,_,h2,_⟩:=bm (m*k.size-1) (by omega);unfold World.cell? at h2;simp only[aF] at h2;have:=(Array.getElem?_eq_some_iff.1 (by simpa using h2)).1;omega
 obtain⟨hv,wU⟩:=h.add ⟨blk,off,m*k.size,⟨k.size,row⟩,false⟩ c aF aC (by simp[cG]) rfl (fun j v hj=>by
  have bZ:j<m*k.size:=by rw[←cG];exact(List.getElem?_eq_some_iff.1 hj).1
  obtain⟨v',h1,h2,h3⟩:=bm j bZ;obtain rfl:=osj (hj.symm.trans h1);exact⟨v,h2,h3 _ _⟩)
 have hlen:((List.range len).map fun i=>(X i).1).length=len:=by simp
 refine⟨_,_,[.slice (some ⟨σ.n,0,none⟩) len m],(List.range len).map fun i=>(X i).1,hv,wU,.one ?_,⟨_,rfl,.inr ⟨σ.n,0,m,c,⟨k.size,row⟩,false,false,by rw[hlen],by rw[hlen];exact hl,Heap.get_push_self _ _,rfl,?_,?_⟩⟩,?_,fun y hy=>?_⟩
 ·refine .sl _ _ _ _ _ _ (by simp) fun p hp=>?_;simp[Plc.put] at hp;subst hp;exact⟨Nat.le_refl _,(fun h=>by cases h),0,by simp,by simp,.inl rfl⟩
 ·rw[hlen,cG,Nat.zero_add];exact Nat.mul_le_mul_right _ hl
 ·rw[hlen,List.drop_zero];refine Rows.range len fun i hi=>?_;rw[sj i (by omega)];exact(hX i (by omega)).2.2.1 _
 ·rw[hlen];exact Nat.le_trans hl hm
 ·obtain⟨i,hi,rfl⟩:=List.mem_map.1 hy;exact(hX i (by have:=List.mem_range.1 hi;omega)).2.2.2.1
def Kind.lev1:Kind→Bool
 |.list k=>k.flat
 |.pair a b=>a.lev1&&b.lev1
 |_=>true
theorem IQ {ts:List TypeId}{cs:List Value}(h:okc P w r base ts cs) (o n:Nat):okc P w r base ((ts.drop o).take n) ((cs.drop o).take n):=fun i v u h1 h2=>by
 have hi:i<n:=by have:=(List.getElem?_eq_some_iff.1 h1).1;rw[List.length_take] at this;omega
 rw[List.getElem?_take_of_lt hi,List.getElem?_drop] at h1 h2;exact h _ v u h1 h2
theorem TA {T:Kind→TypeId→Bool}{sz:TypeId→Nat}{g:TypeId→Option (List TypeId)}(hT:∀ k t ts,T k t=true→g t=some ts→ts.length=k.size) :
  ∀ {k:Kind}{L:List (TypeId×Nat)}{off:Nat}{ic:List (List TypeId)},KFs T sz k L off=true→L.mapM (fun p=>g p.1)=some ic→∀ p∈L,off≤p.2∧g p.1=some ((ic.flatten.drop (p.2-off)).take (sz p.1))
 |k,[],_,_,h,_=>by simp[KFs] at h
 |k,[p],off,ic,h,hm=>by
  simp only[KFs,Bool.and_eq_true,beq_iff_eq] at h;intro p' hp;obtain rfl:=List.mem_singleton.1 hp;cases hg:g p'.1 with
  |none=>simp[hg] at hm
  |some ts =>
   simp[hg] at hm;subst hm;refine⟨by omega,?_⟩;rw[h.1,Nat.sub_self,List.drop_zero,h.2.1,List.take_of_length_le]
   ·simp
   ·simp[hT _ _ _ h.2.2 hg]
 |.pair a b,p::q::r,off,ic,h,hm=>by
  simp only[KFs,Bool.and_eq_true,beq_iff_eq] at h;rw[List.mapM_cons] at hm;intro p' hp;cases hg:g p.1 with
  |none=>simp[hg] at hm
  |some ts =>
   cases hr:(q::r).mapM (fun p=>g p.1) with
   |none=>simp[hg,hr] at hm
   |some tr =>
    simp[hg,hr] at hm;subst hm;have hlen:=hT _ _ _ h.2.2.1 hg;rcases List.mem_cons.1 hp with rfl|hp
    ·refine⟨by omega,?_⟩;rw[hg,h.1,Nat.sub_self,List.drop_zero,h.2.1,List.flatten_cons,List.take_append,←hlen,Nat.sub_self,List.take_zero,List.append_nil,List.take_length]
    ·obtain⟨h1,h2⟩:=TA hT h.2.2.2 hr p' hp;refine⟨by omega,?_⟩;have e1:ts.drop (p'.2-off)=[]:=List.drop_eq_nil_of_le (by omega);have e2:p'.2-off-a.size=p'.2-(off+a.size):=by omega
     rw[h2,List.flatten_cons,List.drop_append,hlen,e1,e2,List.nil_append]
 |.i _,_::_::_,_,_,h,_|.bo,_::_::_,_,_,h,_|.st,_::_::_,_,_,h,_|.list _,_::_::_,_,_,h,_=>by cases h
theorem LW:∀ {n:Nat}{k:Kind}{t:TypeId}{d:Nat}{ts:List TypeId}{fuel:Nat}{cs:List Value}{x:DataW H×List MemPlace},KTy P n k t=true→k.lev1=true→P.cellTypes d t=some ts→okc P w r base ts cs→DataW.trod enc P w 0 (fun _=>true) true fuel t cs=some x→∀ ρ σ,View w ρ σ→ArgIs w ρ σ k cs
 |0,_,_,_,_,_,_,_,h,_,_,_,_=>by cases h
 |_+1,_,_,0,_,_,_,_,_,_,h,_,_=>by cases h
 |n+1,k,t,d+1,ts,fuel,cs,x,h,hf,fb,ah,hx=>by
  intro ρ σ hv;by_cases ck:k.flat=true
  ·obtain⟨y,h1,h2,h3⟩:=CJ h ck hx;exact⟨ρ,σ,cs,y,hv,More.refl _ _,h3 _ _,h1 _,h2⟩
  unfold KTy at h;cases hu:P.underlying t with
  |none=>rw[hu] at h;cases h
  |some u =>
   rw[hu] at h;let Q:TypeId→List Value→Prop:=fun t cs=>(∃ fuel x,DataW.trod enc P w 0 (fun _=>true) true fuel t cs=some x)∧∃ ts,P.cellTypes d t=some ts∧okc P w r base ts cs;let R:Kind→List Value→Prop:=fun k cs=>k.lev1=true→∀ ρ σ,View w ρ σ→ArgIs w ρ σ k cs;have hR:∀ a b cs ds,R a cs→R b ds→R (.pair a b) (cs++ds):=fun a b cs ds h1 h2 hl ρ σ hv=>by simp only[Kind.lev1,Bool.and_eq_true] at hl;exact(h1 hl.1 ρ σ hv).pair fun ρ σ hv=>h2 hl.2 ρ σ hv
   have hT:∀ k t cs,KTy P n k t=true→Q t cs→R k cs:=fun k t cs h1 ⟨⟨fuel,x,h2⟩,ts,h3,h4⟩ hl=>LW h1 hl h3 h4 h2;have hlen:∀ k t ts,KTy P n k t=true→P.cellTypes d t=some ts→ts.length=k.size:=fun k t ts h1 h2=>EM h1 h2;unfold Program.cellTypes at fb;rw[hu] at fb;cases u<;>first|(cases h;done)|skip
   all_goals simp only at h
   ·split at h<;>first|(cases h;done)|(exact absurd rfl ck)
   ·split at h<;>first|(cases h;done)|(exact absurd rfl ck)
   ·split at h<;>first|(cases h;done)|(exact absurd rfl ck)
   ·rename_i e;split at h<;>first|(cases h;done)|skip
    simp only[Bool.and_eq_true,beq_iff_eq] at h;simp only[Option.some.injEq] at fb;subst fb;exact hv.list hu h.1 h.2.1 h.2.2 hx ah
   ·rename_i m e;simp only[Bool.and_eq_true,beq_iff_eq] at h;obtain⟨xs,m',_,_,hl,jh,hx⟩:=DataW.trod_array hu hx;simp only at fb;cases hc:P.cellTypes d e with
    |none=>rw[hc] at fb;cases fb
    |some te =>
     rw[hc] at fb;obtain rfl:=osj fb;have oh:((List.range m).map fun i=>(e,i*P.cellsOf e)).mapM (fun p:TypeId×Nat=>P.cellTypes d p.1)=some (List.replicate m te):=by rw[BY,HQ (x:=te) (fun _=>hc)];simp
     have:=BG (Q:=Q) (R:=R) hT hR cs h.2 (fun p hp=>by
      have ji:=TA (g:=fun t=>P.cellTypes d t) hlen h.2 oh p hp;simp only[List.mem_map,List.mem_range] at hp;obtain⟨i,hi,rfl⟩:=hp;have:=hx i hi;rw[List.getElem?_eq_getElem (by omega)] at this;exact⟨⟨_,_,this⟩,_,ji.2,IQ ah _ _⟩) hf ρ σ hv
     rwa [List.drop_zero,List.take_of_length_le (by omega)] at this
   ·rename_i fs;simp only[Bool.and_eq_true,beq_iff_eq] at h;obtain⟨xs,m',_,_,hl,jh,hx⟩:=DataW.trod_struct hu hx;simp only at fb;cases hc:fs.toList.mapM fun f=>P.cellTypes d f.type with
    |none=>rw[hc] at fb;cases fb
    |some ic =>
     rw[hc] at fb;obtain rfl:=osj fb;have oh:(fs.toList.map fun f=>(f.type,f.offset)).mapM (fun p:TypeId×Nat=>P.cellTypes d p.1)=some ic:=by rw[BY];exact hc
     have:=BG (Q:=Q) (R:=R) hT hR cs h.2 (fun p hp=>by
      have ji:=TA (g:=fun t=>P.cellTypes d t) hlen h.2 oh p hp;simp only[List.mem_map] at hp;obtain⟨f,lQ,rfl⟩:=hp;obtain⟨i,hi⟩:=H7 lQ;have:=hx i f hi;have iw:i<fs.size:=(Array.getElem?_eq_some_iff.1 hi).1;rw[List.getElem?_eq_getElem (by omega)] at this;exact⟨⟨_,_,this⟩,_,ji.2,IQ ah _ _⟩) hf ρ σ hv
     rwa [List.drop_zero,List.take_of_length_le (by omega)] at this
def isAgg (P:Program) (t:TypeId):Bool:=match P.underlying t with
 |some (.struct _)=>true
 |some (.array _ _)=>true
 |_=>false
theorem View.arg {ρ:Plc}{σ:Heap}(h:View w ρ σ) {n:Nat}{k:Kind}{t:TypeId}{v:Value}{d:DataW H}{p:List MemPlace}(hk:KTy P n k t=true) (hl:k.lev1=true) (ha:isAgg P t=!k.one) (ah:Value.okWide P w r base t v) (hd:DataW.Trod enc P w 0 (fun _=>true) true t v d p) :
  ∃ ρ' σ' vv x,View w ρ' σ'∧More ρ σ ρ' σ'∧VRel ρ' σ'.n vv v∧KV σ' k x vv∧KWf k x:=by
 obtain⟨fuel,hd⟩:=hd;by_cases ez:isAgg P t=true
 ·have bQ:k.one=false:=by rw[ez] at ha;simpa using ha.symm
  have:∃ cs,v=.agg cs∧cs.size=P.cellsOf t∧Row.okWide P w r base t cs:=by
   unfold isAgg at ez;unfold Value.okWide at ah;split at ez<;>first|(cases ez;done)|skip
   ·rename_i hu;rw[hu] at ah;exact ah
   ·rename_i hu;rw[hu] at ah;exact ah
  obtain⟨cs,rfl,aC,ts,fb,_,bY⟩:=this;have hlen:=EM hk fb;have aw:P.cellsOf t=k.size:=by
   unfold isAgg at ez;cases n with
   |zero=>cases hk
   |succ n =>
    unfold KTy at hk;split at ez<;>first|(cases ez;done)|skip
    all_goals
     rename_i hu;rw[hu] at hk;simp only[Bool.and_eq_true,beq_iff_eq] at hk;exact hk.1
  have mE:okc P w r base ts cs.toList:=fun i v u h1 h2=>by have hi:i<ts.length:=(List.getElem?_eq_some_iff.1 h2).1;obtain⟨u',h3,h4⟩:=bY i v (by simpa using h1);rw[Nat.mod_eq_of_lt hi] at h3;obtain rfl:=osj (h2.symm.trans h3);exact h4
  obtain⟨ρ',σ',vs,x,k1,k2,k3,k4,k5⟩:=LW hk hl fb mE (show DataW.trod enc P w 0 _ true fuel t cs.toList=_ from hd) ρ σ h;exact⟨ρ',σ',.agg vs.toArray,x,k1,k2,VRel.agg_of (ds:=cs.toList) k3,.inr ⟨bQ,vs,rfl,k4⟩,k5⟩
 ·have bQ:k.one=true:=by
   have:isAgg P t=false:=by simpa using ez
   rw[this] at ha;simpa using ha.symm
  have iP:=Kind.one_size bQ;have bm:Cell.okWide P w r base t v∧v.cells.toList=[v]:=by
   have h1:isAgg P t=false:=by simpa using ez
   unfold isAgg at h1;have h2:Cell.okWide P w r base t v:=by
    unfold Value.okWide at ah;split at ah
    ·rename_i hu;rw[hu] at h1;cases h1
    ·rename_i hu;rw[hu] at h1;cases h1
    ·exact ah
   refine⟨h2,?_⟩;cases v<;>first|rfl|skip
   all_goals
    exfalso;cases n with
    |zero=>cases hk
    |succ n =>
     unfold KTy at hk;unfold Cell.okWide Cell.ok at h2;cases hu:P.underlying t with
     |none=>rw[hu] at hk;cases hk
     |some u =>rw[hu] at hk h2 h1;cases u<;>first|(cases hk;done)|(cases h1;done)|(cases h2;done)|(simp at h2;done)
  have fb:P.cellTypes 1 t=some [t]:=by
   have h1:isAgg P t=false:=by simpa using ez
   unfold isAgg at h1;unfold Program.cellTypes;cases n with
   |zero=>cases hk
   |succ n =>
    unfold KTy at hk;cases hu:P.underlying t with
    |none=>rw[hu] at hk;cases hk
    |some u =>rw[hu] at h1;cases u<;>first|rfl|(cases h1;done)
  rw[bm.2] at hd;have mE:okc P w r base [t] [v]:=fun i v' u h1 h2=>by
   cases i with
   |zero=>cases h1;cases h2;exact bm.1
   |succ i=>simp at h1
  obtain⟨ρ',σ',vs,x,k1,k2,k3,k4,k5⟩:=LW hk hl fb mE hd ρ σ h;have:vs.length=1:=by rw[KC.length k4];exact iP
  obtain⟨vv,rfl⟩:=List.length_eq_one_iff.1 this;exact⟨ρ',σ',vv,x,k1,k2,k3.2 0 _ _ rfl rfl,.inl ⟨bQ,k4⟩,k5⟩
def AWf:(ks:List Kind)→AT ks→Prop
 |[],_=>True
 |[k],x=>KWf k x
 |k::k'::ks,x=>KWf k x.1∧AWf (k'::ks) x.2
def Q7t (P:Program):List Kind→List TypeId→Bool
 |[],[]=>true
 |k::ks,t::ts=>(KTy P 8 k t&&(k.lev1&&(isAgg P t==!k.one)))&&Q7t P ks ts
 |_,_=>false
theorem View.args:∀ {ks:List Kind}{ts:List TypeId}{vs:List Value}{ds:List (DataW H)}{ps:List MemPlace}{ρ:Plc}{σ:Heap},View w ρ σ→Q7t P ks ts=true→(∀ (j:Nat) t v,ts[j]?=some t→vs[j]?=some v→Value.okWide P w r base t v)→DataW.TrodAll enc P w 0 (fun _=>true) true ts vs ds ps →
  ∃ ρ' σ' nB x,View w ρ' σ'∧More ρ σ ρ' σ'∧LRel ρ' σ'.n nB vs∧L1 σ' ks x nB∧AWf ks x
 |[],[],vs,ds,ps,ρ,σ,h,_,_,hA=>by obtain⟨rfl,rfl,rfl⟩:=trodAll_nil hA;exact⟨ρ,σ,[],(),h,More.refl _ _,.nil _ _,rfl,trivial⟩
 |[k],[t],vs,ds,ps,ρ,σ,h,hk,hv,hA=>by obtain⟨v,cI,d,ds',p,q,rfl,rfl,rfl,h1,h2⟩:=trodAll_cons hA;obtain⟨rfl,rfl,rfl⟩:=trodAll_nil h2;simp only[Q7t,Bool.and_eq_true,beq_iff_eq] at hk;obtain⟨ρ',σ',vv,x,k1,k2,k3,k4,k5⟩:=h.arg hk.1.1 hk.1.2.1 hk.1.2.2 (hv 0 t v rfl rfl) h1;exact⟨ρ',σ',[vv],x,k1,k2,.one k3,⟨vv,rfl,k4⟩,k5⟩
 |k::k'::ks,t::ts,vs,ds,ps,ρ,σ,h,hk,hv,hA=>by obtain⟨v,cI,d,ds',p,q,rfl,rfl,rfl,h1,h2⟩:=trodAll_cons hA;simp only[Q7t,Bool.and_eq_true,beq_iff_eq] at hk;obtain⟨ρ1,σ1,vv,x,k1,k2,k3,k4,k5⟩:=h.arg hk.1.1 hk.1.2.1 hk.1.2.2 (hv 0 t v rfl rfl) h1;obtain⟨ρ2,σ2,nB,y,m1,m2,m3,m4,m5⟩:=k1.args (ks:=k'::ks) hk.2 (fun j t v h1 h2=>hv (j+1) t v h1 h2) h2;exact⟨ρ2,σ2,vv::nB,(x,y),m1,k2.trans m2,.cons (k3.mono m2.n m2.pl) m3,⟨vv,nB,rfl,k4.vcall m2.le,m4⟩,k5,m5⟩
 |[],_::_,_,_,_,_,_,_,hk,_,_|_::_,[],_,_,_,_,_,_,hk,_,_|[_],_::_::_,_,_,_,_,_,_,hk,_,_=>by simp[Q7t] at hk
theorem Q31 (hT:Z3u w) {f:Nat}{sp:CSp}(eH:OkC P f sp) (he:We P f) {ks:List Kind}{ts:List TypeId}{args:Array Value}{ds:List (DataW H)}{ps:List MemPlace}(hk:Q7t P ks ts=true)
  (hv:∀ (j:Nat) t v,ts[j]?=some t→args.toList[j]?=some v→Value.okWide P w r base t v) (hA:DataW.TrodAll enc P w 0 (fun _=>true) true ts args.toList ds ps)
  (hs:∀ x:AT ks,AWf ks x→∃ c,sp (fun _ _=>none) (Cy ks x)=some (c,.val .bo true,[])∧c):Calls P f args w fun e w'=>e=.returned (.bool true)∧Below w.heap.size w w':=by
 obtain⟨ρ,σ,nB,x,k1,k2,k3,k4,k5⟩:=(View.emptyT w hT).args hk hv hA;obtain⟨c,h1,h2⟩:=hs x k5;exact k1.calls k3 (eH.true he (B2 k4) h1 h2)
end
end Go.V
namespace Go.V
open Go
theorem Ti {H:Type}{enc:TypeId×Value→H}{P:Program}{w:World}{b:Nat}{sp:Nat→Bool}{hd:Bool}:∀ {ts:List TypeId}{vs:List Value}{ds:List (DataW H)}{ps:List MemPlace},DataW.TrodAll enc P w b sp hd ts vs ds ps→ds.length=ts.length
 |[],[],[],_,_=>rfl
 |t::ts,v::vs,d::ds,ps,h=>by obtain⟨p,q,_,h2,_⟩:=h;simp[Ti h2]
 |[],[],_::_,_,h|[],_::_,_,_,h|_::_,[],_,_,h|_::_,_::_,[],_,h=>h.elim
end Go.V
namespace Go.Proofs.Tryz
open Go Go.V
def Z4z:List (Option FEnt):=[
 none,
 none,
 some (.code c2 [] 1),
 some (.code c3 [.tmp 6] 203),
 some (.code c4 [.tmp 2] 186),
 some (.code c5 [.tmp 2,.tmp 3] 54),
 some (.code c6 [.cell 2 true 4,.cell 3 true 2] 45),
 some (.code c7 [.tmp 4,.tmp 5] 28),
 some (.code c8 [.tmp 4] 16),
 some (.codeJ c9 [.tmp 6,.tmp 7] 29),
 some (.code c10 [.tmp 2] 6),
 some (.code c11 [.tmp 0] 34),
 some (.code c12 [.tmp 0] 42),
 some (.code c13 [.cell 6 true 2,.tmp 7,.tmp 8] 37),
 some (.code c14 [.cell 4 true 2] 8),
 some (.code c15 [.tmp 4,.tmp 5] 15),
 some (.code c16 [.tmp 4,.tmp 5,.tmp 6] 73),
 some (.code c17 [.tmp 6,.tmp 7,.tmp 8] 60),
 some (.code c18 [.tmp 6,.tmp 7] 93),
 some (.code c19 [.tmp 0] 48),
 some (.code c20 [.tmp 2] 29),
 some (.code c21 [.tmp 2] 5),
 some (.code c22 [.cell 2 true 2] 41),
 some (.code c23 [.cell 4 true 2,.tmp 5] 21),
 some (.code c24 [.tmp 2] 13),
 some (.codeJ c25 [.tmp 4,.tmp 5] 62),
 some (.code c26 [.cell 2 true 2,.tmp 3] 14),
 some (.codeJ c27 [.tmp 4,.tmp 5] 18),
 some (.code c28 [.tmp 4] 26),
 some (.code c29 [.cell 6 true 3,.tmp 7] 33),
 some (.code c30 [.tmp 2,.tmp 3] 41),
 some (.code c31 [.tmp 4,.tmp 5,.tmp 6] 29),
 some (.code c32 [.tmp 4] 63),
 some (.codeJ c33 [.tmp 2] 15),
 some (.code c34 [.tmp 6] 21),
 some (.code c35 [.cell 6 true 3,.tmp 7] 58),
 some (.code c36 [.tmp 2] 70),
 some (.code c37 [.tmp 6] 11),
 some (.codeJ c38 [.tmp 6,.tmp 7] 130),
 some (.codeJ c39 [.tmp 8,.tmp 9,.tmp 10] 47),
 some (.code c40 [.tmp 2] 10),
 some (.code c41 [.tmp 2] 5),
 some (.code c42 [.tmp 6] 11),
 some (.code c43 [.tmp 4] 9),
 some (.code c44 [.cell 2 true 2] 29),
 some (.code c45 [.tmp 2] 10),
 some (.code c46 [.tmp 6] 11),
 some (.codeJ c47 [.tmp 4] 24),
 some (.codeJ c48 [.tmp 4] 38),
 some (.code c49 [.tmp 2] 18),
 some (.code c50 [.tmp 4] 20),
 some (.code c51 [.tmp 4] 36),
 some (.code c52 [.tmp 2] 15),
 some (.code c53 [.tmp 4] 9),
 some (.code c54 [.cell 6 true 2] 44),
 some (.codeJ c55 [.tmp 2] 16),
 some (.code c56 [.tmp 2,.tmp 3] 64),
 some (.code c57 [.tmp 2] 8),
 some (.code c58 [.tmp 3] 18),
 some (.code c59 [.tmp 4] 9),
 some (.code c60 [.tmp 6] 53),
 some (.code c61 [.tmp 4] 9),
 some (.code c62 [.tmp 4] 13),
 some (.code c63 [.cell 4 true 3,.tmp 5] 60),
 some (.code c64 [.tmp 2] 17),
 some (.code c65 [.tmp 4] 10),
 some (.code c66 [.tmp 6,.tmp 7] 54),
 some (.code c67 [.cell 6 true 3,.tmp 7,.tmp 8] 60),
 some (.code c68 [.tmp 2] 9),
 some (.code c69 [.tmp 4] 13),
 some (.code c70 [.tmp 4] 19),
 some (.code c71 [.tmp 4] 9),
 some (.code c72 [.tmp 2] 6),
 some (.code c73 [.tmp 2] 32),
 some (.code c74 [.tmp 4] 13),
 some (.code c75 [.tmp 3] 11),
 some (.code c76 [.cell 2 true 2] 61),
 some (.code c77 [.tmp 2] 6),
 some (.code c78 [.tmp 4] 19),
 some (.code c79 [.cell 4 true 2] 17),
 some (.code c80 [.cell 4 true 2] 16),
 some (.code c81 [.cell 0 true 2] 2),
 some (.code c82 [] 9),
 some (.code c83 [.tmp 5] 36),
 some (.code c84 [] 11),
 some (.code c85 [] 14),
 some (.code c86 [.tmp 2] 14),
 some (.code c87 [.tmp 2] 14),
 some (.code c88 [.tmp 4] 19),
 some (.code c89 [.tmp 4] 19),
 some (.code c90 [.tmp 2] 19),
 some (.code c91 [.tmp 2] 23),
 some (.code c92 [.cell 4 true 2] 16),
 some (.code c93 [.tmp 2] 26),
 some (.code c94 [.cell 4 true 2] 16),
 some (.code c95 [.tmp 4] 15),
 some (.code c96 [.tmp 4,.tmp 5] 40),
 some (.code c97 [.tmp 4] 19),
 some (.code c98 [] 63),
 some (.code c99 [] 134),
 some (.code Z3z [.tmp 2] 8),
 some (.code Z1y [] 148),
 some (.code Z5e [.tmp 4] 9),
 some (.code Z4v [.tmp 2] 6),
 some (.code Z49 [.tmp 2] 26),
 some (.code Z43 [.cell 4 true 2] 16),
 some (.code Z3p [] 53),
 some (.code Z55 [] 220),
 some (.code Z20 [] 49),
 some (.code Z57 [] 56),
 some (.code Z5b [] 65),
 some (.code Z4c [.tmp 6,.tmp 7] 57),
 some (.code Z4u [] 32),
 some (.code Z41 [.tmp 6] 133),
 some (.code Z2l [.tmp 4] 17),
 some (.code Z4a [.tmp 8] 84),
 some (.code Z4e [.tmp 8,.tmp 9] 168),
 some (.code Z2g [.tmp 2] 19),
 some (.code Z25 [.tmp 2] 25),
 some (.code Z3h [] 53),
 some (.code Z5a [] 60),
 some (.code Z5d [] 67),
 some (.code Z4j [.tmp 8,.tmp 9] 63),
 some (.code Z44 [] 34),
 some (.code Z4g [.tmp 8] 141),
 some (.code Z4w [.tmp 10] 90),
 some (.code Z4l [.tmp 10,.tmp 11] 178),
 some (.code Z4h [.tmp 4] 19),
 some (.code Z53 [] 58),
 some (.code Z4o [] 76),
 some (.code Z54 [.tmp 2] 7),
 some (.code Z48 [.tmp 2] 33),
 some (.code Z4y [.tmp 6] 15),
 some (.code Z4r [.tmp 10] 36),
 some (.code Z56 [] 82),
 some (.code Z51 [.tmp 8] 18),
 some (.code Z40 [.tmp 12] 41),
 some (.code Z4f [] 38),
 some (.code Z50 [.tmp 8,.tmp 9] 28),
 some (.code Z4m [.tmp 10,.tmp 11] 32)]
def tab:Tab:=fun f=>(Z4z[f]?).join
theorem Q74:EntsOk Tryz.prog 0 Z4z:=⟨trivial,trivial,Z5p,Z5q,fun4,Z58,Z5w,Z5l,Z5v,Z5j,Z0m,Z2h,Z1g,Z2t,Q8i,Q9l,Z0h,Z0c,Z03,Z0l,Z3t,Z3b,Z2c,Q97,Z2q,Z36,Z2n,Z3y,Z29,Z22,Z2i,Z09,Q82,Z15,Z14,Q73,Z07,Q8z,Z3a,Z33,Z3g,Z21,Z2z,Z30,Z2b,Q8w,Q94,Z2d,Q90,Q98,Q7v,Z0k,Z1z,Z3s,Z24,Q9y,Q9t,Z1c,Q89,Z0j,Z0b,Z0s,Q7z,Z32,Z27,Z28,Z1s,Z2p,Z2o,Z3e,Z2a,Q80,Q96,Z0g,Z0a,Z17,Q83,Q9s,Z2r,Z2f,Z23,Z1v,Q8x,Z0n,Q7x,Q8n,Z2s,Z0w,Z0t,Q9u,Z26,Z38,Z3i,Z39,Z2e,Z3w,Z2u,Q8d,Q84,Z1b,Q69,Q5s,Z11,Q9v,Q9d,Q8f,Q5z,Z0u,Q5v,Q8q,Q9k,Z00,Z0f,Q9c,Q65,Q7y,Q81,Q68,Q5p,Q5o,Z08,Q8o,Q88,Q9j,Q8j,Q8u,Q8g,Q87,Z0x,Z16,Q8m,Z01,Z0z,Q85,Z04,Q8e,Q9x,Z0r,Q9m,Q9i,trivial⟩
theorem Q5w:TabOk Tryz.prog tab:=Q4r Q74
theorem ES:Cu tab 300 NH [] c19 none (ET.of [] 48) CH.empty (Q6a false [.tmp 0] fun v _=>isTrue v)=true:=by kernel_rfl
theorem F8 {σ:Heap}{K:Value→Heap→Prop}(hK:K (.bool true) σ):VCalled Tryz.prog 19 [] σ K:=FW mixed Q5w 300 Z0l (by decide) ES hK
theorem As:Cu tab 300 NH [] c12 none (ET.of [] 42) CH.empty (Q6a false [.tmp 0] fun v _=>isTrue v)=true:=by kernel_rfl
theorem AQ {σ:Heap}{K:Value→Heap→Prop}(hK:K (.bool true) σ):VCalled Tryz.prog 12 [] σ K:=FW mixed Q5w 300 Z1g (by decide) As hK
end Go.Proofs.Tryz
namespace Go.Proofs.Tryz
open Go Go.V Go.Proofs
def Z5u (x:Int×Int×Int×Int):Prop:=(0≤x.1∧x.1≤255)∧(0≤x.2.1∧x.2.1≤255)∧(0≤x.2.2.1∧x.2.2.1≤255)∧(0≤x.2.2.2∧x.2.2.2≤255)
def Su (vl:List (Int×Int×Int×Int)) (to:Int) (mo:List Int):Prop:=vl.length≤9223372036854775807∧(∀ x∈vl,Z5u x)∧(0≤to∧to≤255)∧u8s mo
def Uu (v:Int×Int×Int×Int):Lot:=(Int.tdiv v.1 128,((v.2.1,v.2.1+Int.tmod v.2.2.1 20),1+v.2.2.2))
def M8 (vl:List (Int×Int×Int×Int)):List Lot:=(vl.take 7).map Uu
theorem Iq {vl:List (Int×Int×Int×Int)}{to:Int}{mo:List Int}(h:Su vl to mo):(M8 vl).length≤7∧(∀ y∈M8 vl,Zi y=true∧0≤y.1∧y.1≤1∧y.2.1.2≤y.2.1.1+19∧y.2.2≤256)∧20≤20+Int.tmod to 60∧20+Int.tmod to 60≤79:=by obtain⟨h1,h2,h3,h4⟩:=h;have t1:=Int.tmod_nonneg 60 h3.1;have t2:=Int.tmod_lt_of_pos to (show (0:Int)<60 by decide);refine⟨by simp[M8];omega,fun y hy=>?_,by omega,by omega⟩;obtain⟨v,hv,rfl⟩:=List.mem_map.1 hy;obtain⟨⟨a1,a2⟩,⟨b1,b2⟩,⟨c1,c2⟩,d1,d2⟩:=h2 v (List.mem_of_mem_take hv);have e1:=Int.tdiv_eq_ediv_of_nonneg (b:=128) a1;have e2:=Int.tmod_eq_emod_of_nonneg (b:=20) c1;refine⟨?_,by unfold Uu;dsimp only;omega,by unfold Uu;dsimp only;omega,by unfold Uu;dsimp only;omega,by unfold Uu;dsimp only;omega⟩;rw[Bp];unfold Uu;dsimp only;omega
theorem Q41 {vl:List (Int×Int×Int×Int)}{to:Int}{mo:List Int}(h:Su vl to mo):QF (M8 vl)=0∧Ze (M8 vl) (20+Int.tmod to 60)=0:=by
 obtain⟨h1,h2,h3,h4⟩:=Iq h;have e:QF (M8 vl)=0:=by unfold QF;rw[if_neg (by omega),if_neg];rw[List.any_eq_true];rintro⟨y,hy,hb⟩;rw[(h2 y hy).1] at hb;cases hb
 refine⟨e,?_⟩;unfold Ze;rw[if_neg (by omega),if_neg];rw[show inI (20+Int.tmod to 60) 0 1000=true by unfold inI;rw[decide_eq_true (by omega),decide_eq_true (by omega)];rfl];decide
theorem Q4o {L:List Lot}{T:Int}(h7:L.length≤7) (hT:20≤T) (hL:∀ y∈L,Zi y=true∧0≤y.1∧y.1≤1∧y.2.1.2≤y.2.1.1+19∧y.2.2≤256):U0 L T=true:=by
 rw[Q13 (by omega)];unfold Q78;rw[List.all_eq_true];intro k hk;have hk:=List.mem_range.1 hk;have:=hL (L.getD k Xh) (by rw[Q6 hk];exact List.getElem_mem hk);have hf:Fe (L.getD k Xh) (L.getD k Xh)≤T:=by unfold Fe;rw[Nl];omega
 rw[MH,Int.toNat_natCast];exact⟨rfl,hf,hf,hf⟩
theorem F_:∀ {C:List (List Int)},(∀ c∈C,c≠[])→C.length≤C.flatten.length
 |[],_=>by simp
 |c::C,h=>by have h1:=List.length_pos_iff.2 (h c (by simp));have h2:=F_ (C:=C) fun d hd=>h d (List.mem_cons_of_mem _ hd);simp only[List.length_cons,List.flatten_cons,List.length_append];omega
theorem LA {x:Int}(h:-1000000≤x∧x≤1000000):InK .i64 x:=by rw[Qj];omega
def SG:AL (Unit):=.nil
def Rb (d:Unit):Prop:=True
def Rp (d:Unit):SV:=.val .bo true
def RX (d:Unit):List OB:=[]
def Bu:CSp:=Yo SG Rb Rp RX
abbrev Sa:Prop:=OkC Tryz.prog 19 Bu
theorem S4:Sa:=FR fun _ _ h=>F8 h
def R8:AL (Unit):=.nil
def PE (d:Unit):Prop:=True
def PN (d:Unit):SV:=.val .bo true
def Pq (d:Unit):List OB:=[]
def Dd:CSp:=Yo R8 PE PN Pq
abbrev Rz:Prop:=OkC Tryz.prog 12 Dd
theorem RP:Rz:=FR fun _ _ h=>AQ h
def D9:AL (Int×Int):=(.cons (.k (.i .i64)) (.one (.k (.i .i64))))
def Tf (d:Int×Int):Prop:=True
def MD (d:Int×Int):SV:=.agg [.val (.i .i64) d.1,.val (.i .i64) d.2]
def G6 (d:Int×Int):List OB:=[]
def Nq:CSp:=Yo D9 Tf MD G6
def UJ (a:Int) (b:Int):Prop :=
 ((a=a∧b=b∧(([]:List SV)=[]))∧(True))
def D7:Cx:=⟨[],[],8,[],0,[],[],[],[],false,[],[],[],[]⟩
def SE (a:Int) (b:Int):List (Nat×LoopAnn):=[]
theorem Sj (d:Int×Int):gwp (D7) (SE d.1 d.2) c14 0 (V8 [.cell 4 true 2] (MD d) (G6 d)) (Qr 8 (AL.can D9 d))=UJ d.1 d.2:=by kernel_rfl
abbrev SD:Prop:=OkC Tryz.prog 14 Nq
theorem Sm (h:∀ (a:Int) (b:Int),(True)→UJ a b):OkC Tryz.prog 14 Nq :=
 Z8 Q8i mixed (C:=D7) (V:=fun (d:Int×Int)=>UJ d.1 d.2) ⟨.nil,XsOk.nil,ItsOk.nil,YlOk.nil,IysOk.nil,XfOk.nil⟩ (Sj) fun d hp=>h d.1 d.2 hp
theorem Sf:SD:=Sm fun a b _=>(by and_intros<;>first|rfl|trivial|simp)
def Up:AL ((List (Int×Int×Int×Int))×Int×List Int):=(.one (.agg (.cons (.k (.list (.pair (.i .u8) (.pair (.i .u8) (.pair (.i .u8) (.i .u8)))))) (.cons (.k (.i .u8)) (.one (.k (.list (.i .u8))))))))
def B3 (d:(List (Int×Int×Int×Int))×Int×List Int):Prop:=Su d.1 d.2.1 d.2.2
def VS (d:(List (Int×Int×Int×Int))×Int×List Int):SV:=.tup [.lst 0,.val (.i .i64) (20+Int.tmod d.2.1 60)]
def Vz (d:(List (Int×Int×Int×Int))×Int×List Int):List OB:=[.lst 51 (.pair (.i .i64) (.pair (.pair (.i .i64) (.i .i64)) (.i .i64))) (M8 d.1) false]
def YG:CSp:=Yo Up B3 VS Vz
def Xm (vl:List (Int×Int×Int×Int)) (to:Int) (mo:List Int):Prop :=
 ∃ (e3:Unit) (d30:(List (Int×(Int×Int)×Int))×Int),((True∧True∧(0:Int)=d30.2∧True)∧((vl=vl∧to=to∧mo=mo∧(([]:List SV)=[]))∧(([]:List (Int×(Int×Int)×Int))=d30.1∧false=false)∧True)) ∧
 LoopP (fun (d3:(List (Int×(Int×Int)×Int))×Int) (q3:((List (Int×(Int×Int)×Int))×Int)→Prop) =>
  (((decide (d3.2<(lI vl)))&&(decide (d3.2<(7:Int))))=true →
   (0≤d3.2)∧(d3.2<(List.length vl))∧(I64 (gD vl d3.2 (0,(0,(0,0)))).1)∧((128:Int)≠0)∧(I64 (Int.tdiv (gD vl d3.2 (0,(0,(0,0)))).1 (128:Int)))∧(I64 (gD vl d3.2 (0,(0,(0,0)))).2.1)∧(I64 (gD vl d3.2 (0,(0,(0,0)))).2.1)∧(I64 (gD vl d3.2 (0,(0,(0,0)))).2.2.1)∧((20:Int)≠0)∧(I64 ((gD vl d3.2 (0,(0,(0,0)))).2.1+(Int.tmod (gD vl d3.2 (0,(0,(0,0)))).2.2.1 (20:Int))))∧(True)∧(I64 (gD vl d3.2 (0,(0,(0,0)))).2.2.2)∧(I64 ((1:Int)+(gD vl d3.2 (0,(0,(0,0)))).2.2.2))∧(((List.length d3.1)+(List.length [((Int.tdiv (gD vl d3.2 (0,(0,(0,0)))).1 (128:Int)),((((gD vl d3.2 (0,(0,(0,0)))).2.1),((gD vl d3.2 (0,(0,(0,0)))).2.1+(Int.tmod (gD vl d3.2 (0,(0,(0,0)))).2.2.1 (20:Int)))),((1:Int)+(gD vl d3.2 (0,(0,(0,0)))).2.2.2)))]))*32≤70368744177664)∧(I64 (d3.2+(1:Int)))∧(∃ d4:(List (Int×(Int×Int)×Int))×Int,((True∧True∧(d3.2+(1:Int))=d4.2∧True)∧((vl=vl∧to=to∧mo=mo∧(([]:List SV)=[]))∧((d3.1++[((Int.tdiv (gD vl d3.2 (0,(0,(0,0)))).1 (128:Int)),((((gD vl d3.2 (0,(0,(0,0)))).2.1),((gD vl d3.2 (0,(0,(0,0)))).2.1+(Int.tmod (gD vl d3.2 (0,(0,(0,0)))).2.2.1 (20:Int)))),((1:Int)+(gD vl d3.2 (0,(0,(0,0)))).2.2.2)))])=d4.1∧false=false)∧True))∧q3 d4)) ∧
  (((decide (d3.2<(lI vl)))&&(decide (d3.2<(7:Int))))=false →
   (I64 to)∧((60:Int)≠0)∧(I64 ((20:Int)+(Int.tmod to (60:Int))))∧((True∧((20:Int)+(Int.tmod to (60:Int)))=(20+Int.tmod to 60)∧(([]:List SV)=[]))∧((d3.1=(M8 vl)∧false=false)∧True)))) d30
def Uk:Cx:=⟨[(51,(.pair (.i .i64) (.pair (.pair (.i .i64) (.i .i64)) (.i .i64))))],[(14,Nq)],54,[],0,[],[],[],[],false,[],[],[],[]⟩
def Ha (vl:List (Int×Int×Int×Int)) (to:Int) (mo:List Int):List (Nat×LoopAnn):=[(0,⟨Unit,(List (Int×(Int×Int)×Int))×Int,[1,4,5],fun e x=>[.box 1 0,.lst 7,.val (.i .i64) x.2],fun e x=>[(1,.slot 1,.cells [.val (.list (.pair (.i .u8) (.pair (.i .u8) (.pair (.i .u8) (.i .u8))))) vl,.val (.i .u8) to,.val (.list (.i .u8)) mo] (some 25)),(7,.slot 4,.lst 51 (.pair (.i .i64) (.pair (.pair (.i .i64) (.i .i64)) (.i .i64))) x.1 false)]⟩)]
theorem Bj (d:(List (Int×Int×Int×Int))×Int×List Int):gwp (Uk) (Ha d.1 d.2.1 d.2.2) c5 0 (V8 [.tmp 2,.tmp 3] (VS d) (Vz d)) (Qr 54 (AL.can Up d))=Xm d.1 d.2.1 d.2.2:=by kernel_rfl
abbrev Bf:Prop:=OkC Tryz.prog 5 YG
theorem H8 (h:∀ (vl:List (Int×Int×Int×Int)) (to:Int) (mo:List Int),(Su vl to mo)→Xm vl to mo):OkC Tryz.prog 5 YG :=
 Z8 Z58 mixed (C:=Uk) (V:=fun (d:(List (Int×Int×Int×Int))×Int×List Int)=>Xm d.1 d.2.1 d.2.2) ⟨(.cons Sf .nil),XsOk.nil,ItsOk.nil,YlOk.nil,IysOk.nil,XfOk.nil⟩ (Bj) fun d hp=>h d.1 d.2.1 d.2.2 hp
theorem Bi:Bf:=H8 fun vl to mo h=>by
 obtain⟨h1,h3,h4,h5⟩:=h;unfold Xm;(try delta lI gD sT I64);have t1:=Int.tmod_nonneg 60 h4.1;have t2:=Int.tmod_lt_of_pos to (show (0:Int)<60 by decide);refine⟨(),([],0),(by and_intros<;>first|rfl|trivial|simp),?_⟩;refine⟨fun d=>∃ k:Nat,d.2=k∧k≤7∧k≤vl.length∧d.1=(vl.take k).map Uu,fun d=>7-d.2.toNat,⟨0,rfl,by omega,by omega,rfl⟩,?_⟩;rintro⟨_,_⟩ ⟨k,rfl,k1,k2,rfl⟩;dsimp only;simp only[Int.toNat_natCast];refine⟨fun hc=>?_,fun hc=>?_⟩
 ·rw[Bool.and_eq_true,decide_eq_true_eq,decide_eq_true_eq] at hc;have aR:k<vl.length:=by omega
  have hd:vl.getD k (0,(0,(0,0)))=vl[k]:=Q6 aR;rw[hd];obtain⟨⟨a1,a2⟩,⟨b1,b2⟩,⟨c1,c2⟩,d1,d2⟩:=h3 _ (List.getElem_mem aR);have e1:=Int.tdiv_eq_ediv_of_nonneg (b:=128) a1;have e2:=Int.tmod_eq_emod_of_nonneg (b:=20) c1;have hl:((vl.take k).map Uu).length≤7:=by rw[List.length_map,List.length_take];omega
  have fin:∃ d4:List Lot×Int,((k:Int)+1=d4.2∧(vl.take k).map Uu++[Uu vl[k]]=d4.1)∧d4=((vl.take (k+1)).map Uu,(k:Int)+1):=⟨((vl.take (k+1)).map Uu,(k:Int)+1),⟨rfl,by rw[QX aR,List.map_append];rfl⟩,rfl⟩;simp only[Qj,List.length_cons,List.length_nil];repeat (first|refine And.intro (by first|omega|trivial) ?_)
  refine⟨((vl.take (k+1)).map Uu,(k:Int)+1),?_,⟨k+1,rfl,by omega,by omega,rfl⟩,by show 7-((k:Int)+1).toNat<7-k;omega⟩;rw[QX aR,List.map_append];exact(by and_intros<;>first|rfl|trivial|simp)
 ·have hk:k=7∨k=vl.length:=by
   apply Classical.byContradiction;intro h9;rw[decide_eq_true (show (k:Int)<vl.length by omega),decide_eq_true (show (k:Int)<7 by omega)] at hc;cases hc
  have he:(vl.take k).map Uu=M8 vl:=by
   unfold M8;rcases hk with rfl|rfl
   ·rfl
   ·rw[List.take_length,List.take_of_length_le (by omega)]
  rw[he];refine⟨by rw[Qj];omega,by decide,by rw[Qj];omega,?_⟩;exact(by and_intros<;>first|rfl|trivial|simp)
def Db:AL (List (Int×(Int×Int)×Int)):=(.one (.k (.list (.pair (.i .i64) (.pair (.pair (.i .i64) (.i .i64)) (.i .i64))))))
def Tv (d:List (Int×(Int×Int)×Int)):Prop:=d.length≤1000
def Mv (d:List (Int×(Int×Int)×Int)):SV:=.lst 0
def MN (d:List (Int×(Int×Int)×Int)):List OB:=[.lst 51 (.pair (.i .i64) (.pair (.pair (.i .i64) (.i .i64)) (.i .i64))) d false]
def NO:CSp:=Yo Db Tv Mv MN
def YY (l:List (Int×(Int×Int)×Int)):Prop :=
 (((List.length ([]:List (Int×(Int×Int)×Int)))+(List.length l))*32≤70368744177664)∧(True∧(((([]:List (Int×(Int×Int)×Int))++l)=l∧((List.isEmpty l)&&false)=false)∧True))
def Dg:Cx:=⟨[(51,(.pair (.i .i64) (.pair (.pair (.i .i64) (.i .i64)) (.i .i64))))],[],6,[],0,[],[],[],[],false,[],[],[],[]⟩
def Sw (l:List (Int×(Int×Int)×Int)):List (Nat×LoopAnn):=[]
theorem SN (d:List (Int×(Int×Int)×Int)):gwp (Dg) (Sw d) c10 0 (V8 [.tmp 2] (Mv d) (MN d)) (Qr 6 (AL.can Db d))=YY d:=by kernel_rfl
abbrev SH:Prop:=OkC Tryz.prog 10 NO
theorem SP (h:∀ (l:List (Int×(Int×Int)×Int)),(l.length≤1000)→YY l):OkC Tryz.prog 10 NO :=
 Z8 Z0m mixed (C:=Dg) (V:=fun (d:List (Int×(Int×Int)×Int))=>YY d) ⟨.nil,XsOk.nil,ItsOk.nil,YlOk.nil,IysOk.nil,XfOk.nil⟩ (SN) fun d hp=>h d hp
theorem So:SH:=SP fun l h=>by
 (unfold YY;(try delta lI gD sT I64);simp);omega
def Nj:AL ((List (Int×Int×Int×Int))×Int×List Int):=(.one (.agg (.cons (.k (.list (.pair (.i .u8) (.pair (.i .u8) (.pair (.i .u8) (.i .u8)))))) (.cons (.k (.i .u8)) (.one (.k (.list (.i .u8))))))))
def Bz (d:(List (Int×Int×Int×Int))×Int×List Int):Prop:=Su d.1 d.2.1 d.2.2
def Uh (d:(List (Int×Int×Int×Int))×Int×List Int):SV:=.val .bo true
def Uv (d:(List (Int×Int×Int×Int))×Int×List Int):List OB:=[]
def NU:CSp:=Yo Nj Bz Uh Uv
abbrev Js (vl:List (Int×Int×Int×Int)) (to:Int):=(W6 (M8 vl) (20+Int.tmod to 60))
abbrev HA (vl:List (Int×Int×Int×Int)) (to:Int):=((Js vl to)=(Js vl to)∧(List.isEmpty (Js vl to))=(List.isEmpty (Js vl to)))
abbrev DV (vl:List (Int×Int×Int×Int)):=((M8 vl)=(M8 vl)∧false=false)
def XS (vl:List (Int×Int×Int×Int)) (to:Int) (mo:List Int):Prop :=
 (Su vl to mo)∧((M8 vl).length≤1000)∧((M8 vl).length≤1000)∧((M8 vl).length≤1000)∧((M8 vl).length≤1000)∧∀ (y1:Bool),y1=((Zv (M8 vl) (20+Int.tmod to 60)) != (0:Int))→∀ (y2:Bool),y2=((Ze (M8 vl) (20+Int.tmod to 60)) != (0:Int))→∀ (y3:Bool),y3=(y1||y2)→∀ (y4:Bool),y4=((lI (EF (M8 vl) (20+Int.tmod to 60))) != (lI (M8 vl)))→∀ (y5:Bool),y5=(y3||y4)→∀ (y6:Bool),y6=(decide ((HB (M8 vl) (20+Int.tmod to 60))<(0:Int)))→∀ (y7:Bool),y7=(y5||y6)→∀ (y8:Bool),y8=(decide ((lI (M8 vl)) > (0:Int)))→(y7=false→y8=true→InK .i64 ((lI (Js vl to))-(1:Int)))∧∀ (y9:Bool),y9=(decide ((HB (M8 vl) (20+Int.tmod to 60)) > ((lI (Js vl to))-(1:Int))))→∀ (sk:Bool),sk=(y8&&y9)→∀ (pC:Bool),pC=(y7||sk)→(pC=true →
  (false=true∧(True))) ∧
 (pC=false →
  ∃ (e3:Unit) (d30:(List (Int×Int))×Int),((True∧True∧True∧(0:Int)=(0:Int)∧(0:Int)=d30.2∧True)∧((DV vl)∧((Js vl to)=(Js vl to)∧(Js vl to).isEmpty=(List.isEmpty (Js vl to)))∧(([]:List (Int×Int))=d30.1∧false=false)∧True)) ∧
  LoopP (fun (d3:(List (Int×Int))×Int) (q3:((List (Int×Int))×Int)→Prop) =>
   ∀ (qc:Bool),qc=(decide (d3.2<(lI (M8 vl))))→(qc=true →
    (0≤d3.2)∧(d3.2<(List.length (M8 vl)))∧∀ (pD:Int),pD=(gD (M8 vl) d3.2 (0,((0,0),0))).2.2→((200:Int)≠0)∧∀ (mF:Int),mF=(Int.tmod pD (200:Int))→(I64 ((1:Int)+mF))∧(((List.length d3.1)+(List.length [((0:Int),((1:Int)+mF))]))*16≤70368744177664)∧(I64 (d3.2+(1:Int)))∧(∃ d4:(List (Int×Int))×Int,((True∧True∧True∧(0:Int)=(0:Int)∧(d3.2+(1:Int))=d4.2∧True)∧((DV vl)∧(HA vl to)∧((d3.1++[((0:Int),((1:Int)+mF))])=d4.1∧false=false)∧True))∧q3 d4)) ∧
   (qc=false →
    ∃ (e7:(List (Int×Int))) (d70:Int×Int),((True∧True∧True∧(0:Int)=d70.1∧(0:Int)=d70.2∧True)∧((DV vl)∧(HA vl to)∧(d3.1=e7∧false=false)∧True)) ∧
    LoopP (fun (d7:Int×Int) (q7:(Int×Int)→Prop) =>
     ∀ (j5:Bool),j5=(decide (d7.2<(lI (Js vl to))))→(j5=true →
      ∃ (bF:(List (Int×Int))×Int×Int) (d100:(List (Int×Int))×Int),((True∧True∧True∧d7.1=bF.2.1∧d7.2=bF.2.2∧True∧(0:Int)=d100.2∧True)∧((DV vl)∧(HA vl to)∧(e7=bF.1∧false=false)∧(([]:List (Int×Int))=d100.1∧false=false)∧True)) ∧
      LoopP (fun (d10:(List (Int×Int))×Int) (tP:((List (Int×Int))×Int)→Prop) =>
       (0≤bF.2.2)∧(bF.2.2<(List.length (Js vl to)))∧∀ (mG:List Int),mG=(gD (Js vl to) bF.2.2 [])→∀ (j6:Bool),j6=(decide (d10.2<(lI mG)))→(j6=true →
        (0≤bF.2.2)∧(bF.2.2<(List.length (Js vl to)))∧∀ (j7:List Int),j7=(gD (Js vl to) bF.2.2 [])→(0≤d10.2)∧(d10.2<(List.length j7))∧∀ (mH:Int),mH=(gD j7 d10.2 0)→∀ (gk:Bool),gk=(decide (mH<(0:Int)))→(gk=false→0≤bF.2.2)∧(gk=false→bF.2.2<(List.length (Js vl to)))∧∀ (j8:List Int),j8=(gD (Js vl to) bF.2.2 [])→(gk=false→0≤d10.2)∧(gk=false→d10.2<(List.length j8))∧∀ (mI:Int),mI=(gD j8 d10.2 0)→∀ (mJ:Bool),mJ=(decide (mI≥(lI bF.1)))→∀ (iY:Bool),iY=(gk||mJ)→(iY=true →
         (false=true∧(True))) ∧
        (iY=false →
         (0≤bF.2.2)∧(bF.2.2<(List.length (Js vl to)))∧∀ (j9:List Int),j9=(gD (Js vl to) bF.2.2 [])→(0≤d10.2)∧(d10.2<(List.length j9))∧∀ (gW:Int),gW=(gD j9 d10.2 0)→(0≤gW)∧(gW<(List.length bF.1))∧∀ (iZ:Int),iZ=(gD bF.1 gW (0,0)).1→∀ (i_:Int),i_=(gD bF.1 gW (0,0)).2→(((List.length d10.1)+(List.length [(iZ,i_)]))*16≤70368744177664)∧(I64 (d10.2+(1:Int)))∧(∃ d11:(List (Int×Int))×Int,((True∧True∧True∧bF.2.1=bF.2.1∧bF.2.2=bF.2.2∧True∧(d10.2+(1:Int))=d11.2∧True)∧((DV vl)∧(HA vl to)∧(bF.1=bF.1∧false=false)∧((d10.1++[(iZ,i_)])=d11.1∧false=false)∧True))∧tP d11))) ∧
       (j6=false →
        ((1:Int)=1∧([]:List Int)=[]∧ZK d10.1)∧∀ (ja:Bool),ja=((0:Int) != (0:Int))→(ja=true →
         (false=true∧(True))) ∧
        (ja=false →
         (I64 (bF.2.1+(G7 d10.1)))∧(I64 (bF.2.2+(1:Int)))∧(∃ d12:Int×Int,((True∧True∧True∧(bF.2.1+(G7 d10.1))=d12.1∧(bF.2.2+(1:Int))=d12.2∧True)∧((DV vl)∧(HA vl to)∧(bF.1=e7∧false=false)∧True))∧q7 d12)))) d100) ∧
     (j5=false →
      ((1:Int)=1∧([]:List Int)=[]∧ZK e7)∧∀ (mK:Bool),mK=((0:Int) != (0:Int))→∀ (mL:Bool),mL=((G7 e7) != d7.1)→∀ (jb:Bool),jb=(mK||mL)→(jb=true →
       (false=true∧(True))) ∧
      (jb=false →
       ∀ (jc:Int),jc=(Ce (1:Int) (G7 e7))→((1:Int)=1∧ZK e7∧1≤jc∧jc≤100000∧G7 e7≤jc)∧∀ (mM:Bool),mM=((0:Int)==(0:Int))→∀ (mN:Int),mN=(My (1:Int) (lI (M8 vl)))→∀ (mO:Bool),mO=((if e7.length=0 then 0 else 1)==mN)→∀ (j_:Bool),j_=(mM&&mO)→(j_=true→True)∧∀ (ka:Bool),ka=(j_&&true)→(ka=true→True)∧∀ (mP:Bool),mP=(ka&&true)→(mP=true∧(True))))) d70)) d30)
def N4:Cx:=⟨[(68,(.pair (.i .i64) (.i .i64)))],[(5,YG),(10,NO),(16,DF),(17,HI),(18,NK),(19,Bu),(12,Dd)],186,[],0,[(15,UP)],[],[],[],true,[],[],[],[]⟩
def HP (vl:List (Int×Int×Int×Int)) (to:Int) (mo:List Int):List (Nat×LoopAnn):=[(0,⟨Unit,(List (Int×Int))×Int,[3,5,10,11,12],fun e x=>[.lst 26,.lst 33,.lst 73,.val (.i .i64) (0:Int),.val (.i .i64) x.2],fun e x=>[(26,.slot 3,.lst 51 (.pair (.i .i64) (.pair (.pair (.i .i64) (.i .i64)) (.i .i64))) (M8 vl) false),(33,.slot 5,.lst 46 (.list (.i .i64)) (W6 (M8 vl) (20+Int.tmod to 60)) (List.isEmpty (W6 (M8 vl) (20+Int.tmod to 60)))),(73,.slot 10,.lst 68 (.pair (.i .i64) (.i .i64)) x.1 false)]⟩),
 (2,⟨(List (Int×Int)),Int×Int,[3,5,10,11,13],fun e x=>[.lst 26,.lst 33,.lst 73,.val (.i .i64) x.1,.val (.i .i64) x.2],fun e x=>[(26,.slot 3,.lst 51 (.pair (.i .i64) (.pair (.pair (.i .i64) (.i .i64)) (.i .i64))) (M8 vl) false),(33,.slot 5,.lst 46 (.list (.i .i64)) (W6 (M8 vl) (20+Int.tmod to 60)) (List.isEmpty (W6 (M8 vl) (20+Int.tmod to 60)))),(73,.slot 10,.lst 68 (.pair (.i .i64) (.i .i64)) e false)]⟩),
 (4,⟨(List (Int×Int))×Int×Int,(List (Int×Int))×Int,[3,5,10,11,13,14,15],fun e x=>[.lst 26,.lst 33,.lst 73,.val (.i .i64) e.2.1,.val (.i .i64) e.2.2,.lst 97,.val (.i .i64) x.2],fun e x=>[(26,.slot 3,.lst 51 (.pair (.i .i64) (.pair (.pair (.i .i64) (.i .i64)) (.i .i64))) (M8 vl) false),(33,.slot 5,.lst 46 (.list (.i .i64)) (W6 (M8 vl) (20+Int.tmod to 60)) (List.isEmpty (W6 (M8 vl) (20+Int.tmod to 60)))),(73,.slot 10,.lst 68 (.pair (.i .i64) (.i .i64)) e.1 false),(97,.slot 14,.lst 68 (.pair (.i .i64) (.i .i64)) x.1 false)]⟩)]
theorem Hw (d:(List (Int×Int×Int×Int))×Int×List Int):gwp (N4) (HP d.1 d.2.1 d.2.2) c4 0 (V8 [.tmp 2] (Uh d) (Uv d)) (Qr 186 (AL.can Nj d))=XS d.1 d.2.1 d.2.2:=by kernel_rfl
abbrev Hq:Prop:=OkC Tryz.prog 4 NU
theorem He (h:∀ (vl:List (Int×Int×Int×Int)) (to:Int) (mo:List Int),(Su vl to mo)→XS vl to mo):OkC Tryz.prog 4 NU :=
 Z8 fun4 mixed (C:=N4) (V:=fun (d:(List (Int×Int×Int×Int))×Int×List Int)=>XS d.1 d.2.1 d.2.2) ⟨(.cons Bi (.cons So (.cons A3 (.cons EZ (.cons S9 (.cons S4 (.cons RP .nil))))))),(XsOk.cons T0 XsOk.nil),ItsOk.nil,YlOk.nil,IysOk.nil,XfOk.nil⟩ (Hw) fun d hp=>h d.1 d.2.1 d.2.2 hp
set_option maxHeartbeats 4000000 in
theorem ok_top_TopLotsCut:Hq:=He fun vl to mo h=>by
 unfold XS
 (try delta Js HA DV q4)
 (try delta lI gD sT I64)
 obtain⟨L7,t_,T1,T2⟩:=Iq h;obtain⟨lE,oE⟩:=Q41 h;generalize Su vl to mo=B at h ⊢;generalize M8 vl=L at *
 generalize hT:20+Int.tmod to 60=T at *
 have ev:=Q4o L7 T1 t_;have jd:∀ y∈L,Zi y=true:=fun y hy=>(t_ y hy).1;have pe:Zv L T=0:=by unfold Zv;rw[if_neg (by omega),if_pos ev]
 have pc:W6 L T=HR L T:=by unfold W6;rw[if_pos pe]
 obtain⟨s1,s2,-⟩:=Ez (l:=L) (tl:=T) (by omega) jd ev;obtain⟨rn,ua⟩:=Iy (l:=L) (tl:=T) (by omega) jd oE;obtain⟨rp,-⟩:=Q1v (l:=L) (t:=T) (by omega);have rl:(EF L T).length=L.length:=by rw[ua,rp.length_eq];simp
 have r0:=(Ru (l:=L) (tl:=T) (n:=2 ^ L.length-1) (-1) (by omega) (by have:=Nat.one_le_two_pow (n:=L.length);omega)).1;rw[←rn] at r0;have rc:L≠[]→HB L T≤((HR L T).length:Int)-1:=fun aA=>by rw[rn];exact OH (by omega) jd ev aA
 have hA:ZK (Yt L):=Q2h L7 fun y hy=>by have:=(Bp.1 (jd y hy)).2.2.2.2;omega
 rw[pe,oE,rl,pc];clear rn ua rp rl;generalize HR L T=C at *
 generalize HB L T=N at *
 have xB:C.length≤L.length:=by have h1:=s1.length_eq;rw[List.length_map,List.length_range] at h1;have:=F_ (C:=C) fun c hc=>(s2 c hc).2.1;omega
 refine⟨h,by omega,by omega,by omega,by omega,?_⟩;intro y1 e1 y2 e2 y3 e3 y4 e4 y5 e5 y6 e6 y7 e7 y8 e8;refine⟨fun _ _=>LA (by omega),?_⟩;intro y9 e9 sk bF pC r_;have k1:(decide ((L.length:Int) > 0)&&decide (N > (C.length:Int)-1))=false:=by
  by_cases aA:L=[]
  ·rw[aA];rfl
  ·rw[decide_eq_false (show ¬ N > (C.length:Int)-1 by have:=rc aA;omega),Bool.and_false]
 have ub:pC=false:=by rw[r_,bF,e9,e8,k1,e7,e6,e5,e4,e3,e2,e1,decide_eq_false (show ¬ N<0 by omega)];simp
 refine⟨(fun h=>by rw[ub] at h;cases h),fun _=>⟨(),([],0),by and_intros<;>first|rfl|trivial,?_⟩⟩;clear e1 e2 e3 e4 e5 e6 e7 e8 e9 bF r_ ub;refine⟨fun d=>∃ i:Nat,i≤L.length∧d=((Yt L).take i,(i:Int)),fun d=>L.length-d.2.toNat,⟨0,by omega,by simp⟩,?_⟩;rintro _ ⟨i,hi,rfl⟩;dsimp only;simp only[Int.toNat_natCast];intro qc qb;refine⟨fun c=>?_,fun c=>?_⟩
 ·have ln:i<L.length:=by rw[qb] at c;have:=of_decide_eq_true c;omega
  have hy:=jd (L.getD i (0,((0,0),0))) (by rw[Q6 ln];exact List.getElem_mem ln);have h0:=(Bp.1 hy).2.2.2.2;refine⟨by omega,by omega,?_⟩;intro pD dT;rw[←dT] at h0;refine⟨by decide,?_⟩;intro mF r8;have t1:=Int.tmod_nonneg 200 (show 0≤pD by omega);have t2:=Int.tmod_lt_of_pos pD (show (0:Int)<200 by decide);rw[←r8] at t1 t2;have tl:((Yt L).take i).length=i:=by rw[List.length_take,WL];omega
  refine⟨LA (by omega),by rw[tl];simp only[List.length_cons,List.length_nil];omega,LA (by omega),((Yt L).take (i+1),(i:Int)+1),?_,⟨i+1,ln,rfl⟩,by omega⟩;have e:(Yt L).take (i+1)=(Yt L).take i++[(0,1+mF)]:=by
   rw[QX (show i<(Yt L).length by rw[WL];exact ln)];have:(Yt L)[i]'(by rw[WL];exact ln)=(0,1+mF):=by simp only[Yt,List.getElem_map];rw[r8,dT,Q6 ln]
   rw[this]
  rw[e];and_intros<;>first|rfl|trivial
 ·have ln:i=L.length:=by rw[qb] at c;have:=of_decide_eq_false c;omega
  subst ln;rw[List.take_of_length_le (show (Yt L).length≤L.length by rw[WL];exact Nat.le_refl _)];have Al:=WL L;have nA:B5 (Yt L) C C.length=G7 (Yt L):=Q4q (by rw[Al];exact s1);have nb:=Ig (C:=C) hA (by rw[Al];exact s1);have ab:=ER hA;have cl:∀ k,k<C.length→(C.getD k []).length≤L.length∧∀ i∈C.getD k [],0≤i∧i<L.length:=fun k hk=>E6 s1 (by rw[Q6 hk];exact List.getElem_mem hk);clear qb c;generalize Yt L=A at *
  refine⟨A,(0,0),by and_intros<;>first|rfl|trivial,?_⟩;refine⟨fun d=>∃ k:Nat,k≤C.length∧d=(B5 A C k,(k:Int)),fun d=>C.length-d.2.toNat,⟨0,by omega,rfl⟩,?_⟩;rintro _ ⟨k,hk,rfl⟩;dsimp only;intro j5 pE;refine⟨fun c=>?_,fun c=>?_⟩
  ·have pF:k<C.length:=by rw[pE] at c;have:=of_decide_eq_true c;omega
   obtain⟨c1,c2⟩:=cl k pF;have b1:=nb k hk;have b2:=nb (k+1) pF;have bj:B5 A C (k+1)=B5 A C k+G7 (V3 A (C.getD k [])):=rfl;refine⟨(A,B5 A C k,(k:Int)),([],0),by and_intros<;>first|rfl|trivial,?_⟩;generalize hS:C.getD k []=S at *
   refine⟨fun d=>∃ j:Nat,j≤S.length∧d=(V3 A (S.take j),(j:Int)),fun d=>S.length-d.2.toNat,⟨0,by omega,by simp[V3]⟩,?_⟩;rintro _ ⟨j,hj,rfl⟩;dsimp only;simp only[Int.toNat_natCast,hS];have pl:(V3 A (S.take j)).length=j:=by unfold V3;rw[List.length_map,List.length_take];omega
   refine⟨by omega,by omega,?_⟩;intro mG sq j6 mQ;rw[sq] at mQ;refine⟨fun c=>?_,fun c=>?_⟩
   ·have fK:j<S.length:=by rw[mQ] at c;have:=of_decide_eq_true c;omega
    have a1:=c2 _ (Q0k fK);refine⟨by omega,by omega,?_⟩;intro j7 su;rw[su];refine⟨by omega,by omega,?_⟩;intro mH sw gk sy;refine⟨fun _=>by omega,fun _=>by omega,?_⟩;intro j8 sA;rw[sA];refine⟨fun _=>by omega,fun _=>by omega,?_⟩;intro mI sB mJ sC iY sD;have sE:iY=false:=by rw[sD,sC,sB,sy,sw,decide_eq_false (by omega),decide_eq_false (by omega)];rfl
    refine⟨(fun h=>by rw[sE] at h;cases h),fun _=>⟨by omega,by omega,?_⟩⟩;intro j9 sF;rw[sF];refine⟨by omega,by omega,?_⟩;intro gW sG;rw[sG];refine⟨a1.1,by omega,?_⟩;intro iZ sH i_ sI;have e:V3 A (S.take (j+1))=V3 A (S.take j)++[(iZ,i_)]:=by unfold V3;rw[QX fK,List.map_append,sH,sI,Q6 fK];rfl
    refine⟨by rw[pl];simp only[List.length_cons,List.length_nil];omega,LA (by omega),(V3 A (S.take (j+1)),(j:Int)+1),?_,⟨j+1,fK,rfl⟩,by omega⟩;rw[e];and_intros<;>first|rfl|trivial
   ·have fK:j=S.length:=by rw[mQ] at c;have:=of_decide_eq_false c;omega
    subst fK;rw[List.take_length];have ah:=It hA (c:=S) (by rw[Al];exact c2) (by omega);have xC:=ER ah;refine⟨⟨trivial,trivial,ah⟩,?_⟩;intro ja sJ;have sK:ja=false:=by rw[sJ];rfl
    refine⟨(fun h=>by rw[sK] at h;cases h),fun _=>⟨LA (by omega),LA (by omega),(B5 A C (k+1),(k:Int)+1),?_,⟨k+1,pF,rfl⟩,by omega⟩⟩;rw[bj];and_intros<;>first|rfl|trivial
  ·have pF:k=C.length:=by rw[pE] at c;have:=of_decide_eq_false c;omega
   subst pF;refine⟨⟨trivial,trivial,hA⟩,?_⟩;intro mK sL mL sM jb sN;have sO:jb=false:=by rw[sN,sM,sL,nA];simp
   refine⟨(fun h=>by rw[sO] at h;cases h),fun _=>?_⟩;intro jc sP;rw[Nl] at sP;refine⟨⟨trivial,hA,by omega,by omega,by omega⟩,?_⟩;intro mM sQ mN sR mO sS j_ sU;have g:(if A.length=0 then (0:Int) else 1)=My 1 (L.length:Int):=by rw[Al];unfold My;split<;>split<;>omega
   refine⟨fun _=>trivial,?_⟩;intro ka sV;refine⟨fun _=>trivial,?_⟩;intro mP sW;exact⟨by rw[sW,sV,sU,sS,sR,sQ,g];simp,trivial⟩
theorem Q8t {l:List Int}(h:KWf (.list (.i .u8)) l):u8s l:=fun x hx=>(TK x).1 (h.2 x hx)
theorem Q40 {x:List (Int×Int×Int×Int)×Int×List Int}(h:KWf (.pair (.list (.pair (.i .u8) (.pair (.i .u8) (.pair (.i .u8) (.i .u8))))) (.pair (.i .u8) (.list (.i .u8)))) x):Su x.1 x.2.1 x.2.2:=by obtain⟨h1,h2,h3⟩:=h;have h2:=(TK x.2.1).1 h2;refine⟨h1.1,fun y hy=>?_,⟨h2.1,h2.2⟩,Q8t h3⟩;obtain⟨a,b,c,d⟩:=h1.2 y hy;exact⟨(TK _).1 a,(TK _).1 b,(TK _).1 c,(TK _).1 d⟩
theorem dyePre_of {x:List (Int×Int×Int×Int)×Int×List Int}(h:AWf [.pair (.list (.pair (.i .u8) (.pair (.i .u8) (.pair (.i .u8) (.i .u8))))) (.pair (.i .u8) (.list (.i .u8)))] x):Su x.1 x.2.1 x.2.2:=Q40 h
end Go.Proofs.Tryz