/- A framework for walks, contracts of functions, and their proofs: part 7. -/
import Derived.Test.YtdbeaoaplpddnaaGreatDoorS6
set_option linter.unusedVariables false
namespace Go.Proofs.Tryz
open Go Go.V Go.Proofs
def atS (l:List Nat):Nat→Nat
 |0=>0
 |i+1=>atS l i+l.getD i 0
def Q1z (a m k:Nat):List Int:=(List.range k).map fun (j:Nat)=>(a:Int)+m-1-j
def DI (l:List Nat):Nat→List Int
 |0=>[]
 |i+1=>DI l i++Q1z (atS l i) (l.getD i 0) (l.getD i 0)
def Tp (l:List Nat):Nat→Int
 |0=>0
 |i+1=>K0 (Tp l i) (l.getD i 0:Nat)
def Oy (n:Nat):List Int:=(List.range n).map fun (k:Nat)=>(k:Int)
def Z5b (l:List Nat):Bool :=
 Q5 (Oy (atS l l.length))==0&&Q5 (DI l l.length)==0&&Yr (Oy (atS l l.length))==0&&((Vo (Oy (atS l l.length))).length:Int)==F7 1 (atS l l.length:Nat) &&
  ((Vo (DI l l.length)).length:Int)==Tp l l.length&&((UZ (DI l l.length)).length:Int)==Tp l l.length&&((Q5z (DI l l.length)).length:Int)==(atS l l.length:Int)-l.length
def Q0a:Nat→Nat→List (List Nat)
 |0,_=>[[]]
 |f+1,n=>[]::((List.range n).flatMap fun m=>(Q0a f (n-(m+1))).map fun r=>(m+1)::r)
theorem AW:∀ f n (l:List Nat),l.length≤f→(∀ m∈l,1≤m)→l.sum≤n→l∈Q0a f n
 |0,n,l,h1,_,_=>by have:l=[]:=List.length_eq_zero_iff.1 (by omega);subst this;simp[Q0a]
 |f+1,n,[],_,_,_=>by simp[Q0a]
 |f+1,n,m::r,h1,h2,h3=>by have hm:=h2 m (by simp);rw[List.sum_cons] at h3;simp only[Q0a,List.mem_cons,List.mem_flatMap,List.mem_range,List.mem_map];exact .inr ⟨m-1,by omega,r,AW f _ r (by simpa using h1) (fun x hx=>h2 x (by simp[hx])) (by omega),by rw[show m-1+1=m by omega]⟩
theorem Q85:∀ l∈Q0a 7 7,Z5b l=true:=by decide +kernel
theorem Q2y:∀ (l:List Nat) (k:Nat),k≤l.length→atS l k=(l.take k).sum
 |l,0,_=>by simp[atS]
 |l,k+1,h=>by unfold atS;rw[Q2y l k (by omega),List.take_succ_eq_append_getElem (by omega),List.sum_append,List.getD_eq_getElem?_getD,List.getElem?_eq_getElem (by omega)];simp
theorem Q4c {l:List Nat}(h1:∀ m∈l,1≤m) (h2:l.sum≤7):Z5b l=true:=by
 refine Q85 l (AW 7 7 l ?_ h1 h2);have key:∀ l:List Nat,(∀ m∈l,1≤m)→l.length≤l.sum:=fun l=>by
  induction l with
  |nil=>intro _;simp
  |cons a r ih =>intro h;have:=h a (by simp);have:=ih fun x hx=>h x (by simp[hx]);simp only[List.length_cons,List.sum_cons];omega
 have:=key l h1;omega
theorem Q2v (n:Nat):Oy (n+1)=Oy n++[(n:Int)]:=by simp[Oy,List.range_succ]
theorem Ic (n:Nat):(Oy n).length=n:=by simp[Oy]
theorem Q2b (a m k:Nat):Q1z a m (k+1)=Q1z a m k++[(a:Int)+m-1-k]:=by simp[Q1z,List.range_succ]
theorem RS (l:List Nat):∀ k,(DI l k).length=atS l k
 |0=>rfl
 |k+1=>by unfold DI atS;rw[List.length_append,RS l k];simp[Q1z]
theorem IU (l:List Nat):∀ i j, i ≤ j → atS l i ≤ atS l j
  | i, 0, h => by have:i = 0:=by omega
                  subst this; exact Nat.le_refl _
  | i, j + 1, h => by
    by_cases e:i = j + 1
    · subst e; exact Nat.le_refl _
    · have:=IU l i j (by omega)
      rw [show atS l (j + 1) = atS l j + l.getD j 0 from rfl]; omega
theorem IK (l:List Nat):∀ i,0≤Tp l i∧Tp l i≤(atS l i:Int)
 |0=>by simp[Tp,atS]
 |i+1=>by have ih:=IK l i;unfold Tp atS;rw[Nf];omega
theorem LX:∀ l:List Nat,(∀ m∈l,1≤m)→l.length≤l.sum
 |[],_=>by simp
 |a::r,h=>by have:=h a (by simp);have:=LX r fun x hx=>h x (by simp[hx]);simp only[List.length_cons,List.sum_cons];omega
theorem Q4y {L:List Lot}{T:Int}(h7:L.length≤7) (hT:20≤T) (hL:∀ y∈L,Xd y=true∧0≤y.1∧y.1≤1∧y.2.1.2≤y.2.1.1+19∧y.2.2≤256):Uc L T=true:=by
 rw[Q3v (by omega)];unfold Q8e;rw[List.all_eq_true];intro k hk;have hk:=List.mem_range.1 hk;have:=hL (L.getD k J_) (by rw[Q6 hk];exact List.getElem_mem hk);have hf:FJ (L.getD k J_) (L.getD k J_)≤T:=by unfold FJ;rw[Nf];omega
 rw[Mr,Int.toNat_natCast];exact⟨rfl,hf,hf,hf⟩
theorem Me {x:Int}(h:-1000000≤x∧x≤1000000):InK .i64 x:=by rw[QQ];omega
set_option maxHeartbeats 4000000 in
theorem ok_top_TopTangledLots:MH:=Ml fun vl to mo h=>by
 unfold ZZ
 (try delta J5 Ag TZ q4)
 (try delta lI gD sT I64)
 obtain⟨L7,s_,T1,T2⟩:=IP h;obtain⟨lE,oE⟩:=Q5t h;generalize Sg vl to mo=B at h ⊢;generalize H3 vl=L at *
 generalize hT:20+Int.tmod to 60=T at *
 have ev:=Q4y L7 T1 s_;have pe:Zn L T=0:=by unfold Zn;rw[if_neg (by omega),if_pos ev]
 have pc:W6 L T=Sy L T:=by unfold W6;rw[if_pos pe]
 obtain⟨s1,s2,-⟩:=Q3j (l:=L) (tl:=T) (by omega) (fun y hy=>(s_ y hy).1) ev;rw[pe,pc];generalize Sy L T=C at *
 have oJ:(C.map List.length).sum=L.length:=by rw[←List.length_flatten,s1.length_eq];simp
 have l1:∀ m∈C.map List.length,1≤m:=fun m hm=>by obtain⟨c,hc,rfl⟩:=List.mem_map.1 hm;exact List.length_pos_iff.2 (s2 c hc).2.1
 have gd:=Q4c l1 (by omega);have vU:=LX _ l1;rw[oJ,List.length_map] at vU;have bN:∀ i:Nat,i<C.length→(C.getD i []).length=(C.map List.length).getD i 0:=fun i hi=>by rw[Q6 hi,Q6 (by simpa using hi),List.getElem_map]
 have rj:(C.map List.length).length=C.length:=List.length_map _;have fx:atS (C.map List.length) C.length=L.length:=by rw[←rj,Q2y _ _ (Nat.le_refl _),List.take_length,oJ]
 generalize C.map List.length=l at *
 have jk:=fun i (hi:i≤C.length)=>IU l i C.length hi;rw[fx] at jk;refine⟨h,by omega,by omega,?_⟩;intro y1 e1 y2 e2 y3 e3;have z3:y3=false:=by rw[e3,e1,e2,decide_eq_false (by omega)];rfl
 refine⟨(fun h=>by rw[z3] at h;cases h),fun _=>⟨(),([],[],0,0,0),by and_intros<;>first|rfl|trivial,?_⟩⟩;clear e1 e2 e3 y1 y2;refine⟨fun d=>∃ i:Nat,i≤C.length∧d=(Oy (atS l i),DI l i,Tp l i,(atS l i:Int),(i:Int)),fun d=>C.length-d.2.2.2.2.toNat,⟨0,by omega,rfl⟩,?_⟩;rintro _ ⟨i,hi,rfl⟩;dsimp only;have oU:=jk i hi;have wW:=IK l i;intro pz rW;refine⟨fun c=>?_,fun c=>?_⟩
 ·have ft:i<C.length:=by rw[rW] at c;have:=of_decide_eq_true c;omega
  clear rW c;have hg:=bN i ft;have eS:atS l (i+1)=atS l i+l.getD i 0:=rfl;have ky:=jk (i+1) ft;refine⟨(Tp l i,(atS l i:Int),(i:Int)),(Oy (atS l i),DI l i,0),by and_intros<;>first|rfl|trivial,?_⟩;generalize hm:l.getD i 0=m at *
  refine⟨fun d=>∃ k:Nat,k≤m∧d=(Oy (atS l i+k),DI l i++Q1z (atS l i) m k,(k:Int)),fun d=>m-d.2.2.toNat,⟨0,by omega,by simp[Q1z]⟩,?_⟩;rintro _ ⟨k,hk,rfl⟩;dsimp only;simp only[Int.toNat_natCast];have dH:=Ic (atS l i+k);have cz:(DI l i++Q1z (atS l i) m k).length=atS l i+k:=by rw[List.length_append,RS];simp[Q1z]
  refine⟨by omega,by omega,?_⟩;intro rB vV pA rX;rw[vV,hg] at rX;refine⟨fun c=>?_,fun c=>?_⟩
  ·have a9:k<m:=by rw[rX] at c;have:=of_decide_eq_true c;omega
   refine⟨Me (by omega),by simp only[List.length_cons,List.length_nil];omega,by omega,by omega,?_⟩;intro mf vW;rw[vW,hg];refine⟨Me (by omega),Me (by omega),Me (by omega),by simp only[List.length_cons,List.length_nil];omega,Me (by omega),(Oy (atS l i+(k+1)),DI l i++Q1z (atS l i) m (k+1),(k:Int)+1),?_,⟨k+1,a9,rfl⟩,by dsimp only;omega⟩;rw[show atS l i+(k+1)=(atS l i+k)+1 by omega,Q2v,Q2b,←List.append_assoc];and_intros<;>first|rfl|trivial|simp
  ·have a9:k=m:=by rw[rX] at c;have:=of_decide_eq_false c;omega
   subst a9;refine⟨by omega,by omega,?_⟩;intro pB vX;rw[vX,hg];refine⟨Me (by omega),by omega,by omega,?_⟩;intro rC vY pC ta;rw[vY,hg] at ta;have hy:Tp l (i+1)=pC:=by rw[ta,←hm];rfl
   refine⟨Me (by omega),(Oy (atS l (i+1)),DI l (i+1),Tp l (i+1),(atS l (i+1):Int),(i:Int)+1),?_,⟨i+1,ft,rfl⟩,by dsimp only;omega⟩;have ht:DI l (i+1)=DI l i++Q1z (atS l i) k k:=by rw[←hm];rfl
   rw[ht,hy,eS];and_intros<;>first|rfl|trivial
 ·have ft:i=C.length:=by rw[rW] at c;have:=of_decide_eq_false c;omega
  subst ft;unfold Z5b at gd;simp only[rj,fx,Bool.and_eq_true,beq_iff_eq] at gd;obtain⟨⟨⟨⟨⟨⟨c1,c2⟩,c3⟩,c4⟩,c5⟩,c6⟩,c7⟩:=gd;have k1:=Ic L.length;have k2:=RS l C.length;rw[fx] at k2;rw[fx];intro oI vZ;have v5:oI=false:=by rw[vZ];simp
  refine⟨(fun h=>by rw[v5] at h;cases h),fun _=>?_⟩;refine⟨by omega,by omega,by omega,by omega,by omega,by omega,by omega,by omega,?_⟩;rw[c1,c2];rw[if_pos rfl,if_pos rfl,c3,c4,if_pos rfl,c5,if_pos rfl,c6,if_pos rfl,c7];intro rD v7 rE v8 rF r7 rG v9 rH r8 rI v_ rJ wa rK wb rL wc rM we rN wg rO wh rP wi rQ wj rR wk rS wm rT wo pD wq;refine⟨fun _=>Me (by omega),?_⟩;intro rU wu pE wv;refine⟨fun _=>trivial,?_⟩;intro pF wx;refine⟨fun _=>trivial,?_⟩;intro rV wy;refine⟨?_,trivial⟩;rw[wy,wx,wv,wu,wq,wo,wm,wk,wj,wi,wh,wg,we,wc,wb,wa,v_,r8,v9,r7,v8,v7];simp
theorem Q9k {l:List Int}(h:KWf (.list (.i .u8)) l):u8s l:=fun x hx=>(Ro x).1 (h.2 x hx)
theorem Q5x {x:List (Int×Int×Int×Int)×Int×List Int}(h:KWf (.pair (.list (.pair (.i .u8) (.pair (.i .u8) (.pair (.i .u8) (.i .u8))))) (.pair (.i .u8) (.list (.i .u8)))) x):Sg x.1 x.2.1 x.2.2:=by obtain⟨h1,h2,h3⟩:=h;have h2:=(Ro x.2.1).1 h2;refine⟨h1.1,fun y hy=>?_,⟨h2.1,h2.2⟩,Q9k h3⟩;obtain⟨a,b,c,d⟩:=h1.2 y hy;exact⟨(Ro _).1 a,(Ro _).1 b,(Ro _).1 c,(Ro _).1 d⟩
theorem dyePre_of {x:List (Int×Int×Int×Int)×Int×List Int}(h:AWf [.pair (.list (.pair (.i .u8) (.pair (.i .u8) (.pair (.i .u8) (.i .u8))))) (.pair (.i .u8) (.list (.i .u8)))] x):Sg x.1 x.2.1 x.2.2:=Q5x h
end Go.Proofs.Tryz