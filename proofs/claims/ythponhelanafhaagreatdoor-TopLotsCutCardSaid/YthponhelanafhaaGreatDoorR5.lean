/- A framework for walks, contracts of functions, and their proofs: part 5. -/
import Derived.Test.YthponhelanafhaaGreatDoorR4
set_option linter.unusedVariables false
set_option maxRecDepth 100000
namespace Go.V
open Go
section
variable {P:Program}{B F:Heap}{pl:Nat→Value}{tb:Nat→Option Bool}{s:St}{env:Env}{σ:Heap}
theorem Nw {k k':Kind}{xs:List k.T}{ys:List k'.T}(h:Dr (k:=.list k) xs (k':=.list k') ys):∃ e:k'=k,e▸ys=xs:=by
 unfold Dr at h;split at h
 ·rename_i z hz;have e:=Lm hz;obtain rfl:=Kind.list.inj e;obtain rfl:=Ls hz;exact⟨rfl,h⟩
 ·exact h.elim
theorem Qz (hG:Gam P B F pl tb s env σ) {mp:List (Nat×Option Nat)}{t:Nat}{b:OB}(h:OK s mp t b) :
  OR P B (U1 pl mp) ZF σ (U1 pl mp t) b∧(b.live=true→∀ i,Oid (U1 pl mp t) i→∃ a,Qm mp t=some (some a)∧(Q7 s.own a).live=true∧Oid (pl a) i):=by
 unfold OK at h;split at h
 ·rename_i a ha;have aP:U1 pl mp t=pl a:=by simp[U1,ha]
  rw[aP];have ak:=hG.obj a;split at h
  ·exact⟨trivial,fun h=>by cases h⟩
  ·rename_i ty k xs nl gH k' cz hZ ho;split at h
   ·rename_i e;subst e;obtain⟨h1,rfl⟩:=h;obtain⟨rfl,rfl⟩:=Nw h1;rw[ho] at ak;exact⟨ak,fun _ i hi=>⟨a,ha,by rw[ho];rfl,hi⟩⟩
   ·exact h.elim
  ·rename_i l u l' u' ho;split at h
   ·rename_i e0;subst e0;rw[ho] at ak;obtain⟨i,c,e,t',h1,h2,h3,h4⟩:=ak;exact⟨⟨i,c,e,t',h1,h2,Zg l l' c h h3,h4⟩,fun _ i hi=>⟨a,ha,by rw[ho];rfl,hi⟩⟩
   ·exact h.elim
  ·rename_i kk vk m iM l5 m' ho;split at h
   ·obtain⟨e,h1⟩:=Nw h;obtain⟨rfl,rfl⟩:=Kind.pair.inj e;subst h1;rw[ho] at ak;exact⟨ak,fun _ i hi=>⟨a,ha,by rw[ho];rfl,hi⟩⟩
   ·exact h.elim
  ·rename_i l vals l' kQ ho;rw[ho] at ak;obtain⟨rfl,h⟩:=h;exact⟨Zg l l' vals h ak,fun h=>by cases h⟩
  ·rename_i l q u l' q' u' ho;rw[ho] at ak;split at h
   ·obtain⟨rfl,h⟩:=h;exact⟨⟨ak.1,Zg l l' q.vals h ak.2.1,ak.2.2⟩,fun _ i hi=>⟨a,ha,by rw[ho];rfl,hi⟩⟩
   ·obtain⟨rfl,h⟩:=h;exact⟨⟨ak.1,Zg l l' q.vals h ak.2.1,ak.2.2⟩,fun h=>by cases h⟩
   ·exact h.elim
  ·rename_i kk vk m dn iM l5 m' tn ho;split at h
   ·obtain⟨h,rfl⟩:=h;obtain⟨e,h1⟩:=Nw h;obtain⟨rfl,rfl⟩:=Kind.pair.inj e;subst h1;rw[ho] at ak;exact⟨ak,fun _ i hi=>⟨a,ha,by rw[ho];rfl,hi⟩⟩
   ·exact h.elim
  ·rename_i ty q k xs nl h0 gH q' k' cz hZ s7 ho;split at h
   ·rename_i e;obtain⟨rfl,rfl⟩:=e;split at h
    ·obtain⟨h1,rfl⟩:=h;obtain⟨rfl,rfl⟩:=Nw h1;rw[ho] at ak;exact⟨ak,fun _ i hi=>⟨a,ha,by rw[ho];rfl,hi⟩⟩
    ·exact h.elim
   ·exact h.elim
  ·exact h.elim
 ·rename_i ha;have aP:U1 pl mp t=.slice none 0 0:=by simp[U1,ha]
  rw[aP];split at h
  ·exact⟨.inl ⟨h.2,h.1,rfl⟩,fun _ i hi=>by cases hi⟩
  ·split at h
   ·obtain⟨rfl,rfl⟩:=h;refine⟨⟨[],fun i=>⟨fun h=>(by cases h),fun ⟨b,h⟩=>(by cases h)⟩,List.nodup_nil,.inl ⟨rfl,rfl,rfl⟩,fun i=>⟨fun ⟨b,h⟩=>(by cases h),fun h=>(by cases h)⟩,(fun i b h=>by cases h),by simp[phd]⟩,fun _ i hi=>by cases hi⟩
   ·exact h.elim
  ·exact h.elim
 ·exact h.elim
theorem Ua {α:Type _}(l:List (Nat×α)) (t:Nat) (x:α) (d:Nat):Qm (l++[(t,x)]) d=match Qm l d with|some y=>some y|none=>if t=d then some x else none:=by
 induction l with
 |nil =>
  simp only[List.nil_append,Qm];by_cases h:t=d
  ·subst h;simp
  ·rw[Zd h];simp[h]
 |cons p l ih =>obtain⟨k,y⟩:=p;simp only[List.cons_append,Qm,ih];cases Nat.beq k d<;>rfl
theorem Eg {α:Type _}{l:List (Nat×α)}{d:Nat}{x:α}(h:Qm l d=some x):∃ p∈l,p.1=d∧p.2=x:=by
 induction l with
 |nil=>cases h
 |cons p l ih =>
  obtain⟨k,y⟩:=p;simp only[Qm] at h;cases hb:Nat.beq k d with
  |true=>rw[hb] at h;obtain rfl:=osj h;exact⟨_,List.mem_cons_self,Nat.eq_of_beq_eq_true hb,rfl⟩
  |false =>rw[hb] at h;obtain⟨p,h1,h2⟩:=ih h;exact⟨p,List.mem_cons_of_mem _ h1,h2⟩
def Inj (mp:List (Nat×Option Nat)):Prop:=∀ t t' a,Qm mp t=some (some a)→Qm mp t'=some (some a)→t=t'
theorem Te:∀ (l:List (Nat×Src)) (mp b9:List (Nat×Option Nat)),Z0e s l mp=some b9→Inj mp→Inj b9
 |[],mp,b9,h,hi=>by obtain rfl:=osj h;exact hi
 |(t,src)::r,mp,b9,h,hi=>by
  simp only[Z0e] at h;split at h
  ·rename_i a _;split at h
   ·cases h
   ·rename_i hc;refine Te r _ _ h ?_;have cM:∀ d,Qm mp d≠some (some a):=fun d hd=>by
     obtain⟨p,h1,h2,h3⟩:=Eg hd;apply hc;simp only[Bool.or_eq_true];exact .inl (List.any_eq_true.2 ⟨p,h1,by rw[h3];simp⟩)
    intro t1 t2 a' h1 h2;rw[Ua] at h1 h2;split at h1
    ·rename_i y1 e1;split at h2
     ·rename_i y2 e2;obtain rfl:=osj h1;obtain rfl:=osj h2;exact hi t1 t2 a' e1 e2
     ·split at h2
      ·obtain rfl:=osj (osj h2);obtain rfl:=osj h1;exact absurd e1 (cM t1)
      ·cases h2
    ·split at h1
     ·rename_i e1;obtain rfl:=osj (osj h1);split at h2
      ·rename_i y2 e2;obtain rfl:=osj h2;exact absurd e2 (cM t2)
      ·split at h2
       ·rename_i e2;omega
       ·cases h2
     ·cases h1
  ·split at h
   ·cases h
   ·refine Te r _ _ h ?_;intro t1 t2 a' h1 h2;rw[Ua] at h1 h2;split at h1
    ·rename_i y1 e1;split at h2
     ·rename_i y2 e2;obtain rfl:=osj h1;obtain rfl:=osj h2;exact hi t1 t2 a' e1 e2
     ·split at h2<;>cases h2
    ·split at h1<;>cases h1
  ·cases h
theorem CS {mp:List (Nat×Option Nat)}:∀ {ow:List (Nat×Src×OB)},gmatch.obs s mp ow→∀ p∈ow,OK s mp p.1 p.2.2
 |[],_,p,hp=>by cases hp
 |(t,src,b)::r,h,p,hp=>by
  simp only[gmatch.obs] at h;rcases List.mem_cons.1 hp with rfl|hp
  ·exact h.1
  ·exact CS h.2 p hp
theorem N1 {f:List (Nat×Src×OB)}:∀ (own:Own) (t:Nat),(∃ p∈f,p.1=t∧Q7 (f.foldl (fun o p=>oset o p.1 p.2.2) own) t=p.2.2)∨Q7 (f.foldl (fun o p=>oset o p.1 p.2.2) own) t=Q7 own t:=by
 induction f with
 |nil=>intro own t;exact .inr rfl
 |cons p f ih =>
  intro own t;simp only[List.foldl_cons];rcases ih (oset own p.1 p.2.2) t with⟨q,h1,h2⟩|h
  ·exact .inl ⟨q,List.mem_cons_of_mem _ h1,h2⟩
  ·rw[h,Qb];by_cases e:t=p.1
   ·rw[if_pos e];exact .inl ⟨p,List.mem_cons_self,e.symm,rfl⟩
   ·rw[if_neg e];exact .inr rfl
theorem Tk (hG:Gam P B F pl tb s env σ) {mp:List (Nat×Option Nat)}:∀ (st:List (Nat×SV)) {e:List SV}{eV:Env},gmatch.slots s mp st→SRs P B (U1 pl mp) ZF e eV→SRs P B (U1 pl mp) ZF (st.foldl (fun e p=>e.set p.1 p.2) e) (WB (st.map (·.1)) (PF (st.map (·.1)) env) eV)
 |[],e,eV,_,h=>h
 |(j,v)::r,e,eV,hs,h=>by simp only[gmatch.slots] at hs;simp only[List.foldl_cons,List.map_cons,PF,WB];exact Tk hG r hs.2 (h.set j (WG v _ _ hs.1 (hG.env.getD j poison)))
theorem Q26 {B:Heap}{pl:Nat→Value}{tb:Nat→Option Bool}:∀ n,SRs P B pl tb (List.replicate n .any) (List.replicate n poison)
 |0=>by simp[SRs]
 |n+1=>by simp only[List.replicate_succ,SRs];exact⟨_,_,rfl,by simp[SR],Q26 n⟩
theorem Pa {B0 F0 D0:Heap}(hR:GRel P B0 F0 D0 s env σ) {st:List (Nat×SV)}{ow:List (Nat×Src×OB)}(h:gmatch s st ow) (len:Nat):GRel P B0 F0 D0 (Zn len st ow) (WB (st.map (·.1)) (PF (st.map (·.1)) env) (List.replicate len poison)) σ:=by
 obtain⟨B,F,pl,tb,hB,hG⟩:=hR;unfold gmatch at h;split at h
 ·rename_i mp iR;obtain⟨h1,h2⟩:=h;have dQ:=Te _ _ _ iR (fun t t' a h=>by cases h);have aH:=CS h2;have ak:∀ t,(Q7 (Zn len st ow).own t).live=true→OK s mp t (Q7 (Zn len st ow).own t):=fun t hl=>by
   rcases N1 (f:=ow) [] t with⟨p,h3,h4,h5⟩|h3
   ·have:=aH p h3;rw[h4,←h5] at this;exact this
   ·simp only[Zn] at hl;rw[h3] at hl;cases hl
  refine⟨B,F,U1 pl mp,ZF,hB,hG.bf,hG.le,Tk hG st h1 (Q26 len),fun t=>?_,fun t i hl hi=>?_,fun t t' i aA hl cn hi b6=>?_,fun _ _=>rfl⟩
  ·cases hl:(Q7 (Zn len st ow).own t).live with
   |true=>exact(Qz hG (ak t hl)).1
   |false =>
    cases ho:Q7 (Zn len st ow).own t with
    |dead=>trivial
    |stk l vals =>
     rcases N1 (f:=ow) [] t with⟨p,h3,h4,h5⟩|h3
     ·have:=aH p h3;simp only[Zn] at ho;rw[←h5,ho] at this;have h6:=(Qz hG this).1;rw[h4] at h6;exact h6
     ·simp only[Zn] at ho;rw[h3] at ho;cases ho
    |lpf l q u =>
     rcases N1 (f:=ow) [] t with⟨p,h3,h4,h5⟩|h3
     ·have:=aH p h3;simp only[Zn] at ho;rw[←h5,ho] at this;have h6:=(Qz hG this).1;rw[h4] at h6;exact h6
     ·simp only[Zn] at ho;rw[h3] at ho;cases ho
    |_=>rw[ho] at hl;cases hl
  ·obtain⟨a,_,h4,h5⟩:=(Qz hG (ak t hl)).2 hl i hi;exact hG.fresh a i h4 h5
  ·obtain⟨a,e1,h4,h5⟩:=(Qz hG (ak t hl)).2 hl i hi;obtain⟨a',e2,gX,ri⟩:=(Qz hG (ak t' cn)).2 cn i b6;by_cases e:a=a'
   ·subst e;exact aA (dQ t t' a e1 e2)
   ·exact hG.sep a a' i e h4 gX h5 ri
 ·exact h.elim
theorem Hi:∀ {dA cH:List SV}{vs:List Value}{B F:Heap}{s s':St},Gam P B F pl tb s env σ→SRs P B pl tb dA vs→Q6b s dA=some (s',cH) →
  ∃ B' F',GBase B F σ B' F' σ∧Gam P B' F' pl tb s' env σ∧SRs P B' X0 ZF cH vs∧s'.env=s.env
 |[],cH,vs,B,F,s,s',hG,hs,h=>by simp only[Q6b,Option.some.injEq,Prod.mk.injEq] at h;obtain⟨rfl,rfl⟩:=h;exact⟨B,F,.of hG.bf (.refl _),hG,hs,rfl⟩
 |v::dA,cH,vs,B,F,s,s',hG,hs,h=>by
  simp only[SRs] at hs;obtain⟨u,us,rfl,h1,h2⟩:=hs
  have oX:∀ w:SV,SR P B pl tb w u→(bif w.pure then (match Q6b s dA with|some (s',r)=>some (s',w::r)|none=>none) else none)=some (s',cH) →
    ∃ B' F',GBase B F σ B' F' σ∧Gam P B' F' pl tb s' env σ∧SRs P B' X0 ZF cH (u::us)∧s'.env=s.env:=fun w hw h=>by
   cases hp:w.pure with
   |false=>rw[hp] at h;cases h
   |true =>
    rw[hp] at h;simp only[_root_.cond_true] at h;split at h
    ·rename_i s1 r heq;simp only[Option.some.injEq,Prod.mk.injEq] at h;obtain⟨rfl,rfl⟩:=h;obtain⟨B',F',k1,k2,k3,k4⟩:=Hi hG h2 heq;exact⟨B',F',k1,k2,by simp only[SRs];exact⟨u,us,rfl,SR.mono k1.b (fun _ _ h=>h) _ _ (Lt w u hp hw),k3⟩,k4⟩
    ·cases h
  simp only[Q6b] at h;split at h
  ·rename_i o;split at h
   ·rename_i l _ ho;cases hp:SVs.pure l with
    |false=>rw[hp] at h;cases h
    |true =>
     rw[hp] at h;simp only[_root_.cond_true] at h;split at h
     ·rename_i s1 r heq;simp only[Option.some.injEq,Prod.mk.injEq] at h;obtain⟨rfl,rfl⟩:=h;have ak:=hG.obj o;rw[ho] at ak;obtain⟨i,c,e,t,e1,e2,e3,_⟩:=ak;obtain⟨k1,k2⟩:=hG.freeze (o:=o) (i:=i) (by rw[ho];rfl) (by rw[e1];rfl);obtain⟨B',F',j1,j2,j3,j4⟩:=Hi k2 (SRs.mono k1.b (fun _ _ h=>h) _ _ h2) heq;refine⟨B',F',k1.trans j1,j2,?_,j4⟩;simp only[SRs];refine⟨u,us,rfl,?_,j3⟩;simp only[SR] at h1 ⊢;obtain⟨b,q1,q2⟩:=h1;rw[e1] at q1;obtain rfl:i=b:=by simpa using q1
      refine⟨i,c,e,true,t,j1.b.2 _ _ ?_,q2,SRs.mono (k1.trans j1).b (fun _ _ h=>h) _ _ (QE l c hp e3)⟩;rw[Heap.ins_self];exact e2
     ·cases h
   ·cases h
  ·exact oX _ h1 h
theorem Gam.lpUpd (hG:Gam P B F pl tb s env σ) {n:Nat}{b b0:Blk}(hF:F.get n=some b0) (hB:B.get n=none):Gam P B (F.upd n b) pl tb s env (σ.upd n b):=by
 have aA:∀ {d i},(Q7 s.own d).live=true→Oid (pl d) i→i≠n:=fun h1 h2 e=>by have:=hG.fresh _ _ h1 h2;subst e;rw[hF] at this;cases this
 refine⟨⟨hG.bf.1,fun i c hc=>?_⟩,⟨hG.le.1,fun i c hc=>?_⟩,hG.env,fun d=>(hG.obj d).mono (.refl _) (fun _ _ h=>h) fun h1 i h2=>Heap.get_upd_ne _ _ (aA h1 h2),fun d i h1 h2=>?_,hG.sep,hG.free⟩
 ·have:i≠n:=by rintro rfl;rw[hB] at hc;cases hc
  rw[Heap.get_upd_ne _ _ this];exact hG.bf.2 _ _ hc
 ·by_cases e:i=n
  ·subst e;rw[Heap.get_upd_self _ _ (F.lt hF)] at hc;rw[Heap.get_upd_self _ _ (Nat.lt_of_lt_of_le (F.lt hF) hG.le.1)];exact hc
  ·rw[Heap.get_upd_ne _ _ e] at hc ⊢;exact hG.le.2 _ _ hc
 ·rw[Heap.get_upd_ne _ _ (aA h1 h2)];exact hG.fresh _ _ h1 h2
theorem Gam.lpKill (hG:Gam P B F pl tb s env σ) {n:Nat}{b0:Blk}(hF:F.get n=some b0) (hB:B.get n=none):Gam P B (F.kill n) pl tb s env (σ.kill n):=by
 have aA:∀ {d i},(Q7 s.own d).live=true→Oid (pl d) i→i≠n:=fun h1 h2 e=>by have:=hG.fresh _ _ h1 h2;subst e;rw[hF] at this;cases this
 refine⟨⟨hG.bf.1,fun i c hc=>?_⟩,⟨hG.le.1,fun i c hc=>?_⟩,hG.env,fun d=>(hG.obj d).mono (.refl _) (fun _ _ h=>h) fun h1 i h2=>Heap.get_kill_ne _ (aA h1 h2),fun d i h1 h2=>?_,hG.sep,hG.free⟩
 ·have:i≠n:=by rintro rfl;rw[hB] at hc;cases hc
  rw[Heap.get_kill_ne _ this];exact hG.bf.2 _ _ hc
 ·by_cases e:i=n
  ·subst e;rw[Heap.get_kill_self] at hc;cases hc
  ·rw[Heap.get_kill_ne _ e] at hc ⊢;exact hG.le.2 _ _ hc
 ·rw[Heap.get_kill_ne _ (aA h1 h2)];exact hG.fresh _ _ h1 h2
theorem GRel.lpUpd {B1 F1 D0:Heap}(h:GRel P B1 F1 D0 s env σ) {n:Nat}{b b0:Blk}(hF:F1.get n=some b0) (hB:B1.get n=none):GRel P B1 (F1.upd n b) D0 s env (σ.upd n b):=by
 obtain⟨B,F,pl,tb,dE,hG⟩:=h;have oY:=dE.f.2 _ _ hF;have oZ:=dE.x _ _ hF hB;refine⟨B,F.upd n b,pl,tb,⟨dE.b,⟨dE.f.1,fun i c hc=>?_⟩,fun i c h1 h2=>?_,⟨dE.d.1,fun i h1 h2=>?_⟩⟩,hG.lpUpd oY oZ⟩
 ·by_cases e:i=n
  ·subst e;rw[Heap.get_upd_self _ _ (F1.lt hF)] at hc;rw[Heap.get_upd_self _ _ (F.lt oY)];exact hc
  ·rw[Heap.get_upd_ne _ _ e] at hc ⊢;exact dE.f.2 _ _ hc
 ·by_cases e:i=n
  ·subst e;exact oZ
  ·rw[Heap.get_upd_ne _ _ e] at h1;exact dE.x _ _ h1 h2
 ·have hd:=dE.d.2 i h1 h2;have:i≠n:=by rintro rfl;rw[hG.le.2 _ _ oY] at hd;cases hd
  rw[Heap.get_upd_ne _ _ this];exact hd
theorem GRel.lpKill {B1 F1 D0:Heap}(h:GRel P B1 F1 D0 s env σ) {n:Nat}{b0:Blk}(hF:F1.get n=some b0) (hB:B1.get n=none):GRel P B1 (F1.kill n) D0 s env (σ.kill n):=by
 obtain⟨B,F,pl,tb,dE,hG⟩:=h;have oY:=dE.f.2 _ _ hF;have oZ:=dE.x _ _ hF hB;refine⟨B,F.kill n,pl,tb,⟨dE.b,⟨dE.f.1,fun i c hc=>?_⟩,fun i c h1 h2=>?_,⟨dE.d.1,fun i h1 h2=>?_⟩⟩,hG.lpKill oY oZ⟩
 ·by_cases e:i=n
  ·subst e;rw[Heap.get_kill_self] at hc;cases hc
  ·rw[Heap.get_kill_ne _ e] at hc ⊢;exact dE.f.2 _ _ hc
 ·by_cases e:i=n
  ·subst e;exact oZ
  ·rw[Heap.get_kill_ne _ e] at h1;exact dE.x _ _ h1 h2
 ·have hd:=dE.d.2 i h1 h2;by_cases e:i=n
  ·subst e;exact Heap.get_kill_self _ _
  ·rw[Heap.get_kill_ne _ e];exact hd
theorem GRel.base {B0 F0 B1 F1 D0:Heap}(h:GRel P B1 F1 D0 s env σ) (hb:B0.Le B1) (hf:F0.Le F1) (hx:∀ i b,F0.get i=some b→B0.get i=none→B1.get i=none):GRel P B0 F0 D0 s env σ:=by obtain⟨B,F,pl,tb,dE,hG⟩:=h;exact⟨B,F,pl,tb,⟨hb.trans dE.b,hf.trans dE.f,fun i b h1 h2=>dE.x i b (hf.2 _ _ h1) (hx i b h1 h2),dE.d⟩,hG⟩
theorem Po (hG:Gam P B F pl tb s env σ) {mp:List (Nat×Option Nat)}:∀ (st:List (Nat×SV)) {e:List SV},gmatch.slots s mp st→SRs P B (U1 pl mp) ZF e env→SRs P B (U1 pl mp) ZF (st.foldl (fun e p=>e.set p.1 p.2) e) env
 |[],e,_,h=>h
 |(j,v)::r,e,hs,h=>by
  simp only[gmatch.slots] at hs;simp only[List.foldl_cons];refine Po hG r hs.2 ?_;have:=h.set j (WG v _ _ hs.1 (hG.env.getD j poison));by_cases hj:j<env.length
  ·rwa [List.getD_eq_getElem?_getD,List.getElem?_eq_getElem hj,Option.getD_some,List.set_getElem_self] at this
  ·rw[List.set_eq_of_length_le (by rw[h.length];omega)];exact h
theorem FX {B:Heap}{pl:Nat→Value}{tb:Nat→Option Bool}:∀ (env:Env),SRs P B pl tb (List.replicate (List.length env) .any) env
 |[]=>by simp[SRs]
 |v::env=>by simp only[List.length_cons,List.replicate_succ,SRs];exact⟨_,_,rfl,by simp[SR],FX env⟩
theorem NN {B0 F0 D0:Heap}(hR:GRel P B0 F0 D0 s env σ) {st:List (Nat×SV)}{ow:List (Nat×Src×OB)}(h:gmatch s st ow):GRel P B0 F0 D0 (Zn (List.length env) st ow) env σ:=by
 obtain⟨B,F,pl,tb,hB,hG⟩:=hR;unfold gmatch at h;split at h
 ·rename_i mp iR;obtain⟨h1,h2⟩:=h;have dQ:=Te _ _ _ iR (fun t t' a h=>by cases h);have aH:=CS h2;have ak:∀ t,(Q7 (Zn (List.length env) st ow).own t).live=true→OK s mp t (Q7 (Zn (List.length env) st ow).own t):=fun t hl=>by
   rcases N1 (f:=ow) [] t with⟨p,h3,h4,h5⟩|h3
   ·have:=aH p h3;rw[h4,←h5] at this;exact this
   ·simp only[Zn] at hl;rw[h3] at hl;cases hl
  refine⟨B,F,U1 pl mp,ZF,hB,hG.bf,hG.le,Po hG st h1 (FX env),fun t=>?_,fun t i hl hi=>?_,fun t t' i aA hl cn hi b6=>?_,fun _ _=>rfl⟩
  ·cases hl:(Q7 (Zn (List.length env) st ow).own t).live with
   |true=>exact(Qz hG (ak t hl)).1
   |false =>
    cases ho:Q7 (Zn (List.length env) st ow).own t with
    |dead=>trivial
    |stk l vals =>
     rcases N1 (f:=ow) [] t with⟨p,h3,h4,h5⟩|h3
     ·have:=aH p h3;simp only[Zn] at ho;rw[←h5,ho] at this;have h6:=(Qz hG this).1;rw[h4] at h6;exact h6
     ·simp only[Zn] at ho;rw[h3] at ho;cases ho
    |lpf l q u =>
     rcases N1 (f:=ow) [] t with⟨p,h3,h4,h5⟩|h3
     ·have:=aH p h3;simp only[Zn] at ho;rw[←h5,ho] at this;have h6:=(Qz hG this).1;rw[h4] at h6;exact h6
     ·simp only[Zn] at ho;rw[h3] at ho;cases ho
    |_=>rw[ho] at hl;cases hl
  ·obtain⟨a,_,h4,h5⟩:=(Qz hG (ak t hl)).2 hl i hi;exact hG.fresh a i h4 h5
  ·obtain⟨a,e1,h4,h5⟩:=(Qz hG (ak t hl)).2 hl i hi;obtain⟨a',e2,gX,ri⟩:=(Qz hG (ak t' cn)).2 cn i b6;by_cases e:a=a'
   ·subst e;exact aA (dQ t t' a e1 e2)
   ·exact hG.sep a a' i e h4 gX h5 ri
 ·exact h.elim
theorem Cp {α:Type}{o:Option α}{f:α→Prop}(h:QV o f):∃ a,f a:=by
 cases o with
 |none=>exact h.elim
 |some a=>exact⟨a,h⟩
theorem COk.nx {C:Cx}(h:COk P C):COk P C.nx:=⟨h.cs,fun f x hx=>(by cases hx),h.it,h.yl,h.iy,fun f j _ x hx=>(by cases hx)⟩
theorem YH {S:VSpecs}{Q:Prop}:∀ {ops:List DOper}{env:Env}{hs:List Heap}{σ:Heap}{pend:List (Nat×(Heap→Prop))},Jz S ops env hs σ pend (fun _ _=>Q)→Q
 |[],_,_,_,_,h=>h
 |o::r,env,hs,σ,pend,h=>by
  simp only[Jz] at h;obtain⟨b,h⟩:=Cp h;cases b with
  |true =>
   have h:=h.1 rfl;split at h
   ·obtain⟨v,σ',_,_,h⟩:=h;exact YH h
   ·split at h
    ·obtain⟨p,_,h⟩:=Cp h;exact YH h
    ·obtain⟨p,h⟩:=Cp h;exact YH h
  |false =>
   have h:=h.2 rfl;split at h
   ·exact YH h.2
   ·exact YH h
theorem Tt {C:Cx}{s:St}{st:List (Nat×SV)}{ow:List (Nat×Src×OB)}{Q:Prop}:∀ (ls:List (List DOper)),Q7j C ls s st ow Q→(∀ l∈ls,Wc C.nx l s 1 0 [] [] fun s'=>HS s.env.length s' st ow)∧Q
 |[],h=>⟨fun l hl=>(by cases hl),h⟩
 |l::ls,h=>by obtain⟨h1,h2⟩:=h;obtain⟨h3,h4⟩:=Tt ls h2;exact⟨fun l' cn=>(List.mem_cons.1 cn).elim (fun e=>e▸h1) (h3 l'),h4⟩
theorem Nn {B0 F0 D0:Heap}{s:St}{env:Env}{σ:Heap}{n:Nat}(hR:GRel P B0 F0 D0 s env σ) {st:List (Nat×SV)}{ow:List (Nat×Src×OB)}(h:HS n s st ow):GRel P B0 F0 D0 (Zn n st ow) env σ:=by
 unfold HS at h;cases hb:Nat.beq s.env.length n with
 |false=>rw[hb] at h;exact h.elim
 |true =>
  rw[hb] at h;have hl:env.length=n:=by rw[←Nat.eq_of_beq_eq_true hb];obtain⟨_,_,_,_,_,hG⟩:=hR;exact hG.env.length.symm
  rw[←hl];exact NN hR h
theorem YF {C:Cx}(aw:COk P C) {B0 F0 D0:Heap}:∀ (aO:List DSeg) {s:St}{env:Env}{σ:Heap},GRel P B0 F0 D0 s env σ→∀ {K:St→Prop},CY C aO s K→∀ {R:Env→Heap→Prop},(∀ s' ae σ',K s'→GRel P B0 F0 D0 s' ae σ'→R ae σ')→GV (Q2 P) aO env σ R
 |[],s,env,σ,hR,K,h,R,hK=>hK s env σ h hR
 |.one o::r,s,env,σ,hR,K,h,R,hK=>by refine Gu aw [o] hR (K:=fun s'=>CY C r s' K) h fun s' ae σ' h1 h2=>?_;exact YF aw r h2 h1 hK
 |.alts [l]::r,s,env,σ,hR,K,h,R,hK=>by
  simp only[CY] at h;cases hd:Q5r l with
  |false =>
   rw[hd] at h;simp only[_root_.cond_false] at h;cases hk:l.all (fun o=>o.kind==o.op.kind) with
   |false=>rw[hk] at h;exact h.elim
   |true =>
    rw[hk] at h;simp only[_root_.cond_true] at h;intro ops ho;obtain rfl:=List.mem_singleton.1 ho;obtain⟨B,F,pl,tb,hB,hG⟩:=hR;have one:∀ (j:Nat) (τ:Heap),([σ]:List Heap)[j]?=some τ→τ=σ:=fun j τ ht=>by
     cases j with
     |zero=>simpa using ht.symm
     |succ j=>simp at ht
    exact Qp aw ops (fun o ho=>by simpa using List.all_eq_true.1 hk o ho) hB hG (hl:=1) (chg:=0) (A:=[]) (Rd:=[]) ⟨rfl,fun j τ _ ht=>one j τ ht,(fun c hc=>absurd hc (by simp)),fun j τ q i ht _ _ _=>by rw[one j τ ht]⟩ (pend:=[]) (pd:=[]) (fun c hc=>absurd hc (by simp)) (fun j τ ht _=>by rw[one j τ ht];exact hG.leB) (Nat.zero_le _) (Nat.succ_pos _) h fun s' ae σ' h1 h2=>⟨ae,σ',.refl _ _ _,YF aw r h2 h1 hK⟩
  |true =>rw[hd] at h;refine Q0p (l:=l) hd ?_;exact Gu aw _ hR h fun s' ae σ' h1 h2=>YF aw r h2 h1 hK
 |.alts []::r,s,env,σ,hR,K,h,R,hK=>h.elim
 |.alts (l::l2::ls)::r,s,env,σ,hR,K,h,R,hK=>by
  simp only[CY] at h;cases hk:(l::l2::ls).all (fun l=>l.all fun o=>o.kind==o.op.kind) with
  |false=>rw[hk] at h;exact h.elim
  |true =>
   rw[hk] at h;simp only[_root_.cond_true] at h;obtain⟨B,F,pl,tb,hB,hG⟩:=hR;have one:∀ (j:Nat) (τ:Heap),([σ]:List Heap)[j]?=some τ→τ=σ:=fun j τ ht=>by
    cases j with
    |zero=>simpa using ht.symm
    |succ j=>simp at ht
   have run:∀ l'∈l::l2::ls,∀ {K':St→Prop},Wc C.nx l' s 1 0 [] [] K'→∀ {R':Env→Heap→Prop},(∀ s' ae σ',K' s'→GRel P B0 F0 D0 s' ae σ'→R' ae σ')→Jz (Q2 P) l' env [σ] σ [] R':=fun l' cn K' h' R' ra =>
    Qn aw.nx rfl l' (fun o ho=>by simpa using List.all_eq_true.1 (List.all_eq_true.1 hk l' cn) o ho) hB hG (hl:=1) (chg:=0) (A:=[]) (Rd:=[]) ⟨rfl,fun j τ _ ht=>one j τ ht,(fun c hc=>absurd hc (by simp)),fun j τ q i ht _ _ _=>by rw[one j τ ht]⟩ (pend:=[]) (pd:=[]) (fun c hc=>absurd hc (by simp)) (fun j τ ht _=>by rw[one j τ ht];exact hG.leB) (Nat.zero_le _) (Nat.succ_pos _) h' ra
   obtain⟨s0,h0,h1⟩:=YH (run l List.mem_cons_self h (R':=fun _ _=>∃ s0:St,_) fun s' _ _ h' _=>⟨s',h'⟩);obtain⟨h2,h3⟩:=Tt _ h1;intro ops ho;rcases List.mem_cons.1 ho with rfl|dZ
   ·refine YE ?_;exact run ops ho h fun s' ae σ' h' rj=>⟨ae,σ',.refl _ _ _,by
     obtain⟨k1,k2⟩:=h';exact YF aw r (Nn rj k1) (Tt _ k2).2 hK⟩
   ·refine YE ?_;exact run ops ho (h2 ops dZ) fun s' ae σ' h' rj=>⟨ae,σ',.refl _ _ _,YF aw r (Nn rj h') h3 hK⟩
theorem Rh:∀ (l:List Nat) (vs:List SV),(Q7s l vs).map (·.1)=l
 |[],_=>rfl
 |j::js,[]=>by simp[Q7s,Rh js []]
 |j::js,v::vs=>by simp[Q7s,Rh js vs]
theorem G0 {B:Heap}{pl:Nat→Value}{tb:Nat→Option Bool}:∀ {ps:List Nat}{xs:List SV}{us:List Value}{e:List SV}{env:Env},SRs P B pl tb xs us→SRs P B pl tb e env→SRs P B pl tb (BS e ps xs) (Rt env ps us)
 |[],xs,us,e,env,_,h=>by simpa [BS,Rt] using h
 |p::ps,[],us,e,env,hx,h=>by simp only[SRs] at hx;subst hx;simpa [BS,Rt] using h
 |p::ps,x::xs,us,e,env,hx,h=>by simp only[SRs] at hx;obtain⟨u,lT,rfl,h1,h2⟩:=hx;simp only[BS,Rt];exact G0 h2 (h.set p h1)
def Z1w (F0:Heap):Option Nat→Prop
 |none=>True
 |some i=>∃ env r st pend,F0.get i=some (.obj (.lp env r st pend) true)
theorem Gam.dropLp {B F:Heap}{pl:Nat→Value}{tb:Nat→Option Bool}{s:St}{env:Env}{σ:Heap}(hG:Gam P B F pl tb s env σ) {o:Nat}{l:List SV}{q:LpD}{u:LpS}(ho:Q7 s.own o=.lpf l q u) (hl:u.live=true) :
  Gam P B F pl tb ⟨l,oset s.own o .dead,s.nx⟩ q.vals (σ.kill q.i)∧σ.get q.i=some (.obj (.lp q.vals q.r u.st u.pend) true):=by
 have ak:=hG.obj o;rw[ho] at ak;obtain⟨h1,h2,h3⟩:=ak;have jF:(Q7 s.own o).live=true:=by rw[ho];exact hl
 have jW:Oid (pl o) q.i:=by rw[h1];rfl
 have hF:=hG.fresh o q.i jF jW;have lv:∀ d,(Q7 (oset s.own o .dead) d).live=true→d≠o∧(Q7 s.own d).live=true:=fun d h=>by
  rw[Qb] at h;by_cases e:d=o
  ·rw[if_pos e] at h;cases h
  ·rw[if_neg e] at h;exact⟨e,h⟩
 refine⟨⟨hG.bf,⟨hG.le.1,fun j b hb=>?_⟩,h2,fun d=>?_,fun d i hd hi=>hG.fresh d i (lv d hd).2 hi,fun d d' i e h h'=>hG.sep d d' i e (lv d h).2 (lv d' h').2,hG.free⟩,h3 hl⟩
 ·have e:j≠q.i:=by rintro rfl;rw[hF] at hb;cases hb
  rw[Heap.get_kill_ne _ e];exact hG.le.2 _ _ hb
 ·rw[Qb];by_cases e:d=o
  ·rw[if_pos e];trivial
  ·rw[if_neg e];refine (hG.obj d).mono (.refl _) (fun _ _ h=>h) fun hd i hi=>?_;have:i≠q.i:=by rintro rfl;exact hG.sep d o q.i e hd jF hi jW
   exact Heap.get_kill_ne _ this
theorem Q0b (s:St) (o:Nat) (b:OB) (j:Nat):Q7 (s.make o b).own j=if j=o then b else (Q7 s.own j).kill o:=by
 simp only[St.make,Qb];by_cases h:j=o
 ·subst h;simp
 ·simp only[h,if_false,St.kill,Vb]
theorem Gam.enterLp {B F:Heap}{pl:Nat→Value}{tb:Nat→Option Bool}{s:St}{env:Env}{σ:Heap}(hG:Gam P B F pl tb s env σ) {o aJ:Nat}{l:List SV}{q:LpD}(ho:Q7 s.own o=.lpf l q .rdy) (aA:o≠aJ)
  {args:List SV}{us:List Value}(av:SRs P B pl tb args us) (ps:List Nat) :
  Gam P B (F.ins σ q.i hG.le.1) (X4 pl aJ poison) tb ⟨BS (SVs.kill aJ l) ps (SVs.kill aJ args),oset (ED aJ env s).own o (.lpf (SVs.kill aJ l) q .busy),s.nx⟩ (Rt q.vals ps us) σ:=by
 have q3:Gam P B F (X4 pl aJ poison) tb (ED aJ env s) env σ:=by refine hG.make aJ _ poison hG.le (fun _ _ _ _ _=>rfl) ?_ (fun i hl _=>by cases hl);exact SRs.upd (.refl _) (fun _ _ h=>h) (fun j hj=>by simp[X4,hj]) _ _ hG.env
 have ak:=hG.obj o;rw[ho] at ak;obtain⟨h1,h2,h3⟩:=ak;have jF:(Q7 s.own o).live=true:=by rw[ho];rfl
 have ib:X4 pl aJ poison o=.pointer (some ⟨q.i,0,none⟩):=by simp[X4,aA,h1]
 have vY:Q7 (ED aJ env s).own o=.lpf (SVs.kill aJ l) q .rdy:=by have:=Q0b s aJ (.stk (SVs.kill aJ s.env) env) o;unfold ED;rw[this,if_neg aA,ho];rfl
 have o3:(Q7 (ED aJ env s).own o).live=true:=by rw[vY];rfl
 have jW:Oid (X4 pl aJ poison o) q.i:=by rw[ib];rfl
 have hF:=q3.fresh o q.i o3 jW;have cC:SRs P B (X4 pl aJ poison) tb (SVs.kill aJ l) q.vals:=SRs.upd (.refl _) (fun _ _ h=>h) (fun j hj=>by simp[X4,hj]) _ _ h2;have rk:SRs P B (X4 pl aJ poison) tb (SVs.kill aJ args) us:=SRs.upd (.refl _) (fun _ _ h=>h) (fun j hj=>by simp[X4,hj]) _ _ av;have lv:∀ d,(Q7 (oset (ED aJ env s).own o (.lpf (SVs.kill aJ l) q .busy)) d).live=true→d≠o∧(Q7 (ED aJ env s).own d).live=true:=fun d h=>by
  rw[Qb] at h;by_cases e:d=o
  ·rw[if_pos e] at h;cases h
  ·rw[if_neg e] at h;exact⟨e,h⟩
 refine⟨q3.bf.trans (hG.le.ins _),hG.le.ins_le _,G0 rk cC,fun d=>?_,fun d i hd hi=>?_,fun d d' i e h h'=>q3.sep d d' i e (lv d h).2 (lv d' h').2,q3.free⟩
 ·show OR P B _ tb σ _ (Q7 (oset _ o _) d);rw[Qb];by_cases e:d=o
  ·subst e;rw[if_pos rfl];exact⟨ib,cC,fun h=>by cases h⟩
  ·rw[if_neg e];exact q3.obj d
 ·obtain⟨e,tC⟩:=lv d hd;have:i≠q.i:=by rintro rfl;exact q3.sep d o q.i e tC o3 hi jW
  rw[Heap.ins_ne _ _ _ this];exact q3.fresh d i tC hi
theorem Gam.leaveLp {B F:Heap}{pl:Nat→Value}{tb:Nat→Option Bool}{s:St}{env:Env}{σ:Heap}(hG:Gam P B F pl tb s env σ) {o aJ:Nat}{l l2:List SV}{kR:List Value}{q:LpD}{b0:Blk}(hF:F.get q.i=some b0) (hB:B.get q.i=none)
  (h2:Q7 s.own aJ=.stk l2 kR) (ho:Q7 s.own o=.lpf l q .busy) (u:LpS) :
  Gam P B (F.kill q.i) pl tb ⟨l2,oset (oset s.own aJ .dead) o (.lpf l q u),s.nx⟩ kR (σ.upd q.i (.obj (.lp q.vals q.r u.st u.pend) true)):=by
 have ak:=hG.obj o;rw[ho] at ak;obtain⟨k1,k2,_⟩:=ak;have hk:=hG.obj aJ;rw[h2] at hk;have hi:q.i<σ.n:=σ.lt (hG.le.2 _ _ hF);have aA:∀ {d i},(Q7 s.own d).live=true→Oid (pl d) i→i≠q.i:=fun h1 h2 e=>by have:=hG.fresh _ _ h1 h2;subst e;rw[hF] at this;cases this
 have jW:∀ i,Oid (pl o) i→i=q.i:=fun i h=>by rw[k1] at h;exact(osj h).symm
 have hg:∀ d,Q7 (oset (oset s.own aJ .dead) o (.lpf l q u)) d=if d=o then .lpf l q u else if d=aJ then .dead else Q7 s.own d:=fun d=>by rw[Qb,Qb]
 have lv:∀ d,d≠o→(Q7 (oset (oset s.own aJ .dead) o (.lpf l q u)) d).live=true→(Q7 s.own d).live=true:=fun d e h=>by
  rw[hg,if_neg e] at h;split at h
  ·cases h
  ·exact h
 refine⟨⟨hG.bf.1,fun j b hb=>?_⟩,⟨hG.le.1,fun j b hb=>?_⟩,hk,fun d=>?_,fun d i hd b6=>?_,fun d d' i e h h' h1 jr=>?_,hG.free⟩
 ·have e:j≠q.i:=by rintro rfl;rw[hB] at hb;cases hb
  rw[Heap.get_kill_ne _ e];exact hG.bf.2 _ _ hb
 ·by_cases e:j=q.i
  ·subst e;rw[Heap.get_kill_self] at hb;cases hb
  ·rw[Heap.get_kill_ne _ e] at hb;rw[Heap.get_upd_ne _ _ e];exact hG.le.2 _ _ hb
 ·show OR P B pl tb _ _ (Q7 (oset _ o _) d);rw[hg];by_cases e:d=o
  ·subst e;rw[if_pos rfl];exact⟨k1,k2,fun _=>Heap.get_upd_self _ _ hi⟩
  ·rw[if_neg e];split
   ·trivial
   ·exact(hG.obj d).mono (.refl _) (fun _ _ h=>h) fun hd i hi=>Heap.get_upd_ne _ _ (aA hd hi)
 ·by_cases e:d=o
  ·subst e;rw[jW i b6];exact Heap.get_kill_self _ _
  ·rw[Heap.get_kill_ne _ (aA (lv d e hd) b6)];exact hG.fresh d i (lv d e hd) b6
 ·by_cases e1:d=o
  ·subst e1;have e2:d'≠d:=fun h=>e h.symm;exact aA (lv d' e2 h') jr (jW i h1)
  ·by_cases e2:d'=o
   ·subst e2;exact aA (lv d e1 h) h1 (jW i jr)
   ·exact hG.sep d d' i e (lv d e1 h) (lv d' e2 h') h1 jr
theorem Nc {C:Cx}(aw:COk P C) {L:List (Nat×LoopAnn)}(vc:VCode):∀ {B0 F0 D0:Heap}(n:Nat) (K:Exit→St→Prop) (s:St) (env:Env) (σ:Heap) (ro:Option Nat) (Q:Exit→Env→Heap→Prop),Z1w F0 ro→GRel P B0 F0 D0 s env σ→gwp C L vc n K s→(∀ e s' ae σ',K e s'→GRel P B0 F0 D0 s' ae σ'→Q e ae σ')→vwp (Q2 P) vc ro Q env σ:=by
 induction vc with
 |skip=>intro B0 F0 D0 n K s env σ ro Q bL hR h hK;exact hK _ _ _ _ h hR
 |region ops=>intro B0 F0 D0 n K s env σ ro Q bL hR h hK;exact Gu aw ops hR h fun s' ae σ' h1 h2=>hK _ _ _ _ h1 h2
 |regionD aO=>intro B0 F0 D0 n K s env σ ro Q bL hR h hK;exact YF aw aO hR h fun s' ae σ' h1 h2=>hK _ _ _ _ h1 h2
 |rangeF g ps a b fz eS =>
  intro B0 F0 D0 n K s env σ ro Q bL hR h hK;simp only[gwp] at h;split at h
  ·rename_i f first dA hg
   split at h
   ·
    rename_i x hx;obtain⟨B,F,pl,tb,hB,hG⟩:=hR;have gN:=hG.evs (Gds.nil (tb:=tb)) g;rw[hg] at gN;simp only[SR] at gN;obtain⟨x',y',bC,mf,o4⟩:=gN;obtain⟨iz,ni⟩:=aw.iy f x hx;show vwp (Q2 P) (.rangeF g ps a b) ro Q env σ;simp only[vwp,Es,bC];have mg:(Q2 P).it f=some fun i Y args σ K=>UC P i Y→VCallsTo P f args σ K:=by simp only[Q2];rw[if_pos iz]
    rw[mg];refine⟨?_,fun r hY=>?_⟩
    ·cases ro with
     |none=>trivial
     |some i =>obtain⟨e1,r1,st1,rr,hi⟩:=bL;exact⟨e1,r1,st1,rr,hG.le.2 _ _ (hB.f.2 _ _ hi)⟩
    generalize mV:C.off+2000000+n=o at h;generalize fH:100000*(o+1)-1=aJ at h;have ah:o≠aJ:=by omega
    let q:LpD:=⟨σ.n,env,r⟩;let rdy:Blk:=.obj (.lp env r .ready none) true;let fj:Blk:=.obj (.lp env r .busy none) true;let p0:Value:=.pointer (some ⟨σ.n,0,none⟩);have iQ:Gam P B F (X4 pl o p0) tb (Z4q o q s) env (σ.push rdy):=by refine hG.push o (.lpf (SVs.kill o s.env) q .rdy) p0 rdy rfl ⟨rfl,SRs.upd (.refl _) (fun _ _ h=>h) (fun j hj=>by simp[X4,hj]) _ _ hG.env,fun _=>Heap.get_push_self _ _⟩
    have kl:∀ {xs us},SRs P B pl tb xs us→SRs P B (X4 pl o p0) tb (SVs.kill o xs) us:=fun h=>SRs.upd (.refl _) (fun _ _ h=>h) (fun j hj=>by simp[X4,hj]) _ _ h;have av:SRs P B (X4 pl o p0) tb (SVs.kill o first++(.dd o .yv::SVs.kill o dA)) (x'++(.func (.yield σ.n) #[] #[]::y')):=by refine (kl mf).append ?_;simp only[SRs,SR,DR];exact⟨_,_,rfl,⟨σ.n,by simp[X4,p0],rfl⟩,kl o4⟩
    have vZ:Q45 P o (Q1e o aJ ps.length q (fun K' s'=>gwp C L a n (Q3p (fun s3=>gwp C L b n K' s3) fun _ _=>False) s') ps):=by
     intro B F pl tb s ae σ args us K R i hG ha hy ib hK;unfold Q1e at hy;split at hy
     ·rename_i l q' u ho;split at hy
      ·cases hlen:Nat.beq args.length ps.length with
       |false=>rw[hlen] at hy;exact hy.elim
       |true =>
       rw[hlen] at hy;simp only[_root_.cond_true] at hy;obtain⟨rfl,hy⟩:=hy;have ak:=hG.obj o;rw[ho] at ak;have hi:i=q.i:=by have h1:=ak.1;rw[ib] at h1;have:=osj (Value.pointer.inj h1);exact(Addr.mk.inj this).1
       subst hi;have mh:σ.get q.i=some rdy:=ak.2.2 rfl;have jF:(Q7 s.own o).live=true:=by rw[ho];rfl
       have nk:F.get q.i=none:=hG.fresh o q.i jF (by rw[ak.1];rfl);have tD:B.get q.i=none:=by
        cases hb:B.get q.i with
        |none=>rfl
        |some b=>rw[hG.bf.2 _ _ hb] at nk;cases nk
       have kY:=hG.enterLp ho ah ha ps;have iS:(F.ins σ q.i hG.le.1).get q.i=some rdy:=by rw[Heap.ins_self];exact mh
       have fD:(F.ins σ q.i hG.le.1).n=σ.n:=rfl;have aL:q.i<σ.n:=σ.lt mh;refine hY us σ R ⟨mh,by rw[←ha.length];exact(Nat.eq_of_beq_eq_true hlen),?_⟩;refine fz (B0:=B) (F0:=F.ins σ q.i hG.le.1) (D0:=σ) n _ _ _ σ (some q.i) _ ⟨env,r,_,_,iS⟩ ⟨B,_,_,tb,.of kY.bf (Dead.refl _),kY⟩ (hy ae) fun e s3 ru σ3 h7 h8=>?_;cases e with
       |normal =>
        have jM:σ3.get q.i=some rdy:=by obtain⟨B',F',pl',tb',q1,q2⟩:=h8;exact q2.le.2 _ _ (q1.f.2 _ _ iS)
        refine⟨jM,?_⟩;have h9:=h8.lpUpd (b:=fj) iS tD;have nr:((F.ins σ q.i hG.le.1).upd q.i fj).get q.i=some fj:=Heap.get_upd_self _ _ (by rw[fD];exact aL);refine eS (B0:=B) (F0:=(F.ins σ q.i hG.le.1).upd q.i fj) (D0:=σ) n _ _ _ _ (some q.i) _ ⟨env,r,_,_,nr⟩ h9 h7 fun e s4 rv σ4 bW fN=>?_;obtain⟨B',F',pl',tb',q1,q2⟩:=fN;have p7:=q1.f.2 _ _ nr;have ry:=q1.x _ _ nr tD;have o5:σ4.get q.i=some fj:=q2.le.2 _ _ p7;unfold gyK at bW;split at bW
        ·rename_i l2 kR l3 q3 u3 au rz;split at bW
         ·obtain⟨rfl,rfl,bW⟩:=bW;have base:∀ b,GBase B F σ B' (F'.kill q.i) (σ4.upd q.i b):=fun b=>by
           refine⟨q1.b,⟨?_,fun j c hc=>?_⟩,fun j c h1 h2=>?_,q1.d.trans (Dead.upd _ _ _ (by rw[o5];rfl))⟩
           ·have h1:=q1.f.1;have h2:=hG.le.1;show F.n≤F'.n;have h3:((F.ins σ q.i hG.le.1).upd q.i fj).n=σ.n:=rfl;omega
           ·have e:j≠q.i:=by rintro rfl;rw[nk] at hc;cases hc
            rw[Heap.get_kill_ne _ e];refine q1.f.2 _ _ ?_;rw[Heap.get_upd_ne _ _ e,Heap.ins_ne _ _ _ e];exact hc
           ·have e:j≠q.i:=by rintro rfl;rw[nk] at h1;cases h1
            refine q1.x j c ?_ h2;rw[Heap.get_upd_ne _ _ e,Heap.ins_ne _ _ _ e];exact h1
          refine⟨o5,?_⟩;cases e with
          |normal=>exact hK _ _ B' _ pl' tb' _ _ bW (base _) (q2.leaveLp p7 ry au rz .rdy) (by simp[SR,KC])
          |ret=>exact hK _ _ B' _ pl' tb' _ _ bW (base _) (q2.leaveLp p7 ry au rz .ret) (by simp[SR,KC])
          |exit id=>exact hK _ _ B' _ pl' tb' _ _ bW (base _) (q2.leaveLp p7 ry au rz (.exit id)) (by simp[SR,KC])
          |_=>exact bW.elim
         ·exact bW.elim
        ·exact bW.elim
       |_=>exact h7.elim
      ·exact hy.elim
     ·exact hy.elim
    have aZ:=ni B F _ tb _ env (σ.push rdy) o _ _ _ (Q6k o q K) (fun τ=>Q4w Q env σ.n poison τ) iQ av vZ (h q) fun s' B' F' pl' tb' ae σ' hk hb dG=>by
     unfold Q6k at hk;split at hk
     ·rename_i l q' u ho;have fin:∀ {e:Exit},u.live=true→q'=q→K e ⟨l,oset s'.own o .dead,s'.nx⟩→Q e env (σ'.kill σ.n)∧σ'.get σ.n=some (.obj (.lp env r u.st u.pend) true):=fun {e} hu hq v5=>by
       subst hq;obtain⟨g1,g2⟩:=dG.dropLp ho hu;refine⟨hK _ _ _ _ v5 ⟨B',F',pl',tb',⟨hB.b.trans hb.b,hB.f.trans hb.f,fun j c h1 h2=>hb.x j c (hB.f.2 _ _ h1) (hB.x j c h1 h2),hB.d.trans ((Dead.push _ _).trans (hb.d.trans (Dead.kill _ _)))⟩,g1⟩,g2⟩
      cases u with
      |busy=>exact hk.elim
      |rdy =>obtain⟨hq,hk⟩:=hk;obtain⟨k1,k2⟩:=fin rfl hq hk;unfold Q4w;rw[k2];exact⟨(by intro h;cases h),k1⟩
      |ret =>obtain⟨hq,hk⟩:=hk;obtain⟨k1,k2⟩:=fin rfl hq hk;unfold Q4w;rw[k2];exact⟨(by intro h;cases h),k1⟩
      |exit id =>obtain⟨hq,hk⟩:=hk;obtain⟨k1,k2⟩:=fin rfl hq hk;unfold Q4w;rw[k2];exact⟨(by intro h;cases h),k1⟩
     ·exact hk.elim
    refine VCallsTo.mono (R:=fun _ τ=>Q4w Q env σ.n poison τ) (by simpa using aZ) fun v τ h=>h
   split at h
   rotate_left
   ·exact h.elim
   split at h
   ·rename_i it s1 cH A n6 rA hA;split at h
    ·rename_i c m ar xs hc;cases fe:Nat.beq ps.length ar with
     |false=>rw[fe] at h;exact h.elim
     |true =>
     rw[fe] at h;simp only[_root_.cond_true] at h;obtain⟨dV,p,d0,fG,I,v7,tF,tH⟩:=h;have fe:=Nat.eq_of_beq_eq_true fe;have hlen:s.env.length=env.length:=by obtain⟨B,F,pl,tb,_,hG⟩:=hR;exact hG.env.length
     rw[hlen] at tF tH;have oQ:=hR;obtain⟨B,F,pl,tb,hB,hG⟩:=hR;have gN:=hG.evs Gds.nil g;rw[hg] at gN;simp only[SR] at gN;obtain⟨x,y,bC,hx,hy⟩:=gN;simp only[SRs] at hx;subst hx;obtain⟨B1,F1,o6,gK,v8,jl⟩:=Hi hG hy rA;obtain⟨iz,rB⟩:=aw.it f it n6;obtain⟨o7,rC⟩:=rB B1 cH y c m ar xs v8 hc dV;have v9:GRel P B1 F1 D0 (Zn (List.length env) (A.st p d0) (A.own p d0)) env σ:=NN ⟨B1,F1,pl,tb,⟨.refl _,.refl _,fun _ _ _ h=>h,(hB.trans o6).d⟩,gK⟩ fG;have kZ:B1.get σ.n=none:=B1.wf _ gK.leB.1;have p8:F1.get σ.n=none:=F1.wf _ gK.le.1;show vwp (Q2 P) (.rangeF g ps a b) ro Q env σ;simp only[vwp,Es,bC];have mg:(Q2 P).it f=some fun i Y args σ K=>UC P i Y→VCallsTo P f args σ K:=by simp only[Q2];rw[if_pos iz]
     rw[mg];refine⟨?_,fun r hY=>?_⟩
     ·cases ro with
      |none=>trivial
      |some i =>obtain⟨e1,r1,st1,rr,hi⟩:=bL;exact⟨e1,r1,st1,rr,hG.le.2 _ _ (hB.f.2 _ _ hi)⟩
     ·let rdy:Blk:=.obj (.lp env r .ready none) true;let fj:Blk:=.obj (.lp env r .busy none) true;have k_:F1.Le (σ.push rdy):=gK.le.push rdy;let Fr:=F1.ins (σ.push rdy) σ.n k_.1;have iS:Fr.get σ.n=some rdy:=by
       show (F1.ins _ _ _).get σ.n=_;rw[Heap.ins_self,Heap.get_push_self]
      have fD:Fr.n=σ.n+1:=rfl;have v_:F1.Le Fr:=k_.ins σ.n;let J:Nat→Heap→Prop:=fun k τ=>∃ d,I k d∧GRel P B1 Fr D0 (Zn (List.length env) (A.st p d) (A.own p d)) env τ;let E:Heap→Prop:=fun τ=>∃ cd e,τ.get σ.n=some (.obj (.lp env r .done (some cd)) true)∧((cd=.ret∧e=Exit.ret)∨∃ id,cd=.exit id∧e=Exit.exit id)∧Q e env (τ.kill σ.n);have back:∀ {s':St}{τ:Heap},GRel P B1 (Fr.upd σ.n fj) D0 s' env τ→∀ b,GRel P B1 ((Fr.upd σ.n fj).upd σ.n b) D0 s' env (τ.upd σ.n b):=fun h b =>
       h.lpUpd (b0:=fj) (Heap.get_upd_self _ _ (by rw[fD];omega)) kZ
      have iT:∀ {Fx:Heap}{b0:Blk}{s':St}{τ:Heap},Fx.get σ.n=some b0→(∀ i,i≠σ.n→Fx.get i=F1.get i)→Fx.n=σ.n+1→GRel P B1 Fx D0 s' env τ→GRel P B0 F0 D0 s' env (τ.kill σ.n):=fun {Fx b0 s' τ} h1 h2 h3 h4=>by
       refine (h4.lpKill h1 kZ).base (hB.b.trans o6.b) ⟨?_,fun i b hb=>?_⟩ fun i b k1 k2=>(hB.trans o6).x i b k1 k2
       ·show F0.n≤Fx.n;rw[h3];have:=(hB.trans o6).f.1;have:=gK.le.1;omega
       ·have bp:=(hB.trans o6).f.2 _ _ hb;have e:i≠σ.n:=by rintro rfl;rw[p8] at bp;cases bp
        rw[Heap.get_kill_ne _ e,h2 i e];exact bp
      have jX:∀ i,i≠σ.n→Fr.get i=F1.get i:=fun i e=>Heap.ins_ne _ _ _ e;have aZ:=rC σ.n _ J E (σ.push rdy) hY (fun k τ ⟨d,_,hd⟩=>?_) (fun k us τ hk ⟨d,rD,hd⟩ dx=>?_) ⟨d0,v7,?_⟩
      ·refine VCallsTo.mono (R:=fun _ τ=>J m τ∨E τ) (by simpa using aZ) fun v τ qJ=>?_;unfold Q4w;rcases qJ with⟨d,rD,hd⟩|⟨cd,e,h1,h2,h3⟩
       ·have mh:τ.get σ.n=some rdy:=by
         obtain⟨B',F',pl',tb',q1,q2⟩:=hd;exact q2.le.2 _ _ (q1.f.2 _ _ iS)
        rw[mh];exact⟨(by intro h;cases h),hK _ _ _ _ (tH d rD) (iT iS jX fD hd)⟩
       ·rw[h1];refine⟨(by intro h;cases h),?_⟩;rcases h2 with⟨rfl,rfl⟩|⟨id,rfl,rfl⟩<;>exact h3
      ·obtain⟨B',F',pl',tb',q1,q2⟩:=hd;exact q1.b.trans q2.leB
      ·
       have mh:τ.get σ.n=some rdy:=by obtain⟨B',F',pl',tb',q1,q2⟩:=hd;exact q2.le.2 _ _ (q1.f.2 _ _ iS)
       refine⟨mh,by rw[fe,←(o7 k).1,dx.length],?_⟩;have hF:=tF k d hk rD env;have bj:GRel P B1 Fr D0 ⟨BS (ED (2000000+n) env (Zn (List.length env) (A.st p d) (A.own p d))).env ps (xs k),(ED (2000000+n) env (Zn (List.length env) (A.st p d) (A.own p d))).own,0⟩ (Rt env ps us) τ:=by
        obtain⟨B',F',pl',tb',q1,q2⟩:=hd;have q3:Gam P B' F' (X4 pl' (2000000+n) poison) tb' (ED (2000000+n) env (Zn (List.length env) (A.st p d) (A.own p d))) env τ:=by refine q2.make (2000000+n) _ poison q2.le (fun _ _ _ _ _=>rfl) ?_ (fun i hl _=>by cases hl);exact SRs.upd (.refl _) (fun _ _ h=>h) (fun j hj=>by simp[X4,hj]) _ _ q2.env
        refine⟨B',F',X4 pl' (2000000+n) poison,tb',q1,⟨q3.bf,q3.le,G0 ?_ q3.env,q3.obj,q3.fresh,q3.sep,?_⟩⟩
        ·exact SRs.mono q1.b (fun _ _ h=>h) _ _ (QE _ _ (o7 k).2 dx)
        ·exact q3.free
       refine fz (B0:=B1) (F0:=Fr) n _ _ _ τ (some σ.n) _ ⟨env,r,_,_,iS⟩ bj hF fun e s3 ru σ3 h7 h8=>?_;cases e with
       |normal =>
        have jM:σ3.get σ.n=some rdy:=by obtain⟨B',F',pl',tb',q1,q2⟩:=h8;exact q2.le.2 _ _ (q1.f.2 _ _ iS)
        refine⟨jM,?_⟩;have h9:=h8.lpUpd (b:=fj) iS kZ;have nr:(Fr.upd σ.n fj).get σ.n=some fj:=Heap.get_upd_self _ _ (by rw[fD];omega);refine eS (B0:=B1) (F0:=Fr.upd σ.n fj) n _ _ _ _ (some σ.n) _ ⟨env,r,_,_,nr⟩ h9 h7 fun e s4 rv σ4 bW fN=>?_;have o5:σ4.get σ.n=some fj:=by obtain⟨B',F',pl',tb',q1,q2⟩:=fN;exact q2.le.2 _ _ (q1.f.2 _ _ nr)
        have tI:σ.n<σ4.n:=σ4.lt o5;unfold Q24 at bW;split at bW
        ·rename_i l vs eU;obtain⟨rfl,bW⟩:=bW;have cM:GRel P B1 (Fr.upd σ.n fj) D0 ⟨l,s4.own,s4.nx⟩ vs σ4:=by
          obtain⟨B',F',pl',tb',q1,q2⟩:=fN;have:=q2.obj (2000000+n);rw[eU] at this;exact⟨B',F',pl',tb',q1,q2.bf,q2.le,this,q2.obj,q2.fresh,q2.sep,q2.free⟩
         have mi:∀ b,((Fr.upd σ.n fj).upd σ.n b).get σ.n=some b:=fun b=>Heap.get_upd_self _ _ (by show σ.n<Fr.n;rw[fD];omega);have rE:∀ b i,i≠σ.n→((Fr.upd σ.n fj).upd σ.n b).get i=F1.get i:=fun b i e=>by rw[Heap.get_upd_ne _ _ e,Heap.get_upd_ne _ _ e,jX i e]
         refine⟨o5,?_⟩;cases e with
         |normal =>
          obtain⟨d',nj,p5⟩:=bW;refine .inl ⟨rfl,d',p5,?_⟩;have:=(back (NN cM nj) rdy).base (B0:=B1) (F0:=Fr) (.refl _) ⟨Nat.le_refl _,fun i b hb=>?_⟩ fun i b k1 k2=>k2
          ·exact this
          ·by_cases e:i=σ.n
           ·subst e;rw[iS] at hb;rw[mi];exact hb
           ·rw[rE _ _ e,←jX i e];exact hb
         |ret =>refine .inr ⟨rfl,_,_,Heap.get_upd_self _ _ tI,.inl ⟨rfl,rfl⟩,hK _ _ _ _ bW (iT (mi _) (rE _) (by show Fr.n=_;exact fD) (back cM _))⟩
         |exit id =>refine .inr ⟨rfl,_,_,Heap.get_upd_self _ _ tI,.inr ⟨id,rfl,rfl⟩,hK _ _ _ _ bW (iT (mi _) (rE _) (by show Fr.n=_;exact fD) (back cM _))⟩
         |_=>exact bW.elim
        ·exact bW.elim
       |_=>exact h7.elim
      ·
       obtain⟨B',F',pl',tb',q1,q2⟩:=v9;have hle:F'.Le (σ.push rdy):=q2.le.push rdy;have wa:F'.get σ.n=none:=F'.wf _ q2.le.1;have ak:∀ d i,(Q7 (Zn (List.length env) (A.st p d0) (A.own p d0)).own d).live=true→Oid (pl' d) i→i<σ.n:=fun d i h1 h2=>(q2.obj d).id_lt h1 h2;refine⟨B',F'.ins (σ.push rdy) σ.n hle.1,pl',tb',⟨q1.b,Heap.ins_ins q1.f _ _ _,fun i b k1 k2=>?_,q1.d.trans (Dead.push _ _)⟩,⟨q2.bf.trans (hle.ins _),hle.ins_le _,q2.env,fun d=>(q2.obj d).mono (.refl _) (fun _ _ h=>h) fun h1 i h2=>Heap.get_push_lt _ _ (ak d i h1 h2),fun d i h1 h2=>?_,q2.sep,q2.free⟩⟩
       ·by_cases e:i=σ.n
        ·subst e;exact B'.wf _ q2.leB.1
        ·rw[jX i e] at k1;exact q1.x i b k1 k2
       ·rw[Heap.ins_ne _ _ _ (Nat.ne_of_lt (ak d i h1 h2))];exact q2.fresh d i h1 h2
    ·exact h.elim
   ·exact h.elim
  ·exact h.elim
 |bad=>intro B0 F0 D0 n K s env σ ro Q bL hR h hK;exact h.elim
 |ret=>intro B0 F0 D0 n K s env σ ro Q bL hR h hK;exact hK _ _ _ _ h hR
 |exit id=>intro B0 F0 D0 n K s env σ ro Q bL hR h hK;exact hK _ _ _ _ h hR
 |seq a b fz eS =>
  intro B0 F0 D0 n K s env σ ro Q bL hR h hK;refine fz n _ s env σ ro _ bL hR h fun e s' ae σ' h1 h2=>?_;cases e with
  |normal=>exact eS n K s' ae σ' ro Q bL h2 h1 hK
  |_=>exact hK _ _ _ _ h1 h2
 |cond c a b fz eS =>
  intro B0 F0 D0 n K s env σ ro Q bL hR h hK;simp only[gwp] at h;split at h
  ·rename_i t ht;have oQ:=hR;obtain⟨B,F,pl,tb,hB,hG⟩:=hR;have:=Gp hG ht;simp only[vwp,this,Q30];cases t with
   |true=>exact⟨fun _=>fz n K s env σ ro Q bL oQ h hK,fun e=>by cases e⟩
   |false=>exact⟨(fun e=>by cases e),fun _=>eS n K s env σ ro Q bL oQ h hK⟩
  split at h
  ·rename_i t ht;obtain⟨B,F,pl,tb,hB,hG⟩:=hR;have:=Wu ht (hG.evs Gds.nil c);simp only[vwp,this,Q30];split at h
   ·rename_i A hA;obtain⟨p,I,hF,hI⟩:=h;have fin:∀ e s' ae σ',Q6x s.env.length A p I K e s'→GRel P B0 F0 D0 s' ae σ'→Q e ae σ':=fun e s' ae σ' h1 h2=>by
     cases e with
     |normal =>obtain⟨d,h3,h4⟩:=h1;exact hK _ _ _ _ (hI d h4) (Nn h2 h3)
     |_=>exact hK _ _ _ _ h1 h2
    exact⟨fun e=>fz n _ s env σ ro Q bL ⟨B,F,pl,tb,hB,hG⟩ (hF.1 e) fin,fun e=>eS n _ s env σ ro Q bL ⟨B,F,pl,tb,hB,hG⟩ (hF.2 e) fin⟩
   exact⟨fun e=>fz n K s env σ ro Q bL ⟨B,F,pl,tb,hB,hG⟩ (h.1 e) hK,fun e=>eS n K s env σ ro Q bL ⟨B,F,pl,tb,hB,hG⟩ (h.2 e) hK⟩
  ·exact h.elim
 |block id b ih =>
  intro B0 F0 D0 n K s env σ ro Q bL hR h hK;refine ih id _ s env σ ro _ bL hR h fun e s' ae σ' h1 h2=>?_;cases e with
  |exit ig =>
   simp only[Q2b] at h1;simp only[I4];split
   ·rename_i e;rw[if_pos e] at h1;exact hK _ _ _ _ h1 h2
   ·rename_i e;rw[if_neg e] at h1;exact hK _ _ _ _ h1 h2
  |_=>exact hK _ _ _ _ h1 h2
 |loop b ih =>
  intro B0 F0 D0 n K s env σ ro Q bL hR h hK;simp only[gwp] at h;split at h
  ·rename_i A hA;obtain⟨p,d0,h1,I,μ,h2,h3⟩:=h;have hlen:s.env.length=env.length:=by obtain⟨B,F,pl,tb,_,hG⟩:=hR;exact hG.env.length
   have hk:∀ d,(A.st p d).map (·.1)=A.sl:=fun d=>Rh _ _;refine⟨A.sl,fun m vs σ'=>∃ d,I d∧μ d=m∧GRel P B0 F0 D0 (Zn s.env.length (A.st p d) (A.own p d)) (WB A.sl vs (List.replicate env.length poison)) σ',μ d0,⟨d0,h2,rfl,?_⟩,fun m vs σ' ⟨d,h4,h5,h6⟩=>?_⟩
   ·have:=Pa hR h1 s.env.length;rw[hk d0,hlen] at this;rw[hlen];exact this
   ·refine ih n _ _ _ σ' ro _ bL h6 (h3 d h4) fun e s' ae aE h7 h8=>?_;cases e with
    |normal =>
     simp only[Q5e] at h7;cases ov:Z2y s'.own with
     |false=>rw[ov] at h7;exact h7.elim
     |true =>
     rw[ov] at h7;obtain⟨d',h9,bW,fN⟩:=h7;refine⟨μ d',by omega,d',bW,rfl,?_⟩;have:=Pa h8 h9 s.env.length;rw[hk d',hlen] at this;rw[hlen];exact this
    |_=>exact hK _ _ _ _ h7 h8
  ·exact h.elim
end
end Go.V
namespace Go.V
open Go
def AD (s:St):VResult→Option SV
 |.tmp t=>some (s.env.getD t .any)
 |.cell a agg size=>bif Nat.blt 0 size then Q49 s.own agg size (s.env.getD a .any) else none
def Y0 (s:St) (rs:List VResult):Option SV :=
 match rs with
 |[r]=>AD s r
 |rs=>(rs.mapM (AD s)).map .tup
def Q64 (mp:List (Nat×Option Nat)) (j:Nat) (a:Option Nat):Option (List (Nat×Option Nat)) :=
 if (Qm mp j).isSome then none else match a with
 |some x=>if mp.any fun p=>p.2==some x then none else some (mp++[(j,a)])
 |none=>some (mp++[(j,a)])
mutual
def Q0a:SV→SV→List (Nat×Option Nat)→Option (List (Nat×Option Nat))
 |.lst j,v,mp=>match v with|.lst a=>Q64 mp j (some a)|.nilS=>Q64 mp j none|_=>none
 |.map j,v,mp=>match v with|.map a=>Q64 mp j (some a)|_=>none
 |.dd j w,v,mp=>match w with
  |.out=>(match v with
   |.dd a w'=>(match w' with|.out=>Q64 mp j (some a)|_=>none)
   |.nilS=>Q64 mp j none
   |_=>none)
  |_=>none
 |.box j _,v,mp=>match v with|.box a _=>Q64 mp j (some a)|_=>none
 |.agg l,v,mp=>match v with|.agg l'=>Ob l l' mp|_=>none
 |.tup l,v,mp=>match v with|.tup l'=>Ob l l' mp|_=>none
 |.any,_,mp=>some mp
 |.val _ _,_,mp=>some mp
 |.nilS,_,mp=>some mp
 |.nilP,_,mp=>some mp
 |.nilM,_,mp=>some mp
 |.nilF,_,mp=>some mp
 |.sub _ _ _ _,_,_|.elp _ _ _ _,_,_|.grd _ _,_,_|.cp _ _,_,_|.fn _ _ _,_,_|.rop _ _ _ _,_,_|.pf _ _ _ _,_,_|.bid _ _,_,_=>none
def Ob:List SV→List SV→List (Nat×Option Nat)→Option (List (Nat×Option Nat))
 |[],_,mp=>some mp
 |s::ss,l,mp=>match l with
  |v::vs=>match Q0a s v mp with|some mp=>Ob ss vs mp|none=>none
  |[]=>none
end
def Q1i (s:St) (mp:List (Nat×Option Nat)):Nat→List OB→Prop
 |_,[]=>True
 |j,b::r=>OK s mp j b∧Q1i s mp (j+1) r
def V8 (rs:List VResult) (v:SV) (bs:List OB):Exit→St→Prop:=fun e s =>
 let fin:=match Y0 s rs with
  |some r=>(match Q0a v r [] with
   |some mp=>Hn mp v r∧Q1i s mp 0 bs
   |none=>False)
  |none=>False
 match e with
 |.normal=>fin
 |.ret=>fin
 |_=>False
section
variable {P:Program}{B F:Heap}{pl:Nat→Value}{tb:Nat→Option Bool}{s:St}{env:Env}{σ:Heap}
theorem Tn (hG:Gam P B F pl tb s env σ) {r:VResult}{v:SV}(h:AD s r=some v):∃ u,J_ env σ r=some u∧SR P B pl tb v u:=by
 cases r with
 |tmp t=>obtain rfl:=osj h;exact⟨_,rfl,hG.env.getD t undef⟩
 |cell a agg size =>
  simp only[AD] at h;cases hb:Nat.blt 0 size with
  |false=>rw[hb] at h;cases h
  |true =>rw[hb] at h;obtain⟨i,o,c,e,wr,t,u,h1,h2,h3,h4⟩:=Tl hG.leB hG.obj (by simpa [Nat.blt_eq] using hb) h (hG.env.getD a undef);refine⟨u,?_,h4⟩;simp only[J_,Q5,Q3,h1,h2,h3];rfl
theorem Xd (hG:Gam P B F pl tb s env σ) {rs:List VResult}{v:SV}(h:Y0 s rs=some v):∃ u,Jn env σ rs=some u∧SR P B pl tb v u:=by
 have all:∀ (rs:List VResult) (l:List SV),rs.mapM (AD s)=some l→∃ us,rs.mapM (J_ env σ)=some us∧SRs P B pl tb l us:=by
  intro rs;induction rs with
  |nil=>intro l h;simp at h;subst h;exact⟨[],rfl,rfl⟩
  |cons r rs ih =>
   intro l h;rw[List.mapM_cons] at h;cases h1:AD s r with
   |none=>simp[h1] at h
   |some a =>
    cases h2:rs.mapM (AD s) with
    |none=>simp[h1,h2] at h
    |some l' =>simp[h1,h2] at h;subst h;obtain⟨u,h3,h4⟩:=Tn hG h1;obtain⟨us,h5,h6⟩:=ih l' h2;exact⟨u::us,by rw[List.mapM_cons];simp[h3,h5],by simp only[SRs];exact⟨u,us,rfl,h4,h6⟩⟩
 have tup:(rs.mapM (AD s)).map SV.tup=some v→∃ u,(rs.mapM (J_ env σ)).map (fun vs=>Value.tuple vs.toArray)=some u∧SR P B pl tb v u:=fun h=>by simp only[Option.map_eq_some_iff] at h;obtain⟨l,h1,rfl⟩:=h;obtain⟨us,h2,h3⟩:=all rs l h1;exact⟨.tuple us.toArray,by rw[h2];rfl,by simp only[SR];exact⟨us,rfl,h3⟩⟩
 match rs,h,tup with
 |[r],h,_=>exact Tn hG h
 |[],h,tup=>exact tup h
 |_::_::_,h,tup=>exact tup h
theorem Gx {mp b9:List (Nat×Option Nat)}{j:Nat}{a:Option Nat}(h:Q64 mp j a=some b9) (hi:Inj mp):Inj b9:=by
 unfold Q64 at h;split at h
 ·cases h
 ·split at h
  ·rename_i x;split at h
   ·cases h
   ·rename_i hc;obtain rfl:=osj h;have cM:∀ d,Qm mp d≠some (some x):=fun d hd=>by
     obtain⟨p,h1,h2,h3⟩:=Eg hd;exact hc (List.any_eq_true.2 ⟨p,h1,by rw[h3];simp⟩)
    intro t1 t2 a' h1 h2;rw[Ua] at h1 h2;split at h1
    ·rename_i y1 e1;split at h2
     ·rename_i y2 e2;obtain rfl:=osj h1;obtain rfl:=osj h2;exact hi t1 t2 a' e1 e2
     ·split at h2
      ·obtain rfl:=osj (osj h2);obtain rfl:=osj h1;exact absurd e1 (cM t1)
      ·cases h2
    ·split at h1
     ·obtain rfl:=osj (osj h1);split at h2
      ·rename_i y2 e2;obtain rfl:=osj h2;exact absurd e2 (cM t2)
      ·split at h2
       ·omega
       ·cases h2
     ·cases h1
  ·obtain rfl:=osj h;intro t1 t2 a' h1 h2;rw[Ua] at h1 h2;split at h1
   ·rename_i y1 e1;split at h2
    ·rename_i y2 e2;obtain rfl:=osj h1;obtain rfl:=osj h2;exact hi t1 t2 a' e1 e2
    ·split at h2<;>cases h2
   ·split at h1<;>cases h1
mutual
theorem Cw:∀ (v r:SV) (mp b9:List (Nat×Option Nat)),Q0a v r mp=some b9→Inj mp→Inj b9
 |.lst j,r,mp,b9,h,hi=>by
  simp only[Q0a] at h;split at h
  ·exact Gx h hi
  ·exact Gx h hi
  ·cases h
 |.map j,r,mp,b9,h,hi=>by
  simp only[Q0a] at h;split at h
  ·exact Gx h hi
  ·cases h
 |.dd j w,r,mp,b9,h,hi=>by
  simp only[Q0a] at h;split at h
  ·split at h
   ·split at h
    ·exact Gx h hi
    ·cases h
   ·exact Gx h hi
   ·cases h
  ·cases h
 |.box j _,r,mp,b9,h,hi=>by
  simp only[Q0a] at h;split at h
  ·exact Gx h hi
  ·cases h
 |.agg l,r,mp,b9,h,hi=>by
  simp only[Q0a] at h;split at h
  ·exact RV l _ mp b9 h hi
  ·cases h
 |.tup l,r,mp,b9,h,hi=>by
  simp only[Q0a] at h;split at h
  ·exact RV l _ mp b9 h hi
  ·cases h
 |.any,r,mp,b9,h,hi|.val _ _,r,mp,b9,h,hi|.nilS,r,mp,b9,h,hi|.nilP,r,mp,b9,h,hi|.nilM,r,mp,b9,h,hi|.nilF,r,mp,b9,h,hi=>by simp only[Q0a] at h;obtain rfl:=osj h;exact hi
 |.sub _ _ _ _,r,mp,b9,h,hi|.elp _ _ _ _,r,mp,b9,h,hi|.grd _ _,r,mp,b9,h,hi|.cp _ _,r,mp,b9,h,hi|.fn _ _ _,r,mp,b9,h,hi|.rop _ _ _ _,r,mp,b9,h,hi|.pf _ _ _ _,r,mp,b9,h,hi|.bid _ _,r,mp,b9,h,hi=>by cases h
theorem RV:∀ (v r:List SV) (mp b9:List (Nat×Option Nat)),Ob v r mp=some b9→Inj mp→Inj b9
 |[],r,mp,b9,h,hi=>by simp only[Ob] at h;obtain rfl:=osj h;exact hi
 |s::ss,[],mp,b9,h,hi=>by cases h
 |s::ss,r::rs,mp,b9,h,hi=>by
  simp only[Ob] at h;split at h
  ·rename_i tJ h1;exact RV ss rs tJ b9 h (Cw s r mp tJ h1 hi)
  ·cases h
end
theorem TZ {mp:List (Nat×Option Nat)}:∀ (bs:List OB) (n:Nat),Q1i s mp n bs→∀ j b,bs[j]?=some b→OK s mp (n+j) b
 |[],n,_,j,b,hj=>by simp at hj
 |b0::r,n,h,j,b,hj=>by
  obtain⟨h1,h2⟩:=h;cases j with
  |zero=>simp at hj;subst hj;exact h1
  |succ j =>
   have:=TZ r (n+1) h2 j b (by simpa using hj)
   rwa [Nat.add_assoc,Nat.add_comm 1 j] at this
mutual
theorem IJ {n:Nat}{π:Nat→Nat}:∀ (v:SV) (u:Value),v.ret 0=true→SR P B pl tb v u→Ren n π u u
 |.val k x,u,h,hs=>by
  simp only[SR] at hs;cases k with
  |i ik=>simp only[KC] at hs;obtain rfl:=(List.cons.inj hs).1;exact .plain _ rfl
  |bo=>simp only[KC] at hs;obtain rfl:=(List.cons.inj hs).1;exact .plain _ rfl
  |st=>simp only[KC] at hs;obtain rfl:=(List.cons.inj hs).1;exact .plain _ rfl
  |list k=>cases h
  |pair a b =>have h1:=KC.length hs;have h2:=a.size_pos;have h3:=b.size_pos;simp only[Kind.size,List.length_singleton] at h1;omega
 |.nilS,u,_,hs|.nilP,u,_,hs|.nilM,u,_,hs|.nilF,u,_,hs=>by simp only[SR] at hs;subst hs;exact .plain _ rfl
 |.lst j,u,h,_|.box j _,u,h,_|.map j,u,h,_=>by simp[SV.ret,Nat.blt_eq] at h
 |.dd j w,u,h,_=>by cases w<;>simp[SV.ret,Nat.blt_eq] at h
 |.agg l,u,h,hs=>by simp only[SR] at hs;obtain⟨cs,rfl,h2⟩:=hs;have:=Rl (n:=n) (π:=π) l cs h h2;exact .agg _ _ rfl fun i h3 _=>this _ (by simp)
 |.tup l,u,h,hs=>by simp only[SR] at hs;obtain⟨cs,rfl,h2⟩:=hs;have:=Rl (n:=n) (π:=π) l cs h h2;exact .tuple _ _ rfl fun i h3 _=>this _ (by simp)
 |.any,_,h,_|.bid _ _,_,h,_|.grd _ _,_,h,_|.sub _ _ _ _,_,h,_|.elp _ _ _ _,_,h,_|.rop _ _ _ _,_,h,_|.cp _ _,_,h,_|.fn _ _ _,_,h,_|.pf _ _ _ _,_,h,_=>by cases h
theorem Rl {n:Nat}{π:Nat→Nat}:∀ (v:List SV) (u:List Value),SVs.ret 0 v=true→SRs P B pl tb v u→∀ x∈u,Ren n π x x
 |[],u,_,hs=>by simp only[SRs] at hs;subst hs;intro x hx;cases hx
 |s::ss,u,h,hs=>by
  simp only[SVs.ret,Bool.and_eq_true] at h;simp only[SRs] at hs;obtain⟨x,y,rfl,h1,h2⟩:=hs;intro z hz;rcases List.mem_cons.1 hz with rfl|hz
  ·exact IJ s z h.1 h1
  ·exact Rl ss y h.2 h2 z hz
end
theorem Oq (exact:Bool) {σ0:Heap}{sf:St}{mj:Env}{σf:Heap}(hR:GRel P σ0 σ0 σ0 sf mj σf) {rs:List VResult}{v:SV}{bs:List OB}{e:Exit}(hv:v.ret bs.length=true) (hb:bs.all OB.ret=true) (h:V8 rs v bs e sf) (hx:exact=true→bs.all OB.isL=true∧Uz v=true) :
  Z1p σ0 rs (fun u σ'=>if exact then u=UK (L9 σ0 bs) v∧σ'=Tz σ0 bs else Ret P σ0 v bs u σ') e mj σf:=by
 have main:(match Y0 sf rs with
  |some r=>(match Q0a v r [] with
   |some mp=>Hn mp v r∧Q1i sf mp 0 bs
   |none=>False)
  |none=>False)→QV (Jn mj σf rs) fun u=>∃ v' σ',DropTo σ0 u σf v' σ'∧(if exact then v'=UK (L9 σ0 bs) v∧σ'=Tz σ0 bs else Ret P σ0 v bs v' σ'):=fun h=>by
  split at h
  ·rename_i r hr;split at h
   ·rename_i mp iR;obtain⟨h1,h2⟩:=h;obtain⟨B,F,pl,tb,⟨hB,hF,_,hd⟩,hG⟩:=hR;obtain⟨u,h3,h4⟩:=Xd hG hr;have ia:=WG v r u h1 h4;have dQ:=Cw v r [] mp iR (fun t t' a h=>by cases h);have ak:∀ j b,bs[j]?=some b→OK sf mp j b:=fun j b hj=>by have:=TZ bs 0 h2 j b hj;rwa [Nat.zero_add] at this
    rw[h3];have hle:σ0.Le σf:=hF.trans hG.le;have hA:Agree σ0 σf:=fun i hi=>by
     cases hg:σ0.get i with
     |none=>exact hd.2 i hi hg
     |some b=>exact hle.2 i b hg
    have aP:∀ j b,bs[j]?=some b→OR P hNil (U1 pl mp) ZF σf (U1 pl mp j) b∧∀ i,Oid (U1 pl mp j) i→σ0.get i=none∧σ0.n≤i:=fun j b hj=>by
     obtain⟨k1,k2⟩:=Qz hG (ak j b hj);have dC:=List.all_eq_true.1 hb b (List.mem_of_getElem? hj);have ai:b.live=true:=by cases b<;>first|rfl|cases dC
     refine⟨k1.retd dC fun _ _=>rfl,fun i hi=>?_⟩;obtain⟨a,e1,e2,e3⟩:=k2 ai i hi;have kZ:=hG.fresh a i e2 e3;have hn:σ0.get i=none:=by
      cases hg:σ0.get i with
      |none=>rfl
      |some b=>rw[hF.2 i b hg] at kZ;cases kZ
     refine⟨hn,Nat.le_of_not_lt fun aj=>?_⟩;have bg:=hd.2 i aj hn;have ak:=hG.obj a;cases ho:Q7 sf.own a with
     |dead=>rw[ho] at e2;cases e2
     |lst ty k xs nl =>
      rw[ho] at ak;rcases ak with⟨_,_,h2⟩|⟨_,i',cap,c,t,h2,_,h3,_⟩
      ·rw[h2] at e3;cases e3
      ·rw[h2] at e3;obtain rfl:=osj e3;rw[h3] at bg;cases bg
     |cells l u=>rw[ho] at ak;obtain⟨i',c,e,t,h2,h3,_⟩:=ak;rw[h2] at e3;obtain rfl:=osj e3;rw[h3] at bg;cases bg
     |mapE kk vk m key n=>rw[ho] at ak;obtain⟨i',es,cl,r,e,h2,h3,_⟩:=ak;rw[h2] at e3;obtain rfl:=osj e3;rw[h3] at bg;cases bg
     |map kk vk m=>rw[ho] at ak;obtain⟨i',es,cl,h2,h3,_⟩:=ak;rw[h2] at e3;obtain rfl:=osj e3;rw[h3] at bg;cases bg
     |stk l vals=>rw[ho] at e2;cases e2
     |lpf l q s=>rw[ho] at ak e2;obtain⟨h2,_,h3⟩:=ak;rw[h2] at e3;obtain rfl:=osj e3;have h3:=h3 e2;rw[bg] at h3;cases h3
     |iter kk vk m dn=>rw[ho] at ak;obtain⟨j',i',es,cl,wr,seen,h2,h3,_⟩:=ak;rw[h2] at e3;obtain rfl:=osj e3;rw[h3] at bg;cases bg
     |deep ty q k xs nl hh =>rw[ho] at ak;obtain⟨is,_,d2,d3,_⟩:=DP.open ak;obtain⟨c,e,t,h⟩:=d2.cells i ((d3 i).1 e3);rw[h] at bg;cases bg
    have dk:∀ j j' i,j<bs.length→j'<bs.length→j≠j'→Oid (U1 pl mp j) i→Oid (U1 pl mp j') i→False:=fun j j' i hj cu aA hi b6=>by
     have bp:=List.getElem?_eq_getElem hj;have b_:=List.getElem?_eq_getElem cu;have r1:=List.all_eq_true.1 hb _ (List.getElem_mem hj);have r2:=List.all_eq_true.1 hb _ (List.getElem_mem cu);have l1:(bs[j]).live=true:=by cases jG:bs[j]<;>first|rfl|(rw[jG] at r1;cases r1)
     have l2:(bs[j']).live=true:=by cases jG:bs[j']<;>first|rfl|(rw[jG] at r2;cases r2)
     obtain⟨a,e1,e2,e3⟩:=(Qz hG (ak j _ bp)).2 l1 i hi;obtain⟨a',rF,kP,rG⟩:=(Qz hG (ak j' _ b_)).2 l2 i b6;by_cases e:a=a'
     ·subst e;exact aA (dQ j j' a e1 rF)
     ·exact hG.sep a a' i e e2 kP e3 rG
    cases hex:exact with
    |true =>obtain⟨hl,cE⟩:=hx hex;have o8:=Oo (P:=P) hA hle.1 hv cE hb hl (pl:=U1 pl mp) (u:=u) (fun j b hj=>⟨(aP j b hj).1,fun i hi=>((aP j b hj).2 i (MZ hi)).2⟩) (fun j j' i a b c d e=>dk j j' i a b c (MZ d) (MZ e)) (ia.retd (fun j hj=>rfl) _ _ hv);exact⟨_,_,o8,by simp⟩
    |false =>
     simp only[Bool.false_eq_true,if_false];by_cases cg:bs=[]
     ·subst cg;refine⟨u,σ0,.rename (fun i=>i) (Nat.le_refl _) (fun i hi=>⟨rfl,(hA i hi).symm,.inl (hA i hi)⟩) (fun i k1 k2=>by omega) (fun _ _ _ _ _ _ h=>h) (IJ v u hv ia),?_⟩;exact⟨⟨Heap.Le.refl _,Dead.refl _⟩,fun _=>rfl,X0,(fun j b hj=>by simp at hj),(fun j j' i hj=>by simp at hj),ia.retd (fun j hj=>by simp at hj) _ _ hv⟩
     ·exact⟨u,σf,.refl _ _ _,⟨hle,hd⟩,fun e=>absurd e cg,U1 pl mp,aP,dk,ia.retd (fun j hj=>rfl) _ _ hv⟩
   ·exact h.elim
  ·exact h.elim
 cases e with
 |normal=>exact main h
 |ret=>exact main h
 |_=>exact h.elim
def Qr (nt:Nat) (args:List SV):St:=⟨args++List.replicate (nt-args.length) .any,[],0⟩
theorem Oz {args:List SV}{vs:List Value}(h:SRs P σ X0 ZF args vs) (nt:Nat):GRel P σ σ σ (Qr nt args) (vs++List.replicate (nt-vs.length) undef) σ:=by
 have wb:∀ n,SRs P σ X0 ZF (List.replicate n .any) (List.replicate n undef):=by
  intro n;induction n with
  |zero=>simp[SRs]
  |succ n ih=>simp only[List.replicate_succ,SRs];exact⟨_,_,rfl,by simp[SR],ih⟩
 refine⟨σ,σ,X0,ZF,⟨Heap.Le.refl _,Heap.Le.refl _,(fun i b h1 h2=>by rw[h2] at h1;cases h1),Dead.refl _⟩,Heap.Le.refl _,Heap.Le.refl _,?_,fun d=>trivial,(fun d i hl=>by cases hl),(fun d d' i _ hl=>by cases hl),fun _ _=>rfl⟩;have:=h.length;simp only[Qr,this];exact h.append (wb _)
theorem Fun.okC {f:Nat}{vc:VCode}{rs:List VResult}{nt:Nat}(h:Fun P f vc rs nt) (hm:P.follows .mixedOrders=true) {sp:CSp}
  (hb:∀ ap,Q2u P ap→∀ args c v bs,sp ap args=some (c,v,bs)→c→∃ (C:Cx) (L:List (Nat×LoopAnn)) (bh:List SV),(∀ σ vs,SRs P σ X0 ZF args vs→SRs P σ X0 ZF bh vs)∧COk P C∧gwp C L vc 0 (V8 rs v bs) (Qr nt bh)):OkC P f sp:=by
 intro ap cZ σ args vs c v bs av eH hv cg hc;obtain⟨C,L,bh,h1,h2,h3⟩:=hb ap cZ args c v bs eH hc;have main:∀ exact:Bool,(exact=true→bs.all OB.isL=true∧Uz v=true)→VCalled P f vs σ fun u σ'=>if exact then u=UK (L9 σ bs) v∧σ'=Tz σ bs else Ret P σ v bs u σ':=fun exact hx=>by refine h.calls hm PR ?_;exact Nc h2 vc 0 _ _ _ σ none _ trivial (Oz (h1 σ vs av) nt) h3 fun e s' ae σ' k1 k2=>Oq exact k2 hv cg k1 hx
 refine⟨(main false fun e=>by cases e).mono fun u σ' hr=>by simpa using hr,fun hl cE=>(main true fun _=>⟨hl,cE⟩).mono fun u σ' hr=>by simpa using hr⟩
theorem OkC.true {f:Nat}{sp:CSp}(h:OkC P f sp) (he:We P f) {σ:Heap}{args:List SV}{vs:List Value}(ha:SRs P σ X0 ZF args vs) {c:Prop}(hs:sp (fun _ _=>none) args=some (c,.val .bo true,[])) (hc:c) :
  VCallsTo P f vs σ fun v _=>v=.bool true:=by
 have:=(h (fun _ _=>none) (fun _ _ _ _ _ _ _ _ _ h=>by cases h) σ args vs c _ [] ha hs rfl rfl hc).1;intro ρ w az hH hL;rcases this ρ w az hH hL with⟨_,h2⟩|⟨c',_,h2⟩
 ·refine h2.mono fun e w' ⟨c',h3,h4⟩=>⟨c',h3,h4.mono fun u σ' hr=>?_⟩;have:=(hr.flat rfl).2;simpa only [SR,KC,List.cons.injEq,and_true] using this
 ·have:=h2 w (Like.refl ρ w);rw[M_ he az w] at this;cases this
end
end Go.V
namespace Go.V
open Go
mutual
inductive AP:Type→Type 1 where
 |k (k:Kind):AP k.T
 |agg {D:Type}(l:AL D):AP D
 |ptr {D:Type}(l:AL D):AP D
 |fn (ks:List Kind) (r:Kind):AP ((AT ks→Prop)×(AT ks→r.T))
 |nilS:AP Unit
 |any:AP Unit
inductive AL:Type→Type 1 where
 |nil:AL Unit
 |one {D:Type}(a:AP D):AL D
 |cons {D E:Type}(a:AP D) (r:AL E):AL (D×E)
end
def Cy:(ks:List Kind)→AT ks→List SV
 |[],_=>[]
 |[k],x=>[Q1l k x]
 |k::k'::ks,x=>Q1l k x.1::Cy (k'::ks) x.2
abbrev Ap:=SV→List SV→Option (Prop×SV)
def Q4k (ap:Ap) (f:SV) (ks:List Kind) (r:Kind) (x:AT ks):Prop:=match ap f (Cy ks x) with
 |some (c,v)=>(match gap.asV r v with|some _=>c|none=>False)
 |none=>False
def fnP (ap:Ap) (f:SV) (ks:List Kind) (r:Kind) (x:AT ks):r.T:=match ap f (Cy ks x) with
 |some (_,v)=>(match gap.asV r v with|some y=>y|none=>r.dflt)
 |none=>r.dflt
mutual
def AP.dec (ap:Ap):{D:Type}→(p:AP D)→SV→Option D
 |_,.k k,v=>match k with
  |.list k=>view [] k v
  |.i ik=>L6 (.i ik) [v]
  |.bo=>L6 .bo [v]
  |.st=>L6 .st [v]
  |.pair _ _=>none
 |_,.agg l,v=>match v with|.agg vs=>AL.dec ap l vs|_=>none
 |_,.nilS,v=>match v with|.nilS=>some ()|_=>none
 |_,.any,_=>some ()
 |_,.ptr l,v=>match v with|.cp vs 0=>AL.dec ap l vs|_=>none
 |_,.fn ks r,v=>match v with
  |.fn g a b=>some (Q4k ap (.fn g a b) ks r,fnP ap (.fn g a b) ks r)
  |.pf tK r' cO p=>some (Q4k ap (.pf tK r' cO p) ks r,fnP ap (.pf tK r' cO p) ks r)
  |_=>none
def AL.dec (ap:Ap):{D:Type}→(l:AL D)→List SV→Option D
 |_,.nil,vs=>match vs with|[]=>some ()|_=>none
 |_,.one a,vs=>match vs with|[v]=>AP.dec ap a v|_=>none
 |_,.cons a r,vs=>match vs with
  |v::vs=>(match AP.dec ap a v,AL.dec ap r vs with|some x,some y=>some (x,y)|_,_=>none)
  |[]=>none
end
mutual
def AP.can:{D:Type}→(p:AP D)→D→SV
 |_,.k k,x=>.val k x
 |_,.agg l,x=>.agg (AL.can l x)
 |_,.nilS,_=>.nilS
 |_,.any,_=>.any
 |_,.ptr l,x=>.cp (AL.can l x) 0
 |_,.fn ks r,x=>.pf ks r x.1 x.2
def AL.can:{D:Type}→(l:AL D)→D→List SV
 |_,.nil,_=>[]
 |_,.one a,x=>[AP.can a x]
 |_,.cons a r,x=>AP.can a x.1::AL.can r x.2
end
def Yo {D:Type}(l:AL D) (pre:D→Prop) (res:D→SV) (obs:D→List OB):CSp:=fun ap args=>match AL.dec ap l args with
 |some d=>some (pre d,res d,obs d)
 |none=>none
section
variable {P:Program}{σ:Heap}
theorem B2:∀ {ks:List Kind}{x:AT ks}{vs:List Value},L1 σ ks x vs→SRs P σ X0 ZF (Cy ks x) vs
 |[],x,vs,h=>by simp only[L1] at h;subst h;simp[Cy,SRs]
 |[k],x,vs,h=>by obtain⟨v,rfl,h1⟩:=h;simp only[Cy,SRs];exact⟨v,[],rfl,XO h1,rfl⟩
 |k::k'::ks,x,vs,h=>by obtain⟨v,cI,rfl,h1,h2⟩:=h;simp only[Cy,SRs];exact⟨v,cI,rfl,XO h1,B2 h2⟩
theorem Il {ap:Ap}(cZ:Q2u P ap) {f:SV}{v:Value}(hf:SR P σ X0 ZF f v) (hv:∃ g a b,v=.func (.func g) a b) (ks:List Kind) (r:Kind):SR P σ X0 ZF (.pf ks r (Q4k ap f ks r) (fnP ap f ks r)) v:=by
 obtain⟨g,a,b,rfl⟩:=hv;simp only[SR];refine⟨g,a,b,rfl,fun x hd τ vs hle cD=>?_⟩;unfold Q4k at hd;split at hd
 ·rename_i c u o9;split at hd
  ·rename_i y hy;obtain⟨h1,g',a',b',h2,h3⟩:=cZ τ f (Cy ks x) c u (.func (.func g) a b) vs (SR.mono hle (fun _ _ h=>h) _ _ hf) (B2 cD) o9 hd;obtain⟨rfl,rfl,rfl⟩:=(by simpa using h2:g=g'∧a=a'∧b=b');have hp:fnP ap f ks r x=y:=by simp[fnP,o9,hy]
   rw[hp];exact h3.mono fun u' σ' hu=>⟨hu.1,(TS hy hu.2).vcall (IH _)⟩
  ·exact hd.elim
 ·exact hd.elim
mutual
theorem AP.dec_sound {ap:Ap}(cZ:Q2u P ap):∀ {D:Type}(p:AP D) {v:SV}{x:D}{u:Value},AP.dec ap p v=some x→SR P σ X0 ZF v u→SR P σ X0 ZF (AP.can p x) u
 |_,.k k,v,x,u,h,hs=>by
  have one:SRs P σ X0 ZF [v] [u]:=by simp only[SRs];exact⟨u,[],rfl,hs,rfl⟩
  simp only[AP.can,SR];cases k with
  |list k =>have:=YN (own:=[]) (Heap.Le.refl σ) (fun d=>(trivial:OR P σ X0 ZF σ (X0 d) .dead)) (show view [] k v=some x from h) hs;exact⟨u,rfl,this⟩
  |i ik=>exact QA (k:=.i ik) h one
  |bo=>exact QA (k:=.bo) h one
  |st=>exact QA (k:=.st) h one
  |pair a b=>cases h
 |_,.agg l,v,x,u,h,hs=>by
  simp only[AP.dec] at h;split at h
  ·simp only[SR] at hs;obtain⟨cs,rfl,hs⟩:=hs;simp only[AP.can,SR];exact⟨cs,rfl,AL.dec_sound cZ l h hs⟩
  ·cases h
 |_,.any,v,x,u,h,hs=>by simp only[AP.can,SR]
 |_,.nilS,v,x,u,h,hs=>by
  simp only[AP.dec] at h;split at h
  ·simp only[AP.can];exact hs
  ·cases h
 |_,.ptr l,v,x,u,h,hs=>by
  simp only[AP.dec] at h;split at h
  ·simp only[SR] at hs;obtain⟨b,c,e,wr,t,h1,rfl,h3⟩:=hs;simp only[AP.can,SR];exact⟨b,c,e,wr,t,h1,rfl,AL.dec_sound cZ l h h3⟩
  ·cases h
 |_,.fn ks r,v,x,u,h,hs=>by
  simp only[AP.dec] at h;split at h
  ·obtain rfl:=osj h;exact Il cZ hs (by simp only[SR] at hs;obtain⟨x,y,rfl,_⟩:=hs;exact⟨_,_,_,rfl⟩) ks r
  ·obtain rfl:=osj h;exact Il cZ hs (by simp only[SR] at hs;obtain⟨g,x,y,rfl,_⟩:=hs;exact⟨_,_,_,rfl⟩) ks r
  ·cases h
theorem AL.dec_sound {ap:Ap}(cZ:Q2u P ap):∀ {D:Type}(l:AL D) {vs:List SV}{x:D}{us:List Value},AL.dec ap l vs=some x→SRs P σ X0 ZF vs us→SRs P σ X0 ZF (AL.can l x) us
 |_,.nil,vs,x,us,h,hs=>by
  simp only[AL.dec] at h;split at h
  ·exact hs
  ·cases h
 |_,.one a,vs,x,us,h,hs=>by
  simp only[AL.dec] at h;split at h
  ·obtain⟨u,rfl,h1⟩:=hs.one;simp only[AL.can,SRs];exact⟨u,[],rfl,AP.dec_sound cZ a h h1,rfl⟩
  ·cases h
 |_,.cons a r,vs,x,us,h,hs=>by
  simp only[AL.dec] at h;split at h
  ·rename_i v cI;split at h
   ·rename_i y z h1 h2;obtain rfl:=osj h;simp only[SRs] at hs;obtain⟨u,lT,rfl,h3,h4⟩:=hs;simp only[AL.can,SRs];exact⟨u,lT,rfl,AP.dec_sound cZ a h1 h3,AL.dec_sound cZ r h2 h4⟩
   ·cases h
  ·cases h
end
theorem CsOk.nil:CsOk P []:=fun f sp h=>by cases h
theorem CsOk.cons {f:Nat}{sp:CSp}{cs:List (Nat×CSp)}(h:OkC P f sp) (t:CsOk P cs):CsOk P ((f,sp)::cs):=fun g wc hg=>by
 simp only[Qm] at hg;cases hb:Nat.beq f g with
 |true=>rw[hb] at hg;obtain rfl:=Nat.eq_of_beq_eq_true hb;obtain rfl:=osj hg;exact h
 |false=>rw[hb] at hg;exact t g wc hg
theorem COk.cons {C:Cx}{f:Nat}{sp:CSp}(h:OkC P f sp) (t:COk P C):COk P {C with cs:=(f,sp)::C.cs}:=⟨CsOk.cons h t.cs,t.xs,t.it,t.yl,t.iy,t.xf⟩
theorem Q9b {f:Nat}{vc:VCode}{rs:List VResult}{nt:Nat}(h:Fun P f vc rs nt) (hm:P.follows .mixedOrders=true) {D:Type}{l:AL D}{pre:D→Prop}{res:D→SV}{obs:D→List OB}
  {C:Cx}(aw:COk P C) (L:D→List (Nat×LoopAnn)) (hb:∀ d,pre d→gwp C (L d) vc 0 (V8 rs (res d) (obs d)) (Qr nt (AL.can l d))):OkC P f (Yo l pre res obs):=by
 refine h.okC hm fun ap cZ args c v bs hs hc=>?_;unfold Yo at hs;split at hs
 ·rename_i d hd;obtain⟨rfl,rfl,rfl⟩:=(by simpa using hs:pre d=c∧res d=v∧obs d=bs);exact⟨C,L d,AL.can l d,fun σ vs hv=>AL.dec_sound cZ l hd hv,aw,hb d hc⟩
 ·cases hs
theorem Z8 {f:Nat}{vc:VCode}{rs:List VResult}{nt:Nat}(h:Fun P f vc rs nt) (hm:P.follows .mixedOrders=true) {D:Type}{l:AL D}{pre:D→Prop}{res:D→SV}{obs:D→List OB}
  {C:Cx}(aw:COk P C) {L:D→List (Nat×LoopAnn)}{V:D→Prop}(hq:∀ d,gwp C (L d) vc 0 (V8 rs (res d) (obs d)) (Qr nt (AL.can l d))=V d) (hb:∀ d,pre d→V d):OkC P f (Yo l pre res obs) :=
 Q9b h hm aw L fun d hp=>(hq d).mpr (hb d hp)
end
end Go.V
namespace Go.V
open Go
def Z1u (key:Nat) (vals:List Value) (rs:List VResult) (K:SV→St→Prop):Exit→St→Prop:=fun e s =>
 let fin:=match Y0 s rs,Q7 s.own key with
  |some r,.stk l vs=>vs=vals∧K r ⟨l,s.own,s.nx⟩
  |_,_=>False
 match e with
 |.normal=>fin
 |.ret=>fin
 |_=>False
def Z1k (C:Cx) (L:List Value→List (Nat×LoopAnn)) (vc:VCode) (rs:List VResult) (nt:Nat):XSp:=fun d args s K =>
 ∀ vals,gwp {C with off:=100000*(d+1)} (L vals) vc 0 (Z1u (100000*(d+1)-1) vals rs K) ⟨SVs.kill (100000*(d+1)-1) args++List.replicate (nt-args.length) .any,(ED (100000*(d+1)-1) vals s).own,s.nx⟩
section
variable {P:Program}
theorem HF {B:Heap}{pl:Nat→Value}{tb:Nat→Option Bool}:∀ n,SRs P B pl tb (List.replicate n .any) (List.replicate n undef)
 |0=>by simp[SRs]
 |n+1=>by simp only[List.replicate_succ,SRs];exact⟨_,_,rfl,by simp[SR],HF n⟩
theorem Fm {f:Nat}{vc:VCode}{rs:List VResult}{nt:Nat}(h:Fun P f vc rs nt) (hm:P.follows .mixedOrders=true) {C:Cx}(aw:COk P C) (L:List Value→List (Nat×LoopAnn)):XOk P f (Z1k C L vc rs nt):=by
 intro B F pl tb s env σ d args vs K R hG ha hx hK;have hx:=hx env;refine h.calls hm PR ?_;have q3:Gam P B F (X4 pl (100000*(d+1)-1) poison) tb (ED (100000*(d+1)-1) env s) env σ:=by refine hG.make _ _ poison hG.le (fun _ _ _ _ _=>rfl) ?_ (fun i hl _=>by cases hl);exact SRs.upd (.refl _) (fun _ _ h=>h) (fun j hj=>by simp[X4,hj]) _ _ hG.env
 have iU:COk P {C with off:=100000*(d+1)}:=⟨aw.cs,aw.xs,aw.it,aw.yl,aw.iy,aw.xf⟩;have av:=SRs.upd (P:=P) (Heap.Le.refl B) (fun _ _ h=>h) (pl':=X4 pl (100000*(d+1)-1) poison) (tb':=tb) (o:=100000*(d+1)-1) (fun j hj=>by simp[X4,hj]) _ _ ha;have bj:GRel P B F σ ⟨SVs.kill (100000*(d+1)-1) args++List.replicate (nt-args.length) .any,(ED (100000*(d+1)-1) env s).own,s.nx⟩ (vs++List.replicate (nt-vs.length) undef) σ:=by refine⟨B,F,_,tb,.of hG.bf (.refl _),⟨q3.bf,q3.le,?_,q3.obj,q3.fresh,q3.sep,q3.free⟩⟩;rw[ha.length];exact av.append (HF _)
 refine Nc iU vc 0 _ _ _ σ none _ trivial bj hx fun e s' ae σ' h1 h2=>?_
 ·have main:(match Y0 s' rs,Q7 s'.own (100000*(d+1)-1) with
   |some r,.stk l vs=>vs=env∧K r ⟨l,s'.own,s'.nx⟩
   |_,_=>False)→QV (Jn ae σ' rs) fun v=>∃ v' aE,DropTo σ v σ' v' aE∧R v' aE:=fun h=>by
   obtain⟨B',F',pl',tb',k1,k2⟩:=h2;split at h
   ·rename_i r l cI hr eU;obtain⟨rfl,h⟩:=h;obtain⟨u,h3,h4⟩:=Xd k2 hr;rw[h3];have ak:=k2.obj (100000*(d+1)-1);rw[eU] at ak;exact⟨u,σ',.refl _ _ _,hK r _ B' F' pl' tb' u σ' h k1 ⟨k2.bf,k2.le,ak,k2.obj,k2.fresh,k2.sep,k2.free⟩ h4⟩
   ·exact h.elim
  cases e with
  |normal=>exact main h1
  |ret=>exact main h1
  |_=>exact h1.elim
end
end Go.V
namespace Go.V
open Go
def Z3x:SV→Option Nat
 |.lst o=>some o
 |.box o off=>bif Nat.beq off 0 then some o else none
 |_=>none
def lsv:OB→SV
 |.lst _ _ _ _=>.lst 0
 |_=>.box 0 0
def Z1o:SV→OB→Bool
 |.lst _,.lst _ _ _ _=>true
 |.box _ _,.cells _ _=>true
 |_,_=>false
abbrev LSp:=Ap→OB→List SV→Option (Prop×SV×OB)
def LR (ap:Ap) (sp:LSp):XSp:=fun _ args s K =>
 match args with
 |a::args=>(match Z3x a with
  |some o=>bif (Q7 s.own o).ret&&Z1o a (Q7 s.own o) then (match sp ap (Q7 s.own o) (T7 (oset s.own o .dead) args) with
    |some (c,v,b)=>bif v.ret 0&&b.ret then c∧K v ⟨s.env,oset s.own o b,s.nx⟩ else False
    |none=>False) else False
  |none=>False)
 |[]=>False
def X6 (nt:Nat) (a0:SV) (b:OB) (vals:List Value) (args:List SV):St:=⟨a0::(args++List.replicate (nt-(args.length+1)) .any),[(0,b),(4000000,.stk [a0] vals)],0⟩
def HN (vals:List Value) (rs:List VResult) (v:SV) (b:OB) (a0:SV):Exit→St→Prop:=fun e s =>
 let fin:=match Y0 s rs,Q7 s.own 4000000 with
  |some r,.stk l vs=>vs=vals∧Np [(0,some 0)] [a0] l∧Hn [] v r∧OK s [(0,some 0)] 0 b
  |_,_=>False
 match e with
 |.normal=>fin
 |.ret=>fin
 |_=>False
section
variable {P:Program}
theorem Heap.Le.kill' {B σ:Heap}(h:B.Le σ) {i:Nat}(hi:B.get i=none):B.Le (σ.kill i):=⟨h.1,fun j b hb=>by
 have:j≠i:=by rintro rfl;rw[hi] at hb;cases hb
 rw[Heap.get_kill_ne _ this];exact h.2 _ _ hb⟩
theorem Heap.kill_le (σ:Heap) (i:Nat):(σ.kill i).Le σ:=⟨Nat.le_refl _,fun j b hb=>by
 by_cases e:j=i
 ·subst e;rw[Heap.get_kill_self] at hb;cases hb
 ·rwa [Heap.get_kill_ne _ e] at hb⟩
def SO (σ:Heap) (p:Value):Heap:=match oid p with|some i=>σ.kill i|none=>σ
theorem IB (σ:Heap) (p:Value):(SO σ p).Le σ:=by
 unfold SO;split
 ·exact Heap.kill_le _ _
 ·exact .refl _
theorem Td {B σ:Heap}{p:Value}(h:B.Le σ) (hi:∀ i,oid p=some i→B.get i=none):B.Le (SO σ p):=by
 unfold SO;split
 ·rename_i i e;exact h.kill' (hi i e)
 ·exact h
theorem SX {σ:Heap}{p:Value}{i:Nat}(h:oid p=some i):(SO σ p).get i=none:=by unfold SO;rw[h];exact Heap.get_kill_self _ _
theorem RG {σ:Heap}{p:Value}{i:Nat}(h:oid p≠some i):(SO σ p).get i=σ.get i:=by
 unfold SO;split
 ·rename_i j e;exact Heap.get_kill_ne _ (by rintro rfl;exact h e)
 ·rfl
theorem Q2x {p:Value}{i:Nat}(hp:∀ l,p≠.tuple l) (h:Oid p i):oid p=some i:=by cases p<;>first|exact h|exact absurd rfl (hp _)
theorem OB.ret_live {b:OB}(h:b.ret=true):b.live=true:=by cases b<;>first|rfl|cases h
theorem Q4m {o:Nat}{b:OB}(h:Z1o (.lst o) b=true):lsv b=.lst 0:=by cases b<;>first|rfl|cases h
theorem Q3r {o off:Nat}{b:OB}(h:Z1o (.box o off) b=true):lsv b=.box 0 0:=by cases b<;>first|rfl|cases h
theorem Q57 {f:Nat}{vc:VCode}{rs:List VResult}{nt:Nat}(h:Fun P f vc rs nt) (hm:P.follows .mixedOrders=true) {sp:LSp}{ap:Ap}
  (hb:∀ b args c v b',sp ap b args=some (c,v,b')→c→∃ (C:Cx) (L:List Value→List (Nat×LoopAnn)) (bh:List SV),SVs.pure bh=true∧(∀ σ vs,SRs P σ X0 ZF args vs→SRs P σ X0 ZF bh vs)∧COk P C∧∀ vals,gwp C (L vals) vc 0 (HN vals rs v b' (lsv b)) (X6 nt (lsv b) b vals bh)):XOk P f (LR ap sp):=by
 intro B F pl tb s env σ d args vs K R hG ha hx hK;unfold LR at hx;split at hx
 ·rename_i a args;split at hx
  ·rename_i o aN;cases h_:((Q7 s.own o).ret&&Z1o a (Q7 s.own o)) with
   |false=>rw[h_] at hx;exact hx.elim
   |true =>
   rw[h_] at hx;simp only[_root_.cond_true] at hx;simp only[Bool.and_eq_true] at h_;obtain⟨nq,fq⟩:=h_;split at hx
   ·rename_i c v b' eH;cases bV:(v.ret 0&&b'.ret) with
    |false=>rw[bV] at hx;exact hx.elim
    |true =>
    rw[bV] at hx;obtain⟨hc,hx⟩:=hx;simp only[Bool.and_eq_true] at bV;simp only[SRs] at ha;obtain⟨u,us,rfl,fO,dx⟩:=ha;have ai:=OB.ret_live nq;have ak:=hG.obj o;have a8:∀ i,oid (pl o)=some i→F.get i=none:=fun i hi=>hG.fresh o i ai (MZ hi);have iV:∀ i,oid (pl o)=some i→B.get i=none:=fun i hi=>by
     cases hg:B.get i with
     |none=>rfl
     |some b=>have:=hG.bf.2 _ _ hg;rw[a8 i hi] at this;cases this
    have cW:∀ l,pl o≠.tuple l:=fun l he=>by
     unfold Z3x at aN;split at aN
     ·obtain rfl:=osj aN;simp only[SR] at fO;obtain⟨rfl,_,_,_,hs⟩:=fO;rw[he] at hs;cases hs
     ·rename_i o' off;cases aT:Nat.beq off 0 with
      |false=>rw[aT] at aN;cases aN
      |true =>rw[aT] at aN;obtain rfl:=osj aN;simp only[SR] at fO;obtain⟨_,h,_⟩:=fO;rw[he] at h;cases h
     ·cases aN
    have gi:∀ (B:Heap) (pl':Nat→Value) (tb':Nat→Option Bool),(SR P B pl' tb' (lsv (Q7 s.own o)) u↔pl' 0=pl o):=fun B pl' tb'=>by
     unfold Z3x at aN;split at aN
     ·obtain rfl:=osj aN;simp only[SR] at fO;rw[Q4m fq];simp only[SR];obtain⟨rfl,hs⟩:=fO;exact⟨fun h=>h.1.symm,fun h=>⟨h.symm,hs⟩⟩
     ·rename_i o' off;cases aT:Nat.beq off 0 with
      |false=>rw[aT] at aN;cases aN
      |true =>
       rw[aT] at aN;obtain rfl:=osj aN;obtain rfl:=Nat.eq_of_beq_eq_true aT;simp only[SR] at fO;rw[Q3r fq];simp only[SR];obtain⟨i,h1,rfl⟩:=fO;rw[h1];constructor
       ·rintro⟨i',h2,h3⟩;rw[h2];simpa using h3.symm
       ·intro h2;exact⟨i,h2,rfl⟩
     ·cases aN
    obtain⟨C,L,bh,iW,ml,aw,hg⟩:=hb _ _ c v b' eH hc;have hg:=hg [u];let σc:=SO σ (pl o);have nu:B.Le σc:=Td hG.leB iV;have nw:F.Le σc:=Td hG.le a8;have av:SRs P σc X0 ZF bh us:=by
     refine ml σc us (Vc (own:=oset s.own o .dead) nu (pl:=pl) (tb:=tb) (fun d=>?_) dx);rw[Qb];by_cases e:d=o
     ·rw[if_pos e];trivial
     ·rw[if_neg e];exact(hG.obj d).mono (.refl _) (fun _ _ h=>h) fun hl i hi=>RG fun gQ=>hG.sep d o i e hl ai hi (MZ gQ)
    let gU:Nat→Value:=fun j=>if j=0 then pl o else poison
    have bj:GRel P σc σc σ (X6 nt (lsv (Q7 s.own o)) (Q7 s.own o) [u] bh) (u::us++List.replicate (nt-(u::us).length) undef) σ:=by
     refine⟨σc,σc,gU,ZF,⟨.refl _,.refl _,fun _ _ _ h=>h,.refl _⟩,.refl _,IB _ _,?_,fun j=>?_,fun j i h1 h2=>?_,fun j j' i aA h1 h2 h3 h4=>?_,fun _ _=>rfl⟩
     ·simp only[X6,SRs,List.cons_append];refine⟨u,_,rfl,(gi _ _ _).2 (by simp[gU]),?_⟩;rw[av.length,List.length_cons];refine SRs.append ?_ (HF _);exact QE _ _ iW av
     ·simp only[X6,Q7];by_cases e0:j=0
      ·subst e0;simp only[Nat.beq_refl,_root_.cond_true];exact ak.retd nq fun i _=>rfl
      ·rw[Zd (fun e=>e0 e.symm),cond_false];by_cases e1:j=4000000
       ·subst e1;simp only[Nat.beq_refl,_root_.cond_true];exact⟨u,[],rfl,(gi _ _ _).2 (by simp[gU]),rfl⟩
       ·rw[Zd (fun e=>e1 e.symm),cond_false];trivial
     ·simp only[X6,Q7] at h1;by_cases e0:j=0
      ·subst e0;exact SX (Q2x cW h2)
      ·rw[Zd (fun e=>e0 e.symm),cond_false] at h1;by_cases e1:j=4000000
       ·subst e1;cases h1
       ·rw[Zd (fun e=>e1 e.symm),cond_false] at h1;cases h1
     ·have z:∀ j,(Q7 (X6 nt (lsv (Q7 s.own o)) (Q7 s.own o) [u] bh).own j).live=true→j=0:=fun j h1=>by
       simp only[X6,Q7] at h1;by_cases e0:j=0
       ·exact e0
       ·rw[Zd (fun e=>e0 e.symm),cond_false] at h1;by_cases e1:j=4000000
        ·subst e1;cases h1
        ·rw[Zd (fun e=>e1 e.symm),cond_false] at h1;cases h1
      exact aA ((z j h1).trans (z j' h2).symm)
    refine h.calls hm PR ?_;refine Nc aw vc 0 _ _ _ σ none _ trivial bj hg fun e s' ae σ' h1 h2=>?_
    have main:(match Y0 s' rs,Q7 s'.own 4000000 with
     |some r,.stk l vs=>vs=[u]∧Np [(0,some 0)] [lsv (Q7 s.own o)] l∧Hn [] v r∧OK s' [(0,some 0)] 0 b'
     |_,_=>False)→QV (Jn ae σ' rs) fun v=>∃ v' aE,DropTo σ v σ' v' aE∧R v' aE:=fun h=>by
     obtain⟨B',F',pl',tb',k1,k2⟩:=h2;split at h
     ·rename_i r l cI hr eU;obtain⟨rfl,m1,m2,m3⟩:=h;obtain⟨w,h3,h4⟩:=Xd k2 hr;rw[h3];have dw:=k2.obj 4000000;rw[eU] at dw;have iX:pl' 0=pl o:=by
       have:=Zg [lsv (Q7 s.own o)] l [u] m1 dw;simp only[SRs] at this;obtain⟨u',_,cf,h5,_⟩:=this;obtain rfl:u=u':=(List.cons.inj cf).1;have:=(gi _ _ _).1 h5;simpa [U1,Qm] using this
      have fE:=(Qz k2 m3).1;have iR:U1 pl' [(0,some 0)] 0=pl o:=by simpa [U1,Qm] using iX
      rw[iR] at fE;have cX:=(WG v r w m2 h4).retd (B':=B) (pl':=pl) (tb':=tb) (n:=0) (fun j hj=>by omega) _ _ bV.1;have hle:σc.Le σ':=k1.f.trans k2.le;refine⟨w,σ',.refl _ _ _,hK v _ B F pl tb w σ' hx (.of hG.bf k1.d) ⟨hG.bf,nw.trans hle,hG.env,fun d=>?_,fun d i q1 q2=>?_,fun d d' i aA q1 q2 q3 q4=>?_,hG.free⟩ cX⟩
      ·simp only[Qb];by_cases e:d=o
       ·subst e;rw[if_pos rfl];exact fE.retd bV.2 fun _ _=>rfl
       ·rw[if_neg e];refine (hG.obj d).mono (.refl _) (fun _ _ h=>h) fun hl i hi=>?_;have aj:=(hG.obj d).id_lt hl hi;cases hg:σ.get i with
        |none=>exact k1.d.2 i aj hg
        |some bb=>exact hle.2 _ _ (by rw[RG fun gQ=>hG.sep d o i e hl ai hi (MZ gQ)];exact hg)
      ·simp only[Qb] at q1;by_cases e:d=o
       ·subst e;exact hG.fresh d i ai q2
       ·rw[if_neg e] at q1;exact hG.fresh d i q1 q2
      ·have lv:∀ d,(Q7 (oset s.own o b') d).live=true→(Q7 s.own d).live=true:=fun d h=>by
        rw[Qb] at h;by_cases e:d=o
        ·subst e;exact ai
        ·rwa [if_neg e] at h
       exact hG.sep d d' i aA (lv d q1) (lv d' q2) q3 q4
     ·exact h.elim
    cases e with
    |normal=>exact main h1
    |ret=>exact main h1
    |_=>exact h1.elim
   ·exact hx.elim
  ·exact hx.elim
 ·exact hx.elim
mutual
theorem AP.can_pure:∀ {D:Type}(p:AP D) (x:D),(AP.can p x).pure=true
 |_,.k k,x=>rfl
 |_,.agg l,x=>by simp only[AP.can,SV.pure];exact AL.can_pure l x
 |_,.nilS,x=>rfl
 |_,.any,x=>rfl
 |_,.ptr l,x=>by simp only[AP.can,SV.pure];exact AL.can_pure l x
 |_,.fn ks r,x=>rfl
theorem AL.can_pure:∀ {D:Type}(l:AL D) (x:D),SVs.pure (AL.can l x)=true
 |_,.nil,x=>rfl
 |_,.one a,x=>by simp only[AL.can,SVs.pure,AP.can_pure a x];rfl
 |_,.cons a r,x=>by simp only[AL.can,SVs.pure,AP.can_pure a x.1,AL.can_pure r x.2];rfl
end
def Hu (ty:Nat) (k:Kind) {D:Type}(l:AL D) (pre:List k.T→Bool→D→Prop) (res:List k.T→Bool→D→SV) (post:List k.T→Bool→D→List k.T):LSp:=fun ap b args=>match b with
 |.lst gH _k' xs nl=>if gH=ty then (match Mo xs k,AL.dec ap l args with
  |some xs,some d=>some (pre xs nl d,res xs nl d,.lst ty k (post xs nl d) nl)
  |_,_=>none) else none
 |_=>none
theorem Gy {f:Nat}{vc:VCode}{rs:List VResult}{nt:Nat}(h:Fun P f vc rs nt) (hm:P.follows .mixedOrders=true) {ap:Ap}(cZ:Q2u P ap) {ty:Nat}{k:Kind}{D:Type}{l:AL D}{pre:List k.T→Bool→D→Prop}{res:List k.T→Bool→D→SV}{post:List k.T→Bool→D→List k.T}
  {C:Cx}(aw:COk P C) {L:List k.T→Bool→D→List Value→List (Nat×LoopAnn)}{V:List k.T→Bool→D→Prop}
  (hq:∀ xs nl d,(∀ vals,gwp C (L xs nl d vals) vc 0 (HN vals rs (res xs nl d) (.lst ty k (post xs nl d) nl) (.lst 0)) (X6 nt (.lst 0) (.lst ty k xs nl) vals (AL.can l d)))=V xs nl d)
  (hb:∀ xs nl d,pre xs nl d→V xs nl d):XOk P f (LR ap (Hu ty k l pre res post)):=by
 refine Q57 h hm fun b args c v b' hs hc=>?_;unfold Hu at hs;split at hs
 ·rename_i gH k' xs nl;split at hs
  ·rename_i e;subst e;split at hs
   ·rename_i ys d h1 h2;obtain⟨rfl,rfl,rfl⟩:=(by simpa using hs:pre ys nl d=c∧res ys nl d=v∧OB.lst gH k (post ys nl d) nl=b');unfold Mo at h1;split at h1
    ·rename_i e;subst e;obtain rfl:=osj h1;exact⟨C,L xs nl d,AL.can l d,AL.can_pure l d,fun σ vs hv=>AL.dec_sound cZ l h2 hv,aw,(hq xs nl d).mpr (hb xs nl d hc)⟩
    ·cases h1
   ·cases hs
  ·cases hs
 ·cases hs
end
end Go.V
namespace Go.V
open Go
abbrev lI {α:Type}(l:List α):Int:=(l.length:Int)
abbrev gD {α:Type}(l:List α) (i:Int) (d:α):α:=l.getD i.toNat d
abbrev sT {α:Type}(l:List α) (i:Int) (x:α):List α:=l.set i.toNat x
abbrev I64 (x:Int):Prop:=InK .i64 x
theorem Qj (x:Int):InK .i64 x↔-9223372036854775808≤x∧x≤9223372036854775807:=by simp[InK,IntKind.min,IntKind.max,IntKind.bits,IntKind.signed]
theorem TK (x:Int):InK .u8 x↔0≤x∧x≤255:=by simp[InK,IntKind.min,IntKind.max,IntKind.bits,IntKind.signed]
theorem Kr (x:Int):InK .u64 x↔0≤x∧x≤18446744073709551615:=by simp[InK,IntKind.min,IntKind.max,IntKind.bits,IntKind.signed]
theorem LoopP.count {F:Int→(Int→Prop)→Prop}(n:Nat) (J:Nat→Prop) (h0:J 0) (hr:∀ k:Nat,k≤n→J k→∀ q:Int→Prop,(k<n→J (k+1)→q ((k:Int)+1))→F k q):LoopP F 0:=by refine⟨fun d=>∃ k:Nat,d=k∧k≤n∧J k,fun d=>n-d.toNat,⟨0,rfl,Nat.zero_le _,h0⟩,fun d ⟨k,hd,hk,hJ⟩=>?_⟩;subst hd;refine hr k hk hJ _ fun aj rH=>⟨⟨k+1,by simp,aj,rH⟩,?_⟩;simp;omega
theorem LoopP.count2 {X:Type}{F:X×Int→(X×Int→Prop)→Prop}(n:Nat) (J:Nat→X→Prop) {x0:X}(h0:J 0 x0) (hr:∀ (k:Nat) (x:X),k≤n→J k x→∀ q:X×Int→Prop,(∀ x',k<n→J (k+1) x'→q (x',(k:Int)+1))→F (x,(k:Int)) q):LoopP F (x0,0):=by refine⟨fun d=>∃ k:Nat,d.2=k∧k≤n∧J k d.1,fun d=>n-d.2.toNat,⟨0,rfl,Nat.zero_le _,h0⟩,fun ⟨x,d⟩ ⟨k,hd,hk,hJ⟩=>?_⟩;simp only at hd hJ;subst hd;refine hr k x hk hJ _ fun x' aj rH=>⟨⟨k+1,by simp,aj,rH⟩,?_⟩;simp;omega
theorem Q6 {α:Type}{l:List α}{k:Nat}{d:α}(h:k<l.length):l.getD k d=l[k]:=by simp[List.getD_eq_getElem?_getD,List.getElem?_eq_getElem h]
theorem QX {α:Type}{l:List α}{k:Nat}(h:k<l.length):l.take (k+1)=l.take k++[l[k]]:=by rw[List.take_succ_eq_append_getElem h]
section
variable {P:Program}
theorem st1 {S:VSpecs}{d:Nat}{op:VOp}{rest:List VOper}{env:Env}{σ:Heap}{K:Env→Heap→Prop}{v:Value}(hv:∀ K',vop S op env σ K'=QV (Q5 op (Q3 env) σ) fun p=>K' p.1 p.2) (h:Q5 op (Q3 env) σ=some (v,σ)) (hr:RD S rest (env.set d v) σ K):RD S (⟨some d,op,none⟩::rest) env σ K:=by show QV (some true) _;refine⟨fun _=>?_,fun e=>by cases e⟩;rw[hv,h];exact hr
theorem YlOk.nil:∀ o y,Qm ([]:List (Nat×YSp)) o=some y→Q45 P o y:=fun o y h=>by cases h
theorem IysOk.nil:∀ f x,Qm ([]:List (Nat×Q91)) f=some x→Z02 P f x:=fun f x h=>by cases h
theorem IysOk.cons {f:Nat}{x:Q91}{l:List (Nat×Q91)}(h:Z02 P f x) (t:∀ g y,Qm l g=some y→Z02 P g y):∀ g y,Qm ((f,x)::l) g=some y→Z02 P g y:=fun g y hg=>by
 simp only[Qm] at hg;cases hb:Nat.beq f g with
 |true=>rw[hb] at hg;obtain rfl:=Nat.eq_of_beq_eq_true hb;obtain rfl:=osj hg;exact h
 |false=>rw[hb] at hg;exact t g y hg
theorem XsOk.nil:∀ f x,Qm ([]:List (Nat×XSp)) f=some x→XOk P f x:=fun f x h=>by cases h
theorem XsOk.cons {f:Nat}{x:XSp}{l:List (Nat×XSp)}(h:XOk P f x) (t:∀ g y,Qm l g=some y→XOk P g y):∀ g y,Qm ((f,x)::l) g=some y→XOk P g y:=fun g y hg=>by
 simp only[Qm] at hg;cases hb:Nat.beq f g with
 |true=>rw[hb] at hg;obtain rfl:=Nat.eq_of_beq_eq_true hb;obtain rfl:=osj hg;exact h
 |false=>rw[hb] at hg;exact t g y hg
theorem ItsOk.nil:∀ f x,Qm ([]:List (Nat×ISp)) f=some x→Q9p P f x:=fun f x h=>by cases h
theorem ItsOk.cons {f:Nat}{x:ISp}{l:List (Nat×ISp)}(h:Q9p P f x) (t:∀ g y,Qm l g=some y→Q9p P g y):∀ g y,Qm ((f,x)::l) g=some y→Q9p P g y:=fun g y hg=>by
 simp only[Qm] at hg;cases hb:Nat.beq f g with
 |true=>rw[hb] at hg;obtain rfl:=Nat.eq_of_beq_eq_true hb;obtain rfl:=osj hg;exact h
 |false=>rw[hb] at hg;exact t g y hg
def Bx:Ap:=fun _ _=>none
theorem VV:Q2u P Bx:=fun _ _ _ _ _ _ _ _ _ h=>by cases h
end
end Go.V
namespace Go.V
open Go
def Q1a {α:Type}:Nat→α→List α→List α
 |0,x,l=>x::l
 |j+1,x,a::l=>a::Q1a j x l
 |_+1,x,[]=>[x]
def E_ {α:Type}:Nat→List α→List α
 |0,_::l=>l
 |j+1,a::l=>a::E_ j l
 |_,[]=>[]
def Q0q (kk vk:Kind):OB→Option (List (kk.T×vk.T))
 |.map iM l5 m=>if h:iM=kk∧l5=vk then some (h.1▸h.2▸m) else none
 |_=>none
abbrev MSp (kk vk:Kind):=Ap→List (kk.T×vk.T)→List SV→List SV→Option (Prop×SV×(List (kk.T×vk.T)→Prop))
def Hr (ap:Ap) (j:Nat) (kk vk:Kind) (sp:MSp kk vk):XSp:=fun _ args s K =>
 match args with
 |a::args=>(match Q2y s.own a with
  |some l=>(match l[j]? with
   |some (.map o)=>(match Q0q kk vk (Q7 s.own o) with
    |some m=>(match sp ap m (T7 (oset s.own o .dead) (E_ j l)) (T7 (oset s.own o .dead) args) with
     |some (c,v,post)=>bif v.ret 0 then c∧∀ m',post m'→K v ⟨s.env,oset s.own o (.map kk vk m'),s.nx⟩ else False
     |none=>False)
    |none=>False)
   |_=>False)
  |none=>False)
 |[]=>False
def mstart (nt j:Nat) (kk vk:Kind) (m:List (kk.T×vk.T)) (vals:List Value) (cs args:List SV):St:=⟨.cp (Q1a j (.map 0) cs) 0::(args++List.replicate (nt-(args.length+1)) .any),[(0,.map kk vk m),(4000000,.stk [.map 0] vals)],0⟩
def Q3y (vals:List Value) (rs:List VResult) (v:SV) (kk vk:Kind) (post:List (kk.T×vk.T)→Prop):Exit→St→Prop:=fun e s =>
 let fin:=match Y0 s rs,Q7 s.own 4000000,Q0q kk vk (Q7 s.own 0) with
  |some r,.stk l vs,some m'=>vs=vals∧Np [(0,some 0)] [.map 0] l∧Hn [] v r∧post m'
  |_,_,_=>False
 match e with
 |.normal=>fin
 |.ret=>fin
 |_=>False
section
variable {P:Program}
theorem LI {kk vk:Kind}{b:OB}{m:List (kk.T×vk.T)}(h:Q0q kk vk b=some m):b=.map kk vk m:=by
 unfold Q0q at h;split at h
 ·split at h
  ·rename_i e;obtain⟨rfl,rfl⟩:=e;obtain rfl:=osj h;rfl
  ·cases h
 ·cases h
theorem Q19:∀ (j:Nat) {l:List SV}{c:List Value}{o:Nat}{B:Heap}{pl:Nat→Value}{tb:Nat→Option Bool},l[j]?=some (.map o)→SRs P B pl tb l c →
  ∃ w,SR P B pl tb (.map o) w∧SRs P B pl tb (E_ j l) (E_ j c)∧∀ (B':Heap) (pl':Nat→Value) (tb':Nat→Option Bool) (l':List SV) (x:SV),SRs P B' pl' tb' l' (E_ j c)→SR P B' pl' tb' x w→SRs P B' pl' tb' (Q1a j x l') c
 |j,[],c,o,B,pl,tb,h,_=>by simp at h
 |0,a::l,c,o,B,pl,tb,h,hs=>by
  obtain rfl:a=.map o:=by simpa using h
  simp only[SRs] at hs;obtain⟨w,us,rfl,h1,h2⟩:=hs;exact⟨w,h1,h2,fun B' pl' tb' l' x h3 h4=>by simp only[Q1a,SRs];exact⟨w,us,rfl,h4,h3⟩⟩
 |j+1,a::l,c,o,B,pl,tb,h,hs=>by
  simp only[SRs] at hs;obtain⟨u,us,rfl,h1,h2⟩:=hs;obtain⟨w,g1,g2,g3⟩:=Q19 j (by simpa using h) h2;refine⟨w,g1,?_,fun B' pl' tb' l' x h3 h4=>?_⟩
  ·simp only[E_,SRs];exact⟨u,_,rfl,h1,g2⟩
  ·simp only[E_] at h3
   match l',h3 with
   |[],h3=>simp only[SRs] at h3;cases h3
   |y::l',h3 =>simp only[SRs] at h3;obtain⟨u',lT,e,h5,h6⟩:=h3;obtain⟨rfl,rfl⟩:=List.cons.inj e;simp only[Q1a,SRs];exact⟨u,us,rfl,h5,g3 B' pl' tb' l' x h6 h4⟩
theorem Ec {f:Nat}{vc:VCode}{rs:List VResult}{nt:Nat}(h:Fun P f vc rs nt) (hm:P.follows .mixedOrders=true) {kk vk:Kind}(ck:(kk.flat&&vk.flat)=true) {sp:MSp kk vk}{ap:Ap}{j:Nat}
  (hb:∀ m cs dX c v post,sp ap m cs dX=some (c,v,post)→c→∃ (C:Cx) (L:List Value→List (Nat×LoopAnn)) (cs' fP:List SV),SVs.pure cs'=true∧SVs.pure fP=true∧(∀ σ vs,SRs P σ X0 ZF cs vs→SRs P σ X0 ZF cs' vs)∧(∀ σ vs,SRs P σ X0 ZF dX vs→SRs P σ X0 ZF fP vs)∧COk P C∧∀ vals,gwp C (L vals) vc 0 (Q3y vals rs v kk vk post) (mstart nt j kk vk m vals cs' fP)):Q44 P f (Hr ap j kk vk sp) j:=by
 intro B F pl tb s env σ d args vs K R tt hG ha rb hx hK;unfold Hr at hx;split at hx
 ·rename_i a args;split at hx
  ·rename_i l hl;split at hx
   ·rename_i o fJ;split at hx
    ·rename_i m aD;have aM:=LI aD;split at hx
     ·rename_i c v post eH;cases bV:v.ret 0 with
      |false=>rw[bV] at hx;exact hx.elim
      |true =>
      rw[bV] at hx;obtain⟨hc,hx⟩:=hx;simp only[SRs] at ha;obtain⟨u,us,rfl,fO,dx⟩:=ha;have we:o=tt:=by simpa [AM,hl,fJ] using rb
      have ai:(Q7 s.own o).live=true:=by rw[aM];rfl
      have ak:=hG.obj o;rw[aM] at ak;obtain⟨id,es,clock,ib,a8,eC⟩:=ak;have o_:F.get id=none:=hG.fresh o id ai (by rw[ib];rfl);have iV:B.get id=none:=by
       cases hg:B.get id with
       |none=>rfl
       |some b=>have:=hG.bf.2 _ _ hg;rw[o_] at this;cases this
      obtain⟨i,ce,e,wr,t,wg,gf,aw⟩:∃ i ce e wr t,u=.pointer (some ⟨i,0,none⟩)∧σ.get i=some (.cells ce e wr t)∧SRs P B pl tb l ce:=by
       unfold Q2y at hl;split at hl
       ·rename_i o' off;cases aT:Nat.beq off 0 with
        |false=>rw[aT] at hl;cases hl
        |true =>
         rw[aT] at hl;obtain rfl:=Nat.eq_of_beq_eq_true aT;simp only[_root_.cond_true] at hl;split at hl
         ·rename_i l' un bm;obtain rfl:=osj hl;have dZ:=hG.obj o';rw[bm] at dZ;obtain⟨i,ce,e,t,k1,k2,k3,_⟩:=dZ;simp only[SR] at fO;obtain⟨b,q1,q2⟩:=fO;rw[k1] at q1;obtain rfl:i=b:=by simpa using q1
          exact⟨i,ce,e,true,t,q2,k2,k3⟩
         ·cases hl
       ·rename_i l' off;cases aT:Nat.beq off 0 with
        |false=>rw[aT] at hl;cases hl
        |true =>rw[aT] at hl;obtain rfl:=Nat.eq_of_beq_eq_true aT;obtain rfl:=osj hl;simp only[SR] at fO;obtain⟨b,ce,e,wr,t,k1,k2,k3⟩:=fO;exact⟨b,ce,e,wr,t,k2,hG.leB.2 _ _ k1,k3⟩
       ·cases hl
      have aA:i≠id:=by rintro rfl;rw[gf] at a8;cases a8
      obtain⟨w,hw,rI,rJ⟩:=Q19 j fJ aw;simp only[SR] at hw;obtain rfl:w=pl o:=hw.1;obtain⟨C,L,cs',fP,gC,dz,hd1,pb,iU,hg⟩:=hb _ _ _ c v post eH hc;have hg:=hg [pl o];have wh:oid (pl o)=some id:=by rw[ib];rfl
      let σc:=σ.kill id;have nu:B.Le σc:=hG.leB.kill' iV;have nw:F.Le σc:=hG.le.kill' o_;have rK:σc.Le σ:=Heap.kill_le _ _;have bB:∀ k,k≠id→σc.get k=σ.get k:=fun k hk=>Heap.get_kill_ne _ hk;have bL:∀ d,OR P σc X0 ZF σc (pl d) ((Q7 (oset s.own o .dead) d).kill d)∨True:=fun _=>.inr trivial;have tL:∀ (xs:List SV) (vs:List Value),SRs P B pl tb xs vs→SRs P σc X0 ZF (T7 (oset s.own o .dead) xs) vs:=fun xs vs bE=>by
       refine Vc (own:=oset s.own o .dead) nu (pl:=pl) (tb:=tb) (fun d=>?_) bE;rw[Qb];by_cases e:d=o
       ·rw[if_pos e];trivial
       ·rw[if_neg e];exact(hG.obj d).mono (.refl _) (fun _ _ h=>h) fun hl i hi=>bB _ fun gQ=>hG.sep d o i e hl ai hi (by rw[ib,gQ];rfl)
      have av:=pb σc us (tL _ _ dx);have bY:=hd1 σc _ (tL _ _ rI);let gU:Nat→Value:=fun k=>if k=0 then pl o else poison
      have ld:∀ (B:Heap) (tb':Nat→Option Bool),SR P B gU tb' (.map 0) (pl o):=fun B tb'=>by simp only[SR];exact⟨by simp[gU],_,ib⟩
      have bj:GRel P σc σc σ (mstart nt j kk vk m [pl o] cs' fP) (u::us++List.replicate (nt-(u::us).length) undef) σ:=by
       refine⟨σc,σc,gU,ZF,⟨.refl _,.refl _,fun _ _ _ h=>h,.refl _⟩,.refl _,rK,?_,fun k=>?_,fun k i' h1 h2=>?_,fun k k' i' pg h1 h2 h3 h4=>?_,fun _ _=>rfl⟩
       ·simp only[mstart,SRs,List.cons_append];refine⟨u,_,rfl,?_,?_⟩
        ·simp only[SR];refine⟨i,ce,e,wr,t,by rw[bB i aA];exact gf,wg,rJ _ _ _ _ _ (QE _ _ gC bY) (ld _ _)⟩
        rw[av.length,List.length_cons];refine SRs.append ?_ (HF _);exact QE _ _ dz av
       ·simp only[mstart,Q7];by_cases e0:k=0
        ·subst e0;simp only[Nat.beq_refl,_root_.cond_true];exact⟨id,es,clock,by simp[gU,ib],a8,eC.mono nu⟩
        ·rw[Zd (fun e=>e0 e.symm),cond_false];by_cases e1:k=4000000
         ·subst e1;simp only[Nat.beq_refl,_root_.cond_true];exact⟨pl o,[],rfl,ld _ _,rfl⟩
         ·rw[Zd (fun e=>e1 e.symm),cond_false];trivial
       ·simp only[mstart,Q7] at h1;by_cases e0:k=0
        ·subst e0;have:Oid (pl o) i':=by simpa [gU] using h2
         rw[ib] at this;obtain rfl:id=i':=osj this;exact Heap.get_kill_self _ _
        ·rw[Zd (fun e=>e0 e.symm),cond_false] at h1;by_cases e1:k=4000000
         ·subst e1;cases h1
         ·rw[Zd (fun e=>e1 e.symm),cond_false] at h1;cases h1
       ·have z:∀ k,(Q7 (mstart nt j kk vk m [pl o] cs' fP).own k).live=true→k=0:=fun k h1=>by
         simp only[mstart,Q7] at h1;by_cases e0:k=0
         ·exact e0
         ·rw[Zd (fun e=>e0 e.symm),cond_false] at h1;by_cases e1:k=4000000
          ·subst e1;cases h1
          ·rw[Zd (fun e=>e1 e.symm),cond_false] at h1;cases h1
        exact pg ((z k h1).trans (z k' h2).symm)
      refine h.calls hm PR ?_;refine Nc iU vc 0 _ _ _ σ none _ trivial bj hg fun e s' ae σ' h1 h2=>?_
      have main:(match Y0 s' rs,Q7 s'.own 4000000,Q0q kk vk (Q7 s'.own 0) with
       |some r,.stk l vs,some m'=>vs=[pl o]∧Np [(0,some 0)] [.map 0] l∧Hn [] v r∧post m'
       |_,_,_=>False)→QV (Jn ae σ' rs) fun v=>∃ v' aE,DropTo σ v σ' v' aE∧R v' aE:=fun h=>by
       obtain⟨B',F',pl',tb',k1,k2⟩:=h2;split at h
       ·rename_i r l' cI m' hr eU pZ;obtain⟨rfl,m1,m2,m3⟩:=h;have iC:=LI pZ;obtain⟨w,h3,h4⟩:=Xd k2 hr;rw[h3];have dw:=k2.obj 4000000;rw[eU] at dw;have iX:pl' 0=pl o:=by
         have:=Zg [.map 0] l' [pl o] m1 dw;simp only[SRs,SR] at this;obtain⟨u',_,cf,⟨h5,_⟩,_⟩:=this;obtain rfl:pl o=u':=(List.cons.inj cf).1;simpa [U1,Qm] using h5.symm
        have fE:=k2.obj 0;rw[iC,iX] at fE;have cX:=(WG v r w m2 h4).retd (B':=B) (pl':=pl) (tb':=tb) (n:=0) (fun j hj=>by omega) _ _ bV;have hle:σc.Le σ':=k1.f.trans k2.le;have lh:∀ d,d≠o→(Q7 s.own d).live=true→∀ i,Oid (pl d) i→σ'.get i=σ.get i:=fun d e hl i hi=>by
         have aj:=(hG.obj d).id_lt hl hi;have wi:i≠id:=fun gQ=>hG.sep d o i e hl ai hi (by rw[ib,gQ];rfl);cases hg:σ.get i with
         |none=>exact k1.d.2 i aj hg
         |some bb=>exact hle.2 _ _ (by rw[bB i wi];exact hg)
        have bP:∀ d,(Q7 (oset s.own o (.map kk vk m')) d).live=(Q7 s.own d).live:=fun d=>by
         rw[Qb];by_cases e:d=o
         ·subst e;rw[if_pos rfl,ai];rfl
         ·rw[if_neg e]
        refine⟨w,σ',.refl _ _ _,hK v _ w σ' (hx m' m3) k1.d ⟨hG.bf,nw.trans hle,hG.env,fun d=>?_,fun d i q1 q2=>hG.fresh d i (by rw[←bP d];exact q1) q2,fun d d' i aA q1 q2 q3 q4=>hG.sep d d' i aA (by rw[←bP d];exact q1) (by rw[←bP d'];exact q2) q3 q4,hG.free⟩ cX fun q hq=>?_⟩
        ·simp only[Qb];by_cases e:d=o
         ·subst e;rw[if_pos rfl];exact fE.retd ck fun _ _=>rfl
         ·rw[if_neg e];exact(hG.obj d).mono (.refl _) (fun _ _ h=>h) fun hl i hi=>lh d e hl i hi
        ·have wj:q≠o:=fun e=>hq (by rw[e,we];exact List.mem_singleton.2 rfl);exact⟨bP q,rfl,fun hl i hi=>lh q wj hl i hi⟩
       ·exact h.elim
      cases e with
      |normal=>exact main h1
      |ret=>exact main h1
      |_=>exact h1.elim
     ·exact hx.elim
    ·exact hx.elim
   ·exact hx.elim
  ·exact hx.elim
 ·exact hx.elim
theorem Q6w {f:Nat}{kk vk:Kind}{sp:MSp kk vk}{ap:Ap}{j:Nat}(h:Q44 P f (Hr ap j kk vk sp) j):XOk P f (Hr ap j kk vk sp):=by
 intro B F pl tb s env σ d args vs K R hG ha hx hK;have:∃ t,AM s.own j args=some t:=by
  unfold Hr at hx;split at hx
  ·rename_i a args;split at hx
   ·rename_i l hl;split at hx
    ·rename_i o fJ;exact⟨o,by simp[AM,hl,fJ]⟩
    ·exact hx.elim
   ·exact hx.elim
  ·exact hx.elim
 obtain⟨t,ht⟩:=this;exact h B F pl tb s env σ d args vs K R t hG ha ht hx fun v s' u σ' k1 k2 k3 k4 _=>hK v s' B F pl tb u σ' k1 (.of hG.bf k2) k3 k4
def Z12 (P:Program) (f:Nat) (x:XSp) (j:Nat):Prop:=XOk P f x∧Q44 P f x j
theorem XfOk.nil {xs:List (Nat×XSp)}:∀ f j,Qm ([]:List (Nat×Nat)) f=some j→∀ x,Qm xs f=some x→Q44 P f x j:=fun f j h=>by cases h
theorem XfOk.cons {xs:List (Nat×XSp)}{g k:Nat}{y:XSp}{l:List (Nat×Nat)}(hy:Qm xs g=some y) (h:Q44 P g y k) (t:∀ f j,Qm l f=some j→∀ x,Qm xs f=some x→Q44 P f x j):∀ f j,Qm ((g,k)::l) f=some j→∀ x,Qm xs f=some x→Q44 P f x j:=fun f j hf x hx=>by
 simp only[Qm] at hf;cases hb:Nat.beq g f with
 |true =>rw[hb] at hf;obtain rfl:=Nat.eq_of_beq_eq_true hb;obtain rfl:=osj hf;obtain rfl:=osj (hy.symm.trans hx);exact h
 |false=>rw[hb] at hf;exact t f j hf x hx
theorem I6 {f:Nat}{vc:VCode}{rs:List VResult}{nt:Nat}(h:Fun P f vc rs nt) (hm:P.follows .mixedOrders=true) {kk vk:Kind}(ck:(kk.flat&&vk.flat)=true) {sp:MSp kk vk}{ap:Ap}{j:Nat}
  (hb:∀ m cs dX c v post,sp ap m cs dX=some (c,v,post)→c→∃ (C:Cx) (L:List Value→List (Nat×LoopAnn)) (cs' fP:List SV),SVs.pure cs'=true∧SVs.pure fP=true∧(∀ σ vs,SRs P σ X0 ZF cs vs→SRs P σ X0 ZF cs' vs)∧(∀ σ vs,SRs P σ X0 ZF dX vs→SRs P σ X0 ZF fP vs)∧COk P C∧∀ vals,gwp C (L vals) vc 0 (Q3y vals rs v kk vk post) (mstart nt j kk vk m vals cs' fP)):Z12 P f (Hr ap j kk vk sp) j :=
 ⟨Q6w (Ec h hm ck hb),Ec h hm ck hb⟩
def Q4v {kk vk:Kind}{E D:Type}(lc:AL E) (la:AL D) (pre:List (kk.T×vk.T)→E→D→Prop) (res:List (kk.T×vk.T)→E→D→SV) (post:List (kk.T×vk.T)→E→D→List (kk.T×vk.T)→Prop):MSp kk vk:=fun ap m cs dX=>match AL.dec ap lc cs,AL.dec ap la dX with
 |some c,some a=>some (pre m c a,res m c a,post m c a)
 |_,_=>none
theorem A5 {kk vk:Kind}{E D:Type}{lc:AL E}{la:AL D}{pre:List (kk.T×vk.T)→E→D→Prop}{res:List (kk.T×vk.T)→E→D→SV}{post:List (kk.T×vk.T)→E→D→List (kk.T×vk.T)→Prop}{ap:Ap}{m:List (kk.T×vk.T)}{cs dX:List SV}{c:Prop}{v:SV}{q:List (kk.T×vk.T)→Prop}
  (h:Q4v lc la pre res post ap m cs dX=some (c,v,q)):∃ x y,AL.dec ap lc cs=some x∧AL.dec ap la dX=some y∧c=pre m x y∧v=res m x y∧q=post m x y:=by
 unfold Q4v at h;split at h
 ·rename_i x y h1 h2;obtain⟨rfl,rfl,rfl⟩:=(by simpa using h:pre m x y=c∧res m x y=v∧post m x y=q);exact⟨x,y,h1,h2,rfl,rfl,rfl⟩
 ·cases h
theorem Q1k {f:Nat}{vc:VCode}{rs:List VResult}{nt:Nat}(h:Fun P f vc rs nt) (hm:P.follows .mixedOrders=true) {ap:Ap}(cZ:Q2u P ap) {kk vk:Kind}(ck:(kk.flat&&vk.flat)=true) {j:Nat}{E D:Type}{lc:AL E}{la:AL D}{pre:List (kk.T×vk.T)→E→D→Prop}{res:List (kk.T×vk.T)→E→D→SV}{post:List (kk.T×vk.T)→E→D→List (kk.T×vk.T)→Prop}{μ:E→D→Nat}
  {C:Cx}(aw:COk P C) (oU:Qm C.xf f=none) {L:List (kk.T×vk.T)→E→D→List Value→List (Nat×LoopAnn)}{V:Nat→List (kk.T×vk.T)→E→D→Prop}
  (hq:∀ n m x y,(∀ vals,gwp {C with xs:=(f,Hr ap j kk vk (Q4v lc la (fun m x y=>pre m x y∧μ x y<n) res post))::C.xs} (L m x y vals) vc 0 (Q3y vals rs (res m x y) kk vk (post m x y)) (mstart nt j kk vk m vals (AL.can lc x) (AL.can la y)))=V n m x y)
  (hb:∀ n m x y,pre m x y→μ x y=n→V n m x y):Z12 P f (Hr ap j kk vk (Q4v lc la pre res post)) j:=by
 have tM:∀ (x:XSp) g k,Qm C.xf g=some k→∀ y,Qm ((f,x)::C.xs) g=some y→Q44 P g y k:=fun x g k hg y hy=>by
  simp only[Qm] at hy;cases hb:Nat.beq f g with
  |true=>obtain rfl:=Nat.eq_of_beq_eq_true hb;rw[oU] at hg;cases hg
  |false=>rw[hb] at hy;exact aw.xf g k hg y hy
 have key:∀ n,Z12 P f (Hr ap j kk vk (Q4v lc la (fun m x y=>pre m x y∧μ x y<n) res post)) j:=by
  intro n;induction n using Nat.strongRecOn with
  |ind n ih =>refine I6 h hm ck fun m cs dX c v q hs hc=>?_;obtain⟨x,y,h1,h2,rfl,rfl,rfl⟩:=A5 hs;obtain⟨hp,hn⟩:=hc;exact⟨{C with xs:=(f,Hr ap j kk vk (Q4v lc la (fun m x' y'=>pre m x' y'∧μ x' y'<μ x y) res post))::C.xs},L m x y,AL.can lc x,AL.can la y,AL.can_pure lc x,AL.can_pure la y,fun σ vs hv=>AL.dec_sound cZ lc h1 hv,fun σ vs hv=>AL.dec_sound cZ la h2 hv,⟨aw.cs,XsOk.cons (ih _ hn).1 aw.xs,aw.it,aw.yl,aw.iy,tM _⟩,(hq (μ x y) m x y).mpr (hb _ m x y hp rfl)⟩
 refine I6 h hm ck fun m cs dX c v q hs hc=>?_;obtain⟨x,y,h1,h2,rfl,rfl,rfl⟩:=A5 hs;exact⟨{C with xs:=(f,Hr ap j kk vk (Q4v lc la (fun m x' y'=>pre m x' y'∧μ x' y'<μ x y) res post))::C.xs},L m x y,AL.can lc x,AL.can la y,AL.can_pure lc x,AL.can_pure la y,fun σ vs hv=>AL.dec_sound cZ lc h1 hv,fun σ vs hv=>AL.dec_sound cZ la h2 hv,⟨aw.cs,XsOk.cons (key (μ x y)).1 aw.xs,aw.it,aw.yl,aw.iy,tM _⟩,(hq (μ x y) m x y).mpr (hb _ m x y hc rfl)⟩
end
end Go.V
namespace Go.V
open Go
def Heap.over (B F:Heap):Heap where
 get i:=match B.get i with|some b=>some b|none=>F.get i
 n:=Nat.max B.n F.n
 wf i h:=by have h1:B.n≤i:=Nat.le_trans (Nat.le_max_left _ _) h;have h2:F.n≤i:=Nat.le_trans (Nat.le_max_right _ _) h;rw[B.wf i h1];exact F.wf i h2
theorem Heap.over_none {B F:Heap}{i:Nat}(h1:B.get i=none) (h2:F.get i=none):(B.over F).get i=none:=by show (match B.get i with|some b=>some b|none=>F.get i)=none;rw[h1];exact h2
theorem Heap.over_left {B F:Heap}:B.Le (B.over F):=⟨Nat.le_max_left _ _,fun i b h=>by
 show (match B.get i with|some b=>some b|none=>F.get i)=some b;rw[h]⟩
theorem Heap.over_right {B F σ:Heap}(hB:B.Le σ) (hF:F.Le σ):F.Le (B.over F):=⟨Nat.le_max_right _ _,fun i b h=>by
 show (match B.get i with|some b=>some b|none=>F.get i)=some b;cases hb:B.get i with
 |none=>exact h
 |some b' =>
  have h1:=hB.2 _ _ hb;have h2:=hF.2 _ _ h;rw[h1] at h2;exact h2⟩
theorem Heap.over_le {B F σ:Heap}(hB:B.Le σ) (hF:F.Le σ):(B.over F).Le σ:=⟨Nat.max_le.2 ⟨hB.1,hF.1⟩,fun i b h=>by
 have h:(match B.get i with|some b=>some b|none=>F.get i)=some b:=h;cases hb:B.get i with
 |none=>rw[hb] at h;exact hF.2 _ _ h
 |some b'=>rw[hb] at h;rw[←h];exact hB.2 _ _ hb⟩
theorem GBase.over {B F σ B' σ':Heap}(hB:B.Le B') (ep:B'.Le σ') (hF:F.Le σ') (hx:∀ i b,F.get i=some b→B.get i=none→B'.get i=none) (hd:Dead σ σ'):GBase B F σ B' (B'.over F) σ' :=
 ⟨hB,Heap.over_right ep hF,hx,hd⟩
def OD (ap:Ap) (sp:LSp):XSp:=fun _ args s K =>
 match args with
 |.lst o::args=>bif SVs.pure args&&(Q7 s.own o).isL then (match sp ap (Q7 s.own o) args with
   |some (c,v,b)=>bif v.ret 0&&b.isL then c∧K v ⟨s.env,oset s.own o b,s.nx⟩ else False
   |none=>False) else False
 |_=>False
def callV (ap:Ap) (sp:CSp):XSp:=fun d args s K =>
 let s1:=(⟨s.env++args,s.own,s.nx⟩:St).frzs (Mr args);let a1:=s1.env.drop s.env.length
 bif SVs.pure a1 then (match sp ap a1 with
  |some (c,v,bs)=>bif v.ret bs.length&&bs.all OB.isL then c∧K (v.ren d 500000) ((⟨s1.env.take s.env.length,s1.own,s1.nx⟩:St).makes d 500000 0 bs) else False
  |none=>False) else False
section
variable {P:Program}
theorem OB.isL_lst {b:OB}(h:b.isL=true):∃ ty k xs nl,b=.lst ty k xs nl:=by cases b<;>first|exact⟨_,_,_,_,rfl⟩|cases h
theorem Q42 {f:Nat}{vc:VCode}{rs:List VResult}{nt:Nat}(h:Fun P f vc rs nt) (hm:P.follows .mixedOrders=true) {sp:LSp}{ap:Ap}
  (hb:∀ b args c v b',sp ap b args=some (c,v,b')→c→∃ (C:Cx) (L:List Value→List (Nat×LoopAnn)) (bh:List SV),SVs.pure bh=true∧(∀ σ vs,SRs P σ X0 ZF args vs→SRs P σ X0 ZF bh vs)∧COk P C∧∀ vals,gwp C (L vals) vc 0 (HN vals rs v b' (lsv b)) (X6 nt (lsv b) b vals bh)):XOk P f (OD ap sp):=by
 intro B F pl tb s env σ d args vs K R hG ha hx hK;unfold OD at hx;split at hx
 ·rename_i o args;cases h_:(SVs.pure args&&(Q7 s.own o).isL) with
  |false=>rw[h_] at hx;exact hx.elim
  |true =>
  rw[h_] at hx;simp only[_root_.cond_true] at hx;simp only[Bool.and_eq_true] at h_;obtain⟨ph,rL⟩:=h_;obtain⟨ty,k,xs,nl,aM⟩:=OB.isL_lst rL;rw[aM] at hx;split at hx
  ·rename_i c v b' eH;cases bV:(v.ret 0&&b'.isL) with
   |false=>rw[bV] at hx;exact hx.elim
   |true =>
   rw[bV] at hx;obtain⟨hc,hx⟩:=hx;simp only[Bool.and_eq_true] at bV;simp only[SRs] at ha;obtain⟨u,us,rfl,fO,dx⟩:=ha;have ai:(Q7 s.own o).live=true:=by rw[aM];rfl
   have ak:=hG.obj o;rw[aM] at ak;simp only[SR] at fO;obtain⟨rfl,hs⟩:=fO;have a8:∀ i,oid (pl o)=some i→F.get i=none:=fun i hi=>hG.fresh o i ai (MZ hi);have iV:∀ i,oid (pl o)=some i→B.get i=none:=fun i hi=>by
    cases hg:B.get i with
    |none=>rfl
    |some b=>have:=hG.bf.2 _ _ hg;rw[a8 i hi] at this;cases this
   have cW:∀ l,pl o≠.tuple l:=fun l he=>by obtain⟨_,_,_,hs⟩:=hs;rw[he] at hs;cases hs
   have gi:∀ (B:Heap) (pl':Nat→Value) (tb':Nat→Option Bool),(SR P B pl' tb' (.lst 0) (pl o)↔pl' 0=pl o):=fun B pl' tb'=>by simp only[SR];exact⟨fun h=>h.1.symm,fun h=>⟨h.symm,hs⟩⟩
   obtain⟨C,L,bh,iW,ml,aw,hg⟩:=hb _ _ c v b' eH hc;have hg:=hg [pl o];let σc:=SO σ (pl o);have nu:B.Le σc:=Td hG.leB iV;have nw:F.Le σc:=Td hG.le a8;have av:SRs P B X0 ZF bh us:=ml B us (QE _ _ ph dx);let gU:Nat→Value:=fun j=>if j=0 then pl o else poison
   have bj:GRel P B σc σ (X6 nt (.lst 0) (.lst ty k xs nl) [pl o] bh) (pl o::us++List.replicate (nt-(pl o::us).length) undef) σ:=by
    refine⟨B,σc,gU,ZF,⟨.refl _,.refl _,fun _ _ _ h=>h,.refl _⟩,nu,IB _ _,?_,fun j=>?_,fun j i h1 h2=>?_,fun j j' i aA h1 h2 h3 h4=>?_,fun _ _=>rfl⟩
    ·simp only[X6,SRs,List.cons_append];refine⟨pl o,_,rfl,(gi _ _ _).2 (by simp[gU]),?_⟩;rw[av.length,List.length_cons];refine SRs.append ?_ (HF _);exact QE _ _ iW av
    ·simp only[X6,Q7];by_cases e0:j=0
     ·subst e0;simp only[Nat.beq_refl,_root_.cond_true];exact ak
     ·rw[Zd (fun e=>e0 e.symm),cond_false];by_cases e1:j=4000000
      ·subst e1;simp only[Nat.beq_refl,_root_.cond_true];exact⟨pl o,[],rfl,(gi _ _ _).2 (by simp[gU]),rfl⟩
      ·rw[Zd (fun e=>e1 e.symm),cond_false];trivial
    ·simp only[X6,Q7] at h1;by_cases e0:j=0
     ·subst e0;exact SX (Q2x cW h2)
     ·rw[Zd (fun e=>e0 e.symm),cond_false] at h1;by_cases e1:j=4000000
      ·subst e1;cases h1
      ·rw[Zd (fun e=>e1 e.symm),cond_false] at h1;cases h1
    ·have z:∀ j,(Q7 (X6 nt (.lst 0) (.lst ty k xs nl) [pl o] bh).own j).live=true→j=0:=fun j h1=>by
      simp only[X6,Q7] at h1;by_cases e0:j=0
      ·exact e0
      ·rw[Zd (fun e=>e0 e.symm),cond_false] at h1;by_cases e1:j=4000000
       ·subst e1;cases h1
       ·rw[Zd (fun e=>e1 e.symm),cond_false] at h1;cases h1
     exact aA ((z j h1).trans (z j' h2).symm)
   refine h.calls hm PR ?_;refine Nc aw vc 0 _ _ _ σ none _ trivial bj hg fun e s' ae σ' h1 h2=>?_
   have main:(match Y0 s' rs,Q7 s'.own 4000000 with
    |some r,.stk l vs=>vs=[pl o]∧Np [(0,some 0)] [.lst 0] l∧Hn [] v r∧OK s' [(0,some 0)] 0 b'
    |_,_=>False)→QV (Jn ae σ' rs) fun v=>∃ v' aE,DropTo σ v σ' v' aE∧R v' aE:=fun h=>by
    obtain⟨B',F',pl',tb',k1,k2⟩:=h2;split at h
    ·rename_i r l cI hr eU;obtain⟨rfl,m1,m2,m3⟩:=h;obtain⟨w,h3,h4⟩:=Xd k2 hr;rw[h3];have dw:=k2.obj 4000000;rw[eU] at dw;have iX:pl' 0=pl o:=by
      have:=Zg [.lst 0] l [pl o] m1 dw;simp only[SRs] at this;obtain⟨u',_,cf,h5,_⟩:=this;obtain rfl:pl o=u':=(List.cons.inj cf).1;have:=(gi _ _ _).1 h5;simpa [U1,Qm] using this
     obtain⟨fE,pj⟩:=Qz k2 m3;have iR:U1 pl' [(0,some 0)] 0=pl o:=by simpa [U1,Qm] using iX
     rw[iR] at fE pj;have cX:=(WG v r w m2 h4).retd (B':=B') (pl':=pl) (tb':=tb) (n:=0) (fun j hj=>by omega) _ _ bV.1;have hle:σc.Le σ':=k1.f.trans k2.le;have ep:B'.Le σ':=k2.leB;obtain⟨gH,iM,cz,hZ,rfl⟩:=OB.isL_lst bV.2;have a7:∀ d,d≠o→(Q7 s.own d).live=true→∀ i,Oid (pl d) i→B'.get i=none∧σ'.get i=σ.get i:=fun d e hl i hi=>by
      have aj:=(hG.obj d).id_lt hl hi;have gQ:oid (pl o)≠some i:=fun gQ=>hG.sep d o i e hl ai hi (MZ gQ);cases hg:σ.get i with
      |none =>
       have hn:=k1.d.2 i aj hg;refine⟨?_,hn⟩;cases bK:B'.get i with
       |none=>rfl
       |some bb=>have:=ep.2 _ _ bK;rw[hn] at this;cases this
      |some bb =>
       have cA:σc.get i=some bb:=by rw[RG gQ];exact hg
       refine⟨k1.x i bb cA ?_,hle.2 _ _ cA⟩;cases bK:B.get i with
       |none=>rfl
       |some b2=>have:=hG.bf.2 _ _ bK;rw[hG.fresh d i hl hi] at this;cases this
     have pk:∀ i,Oid (pl o) i→B'.get i=none:=fun i hi=>by
      obtain⟨a,_,e2,e3⟩:=pj rfl i hi;have:=k2.fresh a i e2 e3;cases bK:B'.get i with
      |none=>rfl
      |some b2=>have h9:=k2.bf.2 _ _ bK;rw[this] at h9;cases h9
     have gV:F.Le σ':=nw.trans hle;refine⟨w,σ',.refl _ _ _,hK v _ B' (B'.over F) pl tb w σ' hx (.over k1.b ep gV (fun i b e1 e2=>k1.x i b (nw.2 _ _ e1) e2) k1.d) ⟨Heap.over_left,Heap.over_le ep gV,SRs.mono k1.b (fun _ _ h=>h) _ _ hG.env,fun d=>?_,fun d i q1 q2=>?_,fun d d' i aA q1 q2 q3 q4=>?_,hG.free⟩ cX⟩
     ·simp only[Qb];by_cases e:d=o
      ·subst e;rw[if_pos rfl];exact fE
      ·rw[if_neg e];exact(hG.obj d).mono k1.b (fun _ _ h=>h) fun hl i hi=>(a7 d e hl i hi).2
     ·simp only[Qb] at q1;by_cases e:d=o
      ·subst e;exact Heap.over_none (pk i q2) (hG.fresh d i ai q2)
      ·rw[if_neg e] at q1;exact Heap.over_none (a7 d e q1 i q2).1 (hG.fresh d i q1 q2)
     ·have lv:∀ d,(Q7 (oset s.own o (.lst gH iM cz hZ)) d).live=true→(Q7 s.own d).live=true:=fun d h=>by
       rw[Qb] at h;by_cases e:d=o
       ·subst e;exact ai
       ·rwa [if_neg e] at h
      exact hG.sep d d' i aA (lv d q1) (lv d' q2) q3 q4
    ·exact h.elim
   cases e with
   |normal=>exact main h1
   |ret=>exact main h1
   |_=>exact h1.elim
  ·exact hx.elim
 ·exact hx.elim
theorem RN {f:Nat}{vc:VCode}{rs:List VResult}{nt:Nat}(h:Fun P f vc rs nt) (hm:P.follows .mixedOrders=true) {ap:Ap}(cZ:Q2u P ap) {ty:Nat}{k:Kind}{D:Type}{l:AL D}{pre:List k.T→Bool→D→Prop}{res:List k.T→Bool→D→SV}{post:List k.T→Bool→D→List k.T}
  {C:Cx}(aw:COk P C) {L:List k.T→Bool→D→List Value→List (Nat×LoopAnn)}{V:List k.T→Bool→D→Prop}
  (hq:∀ xs nl d,(∀ vals,gwp C (L xs nl d vals) vc 0 (HN vals rs (res xs nl d) (.lst ty k (post xs nl d) nl) (.lst 0)) (X6 nt (.lst 0) (.lst ty k xs nl) vals (AL.can l d)))=V xs nl d)
  (hb:∀ xs nl d,pre xs nl d→V xs nl d):XOk P f (OD ap (Hu ty k l pre res post)):=by
 refine Q42 h hm fun b args c v b' hs hc=>?_;unfold Hu at hs;split at hs
 ·rename_i gH k' xs nl;split at hs
  ·rename_i e;subst e;split at hs
   ·rename_i ys d h1 h2;obtain⟨rfl,rfl,rfl⟩:=(by simpa using hs:pre ys nl d=c∧res ys nl d=v∧OB.lst gH k (post ys nl d) nl=b');unfold Mo at h1;split at h1
    ·rename_i e;subst e;obtain rfl:=osj h1;exact⟨C,L xs nl d,AL.can l d,AL.can_pure l d,fun σ vs hv=>AL.dec_sound cZ l h2 hv,aw,(hq xs nl d).mpr (hb xs nl d hc)⟩
    ·cases h1
   ·cases hs
  ·cases hs
 ·cases hs
theorem SRs.split {B:Heap}{pl:Nat→Value}{tb:Nat→Option Bool}:∀ {a:List SV}{u v:List Value},SRs P B pl tb a (u++v)→SRs P B pl tb (a.take u.length) u∧SRs P B pl tb (a.drop u.length) v
 |a,[],v,h=>⟨by simp[SRs],by simpa using h⟩
 |[],x::u,v,h=>by simp only[SRs] at h;cases h
 |s::a,x::u,v,h=>by simp only[SRs,List.cons_append] at h;obtain⟨y,ys,e,h1,h2⟩:=h;obtain⟨rfl,rfl⟩:=List.cons.inj e;obtain⟨h3,h4⟩:=SRs.split h2;simp only[List.length_cons,List.take_succ_cons,List.drop_succ_cons,SRs];exact⟨⟨_,_,rfl,h1,h3⟩,h4⟩
theorem HW {B F σ:Heap}{tb tbc:Nat→Option Bool}{env:Env}{σ0:Heap}{d nt:Nat}(cW:0<nt) (dm:Nat→Value) (bs:List OB) (hF:F.Le σ)
  (ak:∀ j b,bs[j]?=some b→b.isL=true∧OR P B dm tbc σ (dm j) b∧∀ i,Oid (dm j) i→σ0.n≤i∧F.get i=none)
  (dk:∀ j j' i,j<bs.length→j'<bs.length→j≠j'→Oid (dm j) i→Oid (dm j') i→False) :
  ∀ (r:List OB) (j:Nat) (pl:Nat→Value) (s:St),bs.drop j=r→Gam P B F pl tb s env σ→(∀ k i,(Q7 s.own k).live=true→Oid (pl k) i→i<σ0.n∨∃ j'<j,j'<bs.length∧Oid (dm j') i∧k=d+j'*nt)→(∀ j'<j,j'<bs.length→pl (d+j'*nt)=dm j') →
   ∃ pl',Gam P B F pl' tb (s.makes d nt j r) env σ∧(∀ j'<bs.length,pl' (d+j'*nt)=dm j')
 |[],j,pl,s,hr,hG,_,hp=>⟨pl,hG,fun j' cu=>hp j' (by
   have:=congrArg List.length hr;simp at this;omega) cu⟩
 |b::r,j,pl,s,hr,hG,hinv,hp=>by
  have bZ:j<bs.length:=by
   rcases Nat.lt_or_ge j bs.length with h|h
   ·exact h
   ·rw[List.drop_eq_nil_of_le h] at hr;cases hr
  have cK:bs[j]?=some b:=by
   have:(bs.drop j)[0]?=some b:=by rw[hr];rfl
   simpa using this
  have fX:bs.drop (j+1)=r:=by
   have:(bs.drop j).drop 1=r:=by rw[hr];rfl
   simpa [List.drop_drop,Nat.add_comm] using this
  obtain⟨h1,h2,h3⟩:=ak j b cK;obtain⟨ty,k,xs,nl,rfl⟩:=OB.isL_lst h1;have aN:∀ j' ,j'≠j→d+j'*nt≠d+j*nt:=fun j' aA e=>aA (Nat.eq_of_mul_eq_mul_right cW (by omega));refine HW cW dm bs hF ak dk r (j+1) (X4 pl (d+j*nt) (dm j)) (s.make (d+j*nt) (.lst ty k xs nl)) fX (hG.make (d+j*nt) (.lst ty k xs nl) (dm j) hF (fun _ _ _ _ _=>rfl) h2 fun i _ hi=>⟨(h3 i hi).2,fun k' hk hl e=>?_⟩) (fun k' i hl hi=>?_) fun j' cu l8=>?_
  ·rcases hinv k' i hl e with h|⟨j',cu,eL,he,_⟩
   ·have:=(h3 i hi).1;omega
   ·exact dk j j' i bZ eL (by omega) hi he
  ·by_cases hk:k'=d+j*nt
   ·subst hk;simp only[X4,if_true] at hi;exact .inr ⟨j,by omega,bZ,hi,rfl⟩
   ·have cn:(Q7 s.own k').live=true:=by
     simp only[St.make,St.kill,Qb,Vb,if_neg hk] at hl
     rwa [OB.live_kill] at hl
    simp only[X4,if_neg hk] at hi;rcases hinv k' i cn hi with h|⟨j',cu,h5⟩
    ·exact .inl h
    ·exact .inr ⟨j',by omega,h5⟩
  ·by_cases e:j'=j
   ·subst e;simp[X4]
   ·simp only[X4,if_neg (aN j' e)];exact hp j' (by omega) l8
theorem Q56 {f:Nat}{vc:VCode}{rs:List VResult}{nt:Nat}(h:Fun P f vc rs nt) (hm:P.follows .mixedOrders=true) {sp:CSp}{ap:Ap}
  (hb:∀ dX c v bs,sp ap dX=some (c,v,bs)→c→∃ (C:Cx) (L:List (Nat×LoopAnn)) (fP:List SV),SVs.pure fP=true∧(∀ σ vs,SRs P σ X0 ZF dX vs→SRs P σ X0 ZF fP vs)∧COk P C∧gwp C L vc 0 (V8 rs v bs) (Qr nt fP)):XOk P f (callV ap sp):=by
 intro B F pl tb s env σ d args vals K R hG ha hx hK;unfold callV at hx;have wk:Gam P B F pl tb ⟨s.env++args,s.own,s.nx⟩ (env++vals) σ:=⟨hG.bf,hG.le,hG.env.append ha,hG.obj,hG.fresh,hG.sep,hG.free⟩;obtain⟨B1,F1,p9,rM,wm,gK⟩:GRel P B F σ ((⟨s.env++args,s.own,s.nx⟩:St).frzs (Mr args)) (env++vals) σ:=GRel.frzs _ ⟨B,F,pl,tb,.of hG.bf (.refl _),wk⟩;generalize ((⟨s.env++args,s.own,s.nx⟩:St).frzs (Mr args))=s1 at hx gK;dsimp only at hx;have hlen:s.env.length=env.length:=hG.env.length;obtain⟨jl,gZ⟩:=SRs.split gK.env;rw[hlen] at hx;have gj:Gam P B1 F1 p9 rM ⟨s1.env.take env.length,s1.own,s1.nx⟩ env σ:=⟨gK.bf,gK.le,jl,gK.obj,gK.fresh,gK.sep,gK.free⟩;generalize s1.env.drop env.length=a1 at hx gZ;generalize (⟨s1.env.take env.length,s1.own,s1.nx⟩:St)=s2 at hx gj;cases ph:SVs.pure a1 with
 |false=>rw[ph] at hx;exact hx.elim
 |true =>
 rw[ph] at hx;simp only[_root_.cond_true] at hx;split at hx
 ·rename_i c v bs eH;cases bV:(v.ret bs.length&&bs.all OB.isL) with
  |false=>rw[bV] at hx;exact hx.elim
  |true =>
  rw[bV] at hx;obtain⟨hc,hx⟩:=hx;simp only[Bool.and_eq_true] at bV;obtain⟨hv,gY⟩:=bV;obtain⟨C,L,fP,dz,pb,iU,hg⟩:=hb _ c v bs eH hc;have av:=pb B1 vals (QE _ _ ph gZ);have bj:GRel P B1 σ σ (Qr nt fP) (vals++List.replicate (nt-vals.length) undef) σ:=by
   refine⟨B1,σ,X0,ZF,⟨.refl _,.refl _,fun _ _ _ h=>h,.refl _⟩,gj.leB,.refl _,?_,fun k=>?_,fun k i' h1 h2=>?_,fun k k' i' pg h1 h2 h3 h4=>?_,fun _ _=>rfl⟩
   ·simp only[Qr];rw[av.length];exact SRs.append (QE _ _ dz av) (HF _)
   ·simp only[Qr,Q7];trivial
   ·simp only[Qr,Q7] at h1;cases h1
   ·simp only[Qr,Q7] at h1;cases h1
  refine h.calls hm PR ?_;refine Nc iU vc 0 _ _ _ σ none _ trivial bj hg fun e s' ae σ' h1 h2=>?_
  have main:(match Y0 s' rs with
   |some r=>(match Q0a v r [] with
    |some mp=>Hn mp v r∧Q1i s' mp 0 bs
    |none=>False)
   |none=>False)→QV (Jn ae σ' rs) fun v=>∃ v' aE,DropTo σ v σ' v' aE∧R v' aE:=fun h=>by
   obtain⟨B',F',pl',tb',k1,k2⟩:=h2;split at h
   ·rename_i r hr;split at h
    ·rename_i mp iR;obtain⟨g1,g2⟩:=h;obtain⟨u,h3,h4⟩:=Xd k2 hr;have ia:=WG v r u g1 h4;have dQ:=Cw v r [] mp iR (fun t t' a h=>by cases h);have ak:∀ j b,bs[j]?=some b→OK s' mp j b:=fun j b hj=>by have:=TZ bs 0 g2 j b hj;rwa [Nat.zero_add] at this
     rw[h3];have hle:σ.Le σ':=k1.f.trans k2.le;have ep:B'.Le σ':=k2.leB;have aP:∀ j b,bs[j]?=some b→b.isL=true∧OR P B' (U1 pl' mp) ZF σ' (U1 pl' mp j) b∧∀ i,Oid (U1 pl' mp j) i→σ.n≤i∧(B'.over F1).get i=none:=fun j b hj=>by
      obtain⟨m1,m2⟩:=Qz k2 (ak j b hj);have hl:=List.all_eq_true.1 gY b (List.mem_of_getElem? hj);obtain⟨ty,k,xs,nl,rfl⟩:=OB.isL_lst hl;refine⟨hl,m1,fun i hi=>?_⟩;obtain⟨a,_,e2,e3⟩:=m2 rfl i hi;have p8:=k2.fresh a i e2 e3;have pn:σ.get i=none:=by
       cases hg:σ.get i with
       |none=>rfl
       |some b=>have h9:=k1.f.2 _ _ hg;rw[p8] at h9;cases h9
      have kZ:B'.get i=none:=by
       cases hg:B'.get i with
       |none=>rfl
       |some b=>have h9:=k2.bf.2 _ _ hg;rw[p8] at h9;cases h9
      have rN:F1.get i=none:=by
       cases hg:F1.get i with
       |none=>rfl
       |some b=>have h9:=gj.le.2 _ _ hg;rw[pn] at h9;cases h9
      refine⟨Nat.le_of_not_lt fun aj=>?_,Heap.over_none kZ rN⟩;have bg:=k1.d.2 i aj pn;rcases m1 with⟨_,_,h2⟩|⟨_,i',cap,c,t,h2,_,h3,_⟩
      ·rw[h2] at hi;cases hi
      ·rw[h2] at hi;obtain rfl:=osj hi;rw[h3] at bg;cases bg
     have dk:∀ j j' i,j<bs.length→j'<bs.length→j≠j'→Oid (U1 pl' mp j) i→Oid (U1 pl' mp j') i→False:=fun j j' i hj cu aA hi b6=>by
      have bp:=List.getElem?_eq_getElem hj;have b_:=List.getElem?_eq_getElem cu;have r1:=List.all_eq_true.1 gY _ (List.getElem_mem hj);have r2:=List.all_eq_true.1 gY _ (List.getElem_mem cu);have l1:(bs[j]).live=true:=by cases jG:bs[j]<;>first|rfl|(rw[jG] at r1;cases r1)
      have l2:(bs[j']).live=true:=by cases jG:bs[j']<;>first|rfl|(rw[jG] at r2;cases r2)
      obtain⟨a,e1,e2,e3⟩:=(Qz k2 (ak j _ bp)).2 l1 i hi;obtain⟨a',rF,kP,rG⟩:=(Qz k2 (ak j' _ b_)).2 l2 i b6;by_cases e:a=a'
      ·subst e;exact aA (dQ j j' a e1 rF)
      ·exact k2.sep a a' i e e2 kP e3 rG
     have gV:F1.Le σ':=gj.le.trans hle;have a7:∀ d,(Q7 s2.own d).live=true→∀ i,Oid (p9 d) i→B'.get i=none∧σ'.get i=σ.get i:=fun d hl i hi=>by
      refine⟨?_,gj.heap_get hle hl hi⟩;have aj:=(gj.obj d).id_lt hl hi;cases hg:σ.get i with
      |none =>
       have hn:=k1.d.2 i aj hg;cases bK:B'.get i with
       |none=>rfl
       |some bb=>have:=ep.2 _ _ bK;rw[hn] at this;cases this
      |some bb =>
       refine k1.x i bb hg ?_;cases bK:B1.get i with
       |none=>rfl
       |some b2=>have:=gj.bf.2 _ _ bK;rw[gj.fresh d i hl hi] at this;cases this
     have wo:Gam P B' (B'.over F1) p9 rM s2 env σ':=⟨Heap.over_left,Heap.over_le ep gV,SRs.mono k1.b (fun _ _ h=>h) _ _ gj.env,fun d=>(gj.obj d).mono k1.b (fun _ _ h=>h) fun hl i hi=>(a7 d hl i hi).2,fun d i q1 q2=>Heap.over_none (a7 d q1 i q2).1 (gj.fresh d i q1 q2),gj.sep,gj.free⟩;obtain⟨wq,h5,h6⟩:=HW (d:=d) (nt:=500000) (σ0:=σ) (tbc:=ZF) (by omega) (U1 pl' mp) bs (Heap.over_le ep gV) aP dk bs 0 p9 s2 rfl wo (fun k i hl hi=>.inl ((gj.obj k).id_lt hl hi)) (fun j' cu=>by omega);refine⟨u,σ',.refl _ _ _,hK _ _ B' (B'.over F1) wq rM u σ' hx (wm.trans (.over k1.b ep gV (fun i b e1 e2=>k1.x i b (gj.le.2 _ _ e1) e2) k1.d)) h5 ?_⟩;exact SR.ren (tb:=ZF) (fun j hj=>h6 j hj) _ _ hv ia
    ·exact h.elim
   ·exact h.elim
  cases e with
  |normal=>exact main h1
  |ret=>exact main h1
  |_=>exact h1.elim
 ·exact hx.elim
theorem CI {f:Nat}{vc:VCode}{rs:List VResult}{nt:Nat}(h:Fun P f vc rs nt) (hm:P.follows .mixedOrders=true) {ap:Ap}(cZ:Q2u P ap) {D:Type}{la:AL D}{pre:D→Prop}{res:D→SV}{obs:D→List OB}
  {C:Cx}(aw:COk P C) {L:D→List (Nat×LoopAnn)}{V:D→Prop}
  (hq:∀ y,gwp C (L y) vc 0 (V8 rs (res y) (obs y)) (Qr nt (AL.can la y))=V y)
  (hb:∀ y,pre y→V y):XOk P f (callV ap (Yo la pre res obs)):=Q56 h hm fun dX c v bs hs hc=>by
 unfold Yo at hs;split at hs
 ·rename_i y h2;obtain⟨rfl,rfl,rfl⟩:=(by simpa using hs:pre y=c∧res y=v∧obs y=bs);exact⟨C,L y,AL.can la y,AL.can_pure la y,fun σ vs hv=>AL.dec_sound cZ la h2 hv,aw,(hq y).mpr (hb y hc)⟩
 ·cases hs
end
end Go.V
namespace Go.V
open Go
theorem S1 (x:Nat):BitVec.ofInt 64 (x:Int)=BitVec.ofNat 64 x:=by apply BitVec.eq_of_toNat_eq;simp
theorem toNat_ofInt {x:Nat}(h:x<9223372036854775808):(BitVec.ofInt 64 (x:Int)).toNat=x:=by rw[S1,BitVec.toNat_ofNat,Nat.mod_eq_of_lt (by omega)]
end Go.V
namespace Go.Proofs.Tryz
open Go Go.V Go.Proofs
abbrev q4 {A B C D E:Type}(x:A×B×C×D×E):E:=x.2.2.2.2
def inI (n a b:Int):Bool:=decide (a≤n)&&decide (n≤b)
def Z5s (lw a:List Int) (w:Int) (e:Nat):Bool:=lw.getD e 0==lw.getD w.toNat 0&&!(a.contains (e:Int))
def step (lw:List Int) (a:List Int) (w:Int):List Int:=match (List.range lw.length).find? (Z5s lw a w) with
 |some e=>a.set w.toNat e
 |none=>a
def Q3e (l:List Int) (p:Int→Bool):Int:=match l.findIdx? p with|some i=>(i:Int)|none=>-1
def FE {α:Type}(l:List α) (p:α→Bool):Int:=match l.findIdx? p with|some i=>(i:Int)|none=>-1
def u8s (l:List Int):Prop:=∀ x∈l,0≤x∧x≤255
theorem Aa {α:Type}{l:List α}{p:α→Bool}{k:Nat}(hk:k<l.length) (h:p l[k]=true) (hJ:(l.take k).any p=false):FE l p=k:=by
 have:l.findIdx? p=some k:=by rw[List.findIdx?_eq_some_iff_getElem];refine⟨hk,h,fun j hj=>?_⟩;have hn:=List.any_eq_false.1 hJ l[j] (List.mem_take_iff_getElem.2 ⟨j,by omega,rfl⟩);simpa using hn
 simp[FE,this]
theorem Rv {α:Type}{l:List α}{p:α→Bool}(hJ:l.any p=false):FE l p=-1:=by
 have:l.findIdx? p=none:=by rw[List.findIdx?_eq_none_iff];intro x hx;have:=List.any_eq_false.1 hJ x hx;simpa using this
 simp[FE,this]
theorem Ix {α:Type}(l:List α) (p:α→Bool):(decide (FE l p≥0))=l.any p:=by
 cases h:l.any p with
 |false=>rw[Rv h];rfl
 |true =>
  have:(l.findIdx? p).isSome=true:=by rw[List.findIdx?_isSome,h]
  obtain⟨i,hi⟩:=Option.isSome_iff_exists.1 this;have e:FE l p=(i:Int):=by simp[FE,hi]
  rw[e];exact decide_eq_true (Int.natCast_nonneg i)
def rowAt (rows:List Int) (p:Int):Nat:=(rows.getD (p.toNat % rows.length) 0).toNat
abbrev Sp:=Int×Int
theorem nIb (n a b:Int):(!inI n a b)=(decide (n<a)||decide (b<n)):=by simp only[inI,Bool.not_and];by_cases h1:a≤n<;>by_cases h2:n≤b<;>simp[h1,h2]<;>omega
theorem Nl (a b:Int):Ce a b=max a b:=by unfold Ce;split<;>omega
theorem LO (a b:Int):My a b=min a b:=by unfold My;split<;>omega
def Sub (a b:Sp):Prop:=b.1≤a.1∧a.2≤b.2
def Ne (a:Sp):Prop:=a.1≤a.2
theorem Iw {α β:Type}{f:α→Option β}:∀ {L:List α}{ys:List β},L.mapM f=some ys→ys.length=L.length∧∀ (i:Nat) (h:i<L.length) (h2:i<ys.length),f L[i]=some ys[i]
 |[],ys,h=>by simp at h;subst h;simp
 |a::L,ys,h=>by
  simp only[List.mapM_cons,Option.bind_eq_bind,Option.bind_eq_some_iff,Option.pure_def,Option.some.injEq] at h;obtain⟨y,hy,zs,hz,rfl⟩:=h;obtain⟨e1,e2⟩:=Iw hz;refine⟨by simp[e1],fun i h1 h2=>?_⟩;cases i with
  |zero=>exact hy
  |succ i=>exact e2 i (by simpa using h1) (by simpa using h2)
theorem Q4f {H:Type}{enc:TypeId×Value→H}{P:Program}{w:World}{base:Nat}{sp:Nat→Bool}{held:Bool}{fuel:Nat}{t:TypeId}{k:IntKind}{c:Value}{y:DataW H×List MemPlace}
  (ht:P.underlying t=some (.int k)) (h:DataW.trod enc P w base sp held fuel t [c]=some y):∃ n,c=.int k n∧y=(.lit (.int k n),[]):=by
 cases fuel with
 |zero=>simp[DataW.trod] at h
 |succ fuel =>cases c<;>simp[DataW.trod,ht] at h;rename_i k' n;obtain⟨⟨rfl,_⟩,rfl⟩:=h;exact⟨n,rfl,rfl⟩
theorem Q4u {H:Type}{enc:TypeId×Value→H}{P:Program}{w:World}{base:Nat}{sp:Nat→Bool}{held:Bool}{fuel:Nat}{t e:TypeId}{k:IntKind}{n:Nat}{l:List Value}{xs:List Int}{p:List MemPlace}
  (ht:P.underlying t=some (.array n e)) (he:P.underlying e=some (.int k)) (h1:P.cellsOf e=1) (hc:P.cellsOf t=n) (h:DataW.trod enc P w base sp held fuel t l=some (.agg (xs.map fun x=>.lit (.int k x)),p)):l=xs.map fun x=>.int k x:=by
 cases fuel with
 |zero=>simp[DataW.trod] at h
 |succ fuel =>
  simp only[DataW.trod,ht,h1,hc,Nat.mul_one] at h;split at h
  ·rename_i hl;simp only[Option.map_eq_some_iff,Prod.mk.injEq,DataW.agg.injEq] at h;obtain⟨ys,hm,hx,_⟩:=h;obtain⟨e1,e2⟩:=Iw hm;rw[List.length_range] at e1;have hlen:xs.length=ys.length:=by
    have:=congrArg List.length hx;simpa using this.symm
   refine List.ext_getElem (by rw[List.length_map];omega) fun i k1 k2=>?_;have hy:=e2 i (by rw[List.length_range];omega) (by omega);rw[List.getElem_range,List.drop_eq_getElem_cons k1] at hy;simp only[List.take_succ_cons,List.take_zero] at hy;obtain⟨m,jR,g_⟩:=Q4f he hy;rw[jR,List.getElem_map];have rO:(ys.map (·.1))[i]'(by rw[List.length_map];omega)=(xs.map fun x=>(DataW.lit (Lit.int k x):DataW H))[i]'(by rw[List.length_map];omega):=by
    simp only[hx]
   rw[List.getElem_map,List.getElem_map,g_] at rO;simp only[DataW.lit.injEq,Lit.int.injEq,true_and] at rO;rw[rO]
  ·cases h
theorem tab_heap {P:Program}{nm:String}{g G:Nat}{t e:TypeId}{k:IntKind}{n fuel:Nat}{cs:Array Value}{xs:List Int}{p:List MemPlace}{W:World}(hv:W.var? P nm=some cs) (hG:P.globalNamed nm=some G) (hg:P.globalNamed nm=some g) {T:TypeId}(hT:(P.globals[G]?).map (·.type)=some T) (nL:(P.globals[g]?).map (·.type)=some t)
  (ht:P.underlying T=some (.array n e)) (he:P.underlying e=some (.int k)) (h1:P.cellsOf e=1) (hc:P.cellsOf T=n) (hd:DataW.trod (fun _=>()) P W 0 (fun _=>true) false fuel t cs.toList=some (.agg (xs.map fun x=>.lit (.int k x)),p)):∃ e f,W.heap[G]?=some (.cells (xs.map fun x=>Value.int k x).toArray e f):=by
 obtain rfl:=osj (hG.symm.trans hg);obtain rfl:=osj (hT.symm.trans nL);have hl:=Q4u ht he h1 hc hd;unfold World.var? at hv;rw[hG] at hv;simp only[Option.bind_some] at hv;split at hv
 ·rename_i cs' a b hh;obtain rfl:=osj hv;refine⟨a,b,?_⟩;rw[hh,←hl]
 ·cases hv
def N7:AL (Int×Int×Int):=(.cons (.k (.i .i64)) (.cons (.ptr (.one (.k (.i .i64)))) (.one (.ptr (.one (.k (.i .i64)))))))
def BZ (d:Int×Int×Int):Prop:=True
def Ud (d:Int×Int×Int):SV:=.val .bo (decide (d.1<d.2.1)||decide (d.2.2<d.1))
def Ul (d:Int×Int×Int):List OB:=[]
def Kv:CSp:=Yo N7 BZ Ud Ul
def YM (n:Int) (a:Int) (b:Int):Prop :=
 (((decide (n<a))||(decide (n > b)))=(decide (n<a)||decide (b<n))∧(True))
def N9:Cx:=⟨[],[],13,[],0,[],[],[],[],false,[],[],[],[]⟩
def HK (n:Int) (a:Int) (b:Int):List (Nat×LoopAnn):=[]
theorem HC (d:Int×Int×Int):gwp (N9) (HK d.1 d.2.1 d.2.2) c74 0 (V8 [.tmp 4] (Ud d) (Ul d)) (Qr 13 (AL.can N7 d))=YM d.1 d.2.1 d.2.2:=by kernel_rfl
abbrev Hl:Prop:=OkC Tryz.prog 74 Kv
theorem HE (h:∀ (n:Int) (a:Int) (b:Int),(True)→YM n a b):OkC Tryz.prog 74 Kv :=
 Z8 Z0a mixed (C:=N9) (V:=fun (d:Int×Int×Int)=>YM d.1 d.2.1 d.2.2) ⟨.nil,XsOk.nil,ItsOk.nil,YlOk.nil,IysOk.nil,XfOk.nil⟩ (HC) fun d hp=>h d.1 d.2.1 d.2.2 hp
theorem Hh:Hl:=HE fun n a b _=>by exact⟨rfl,trivial⟩
def XK:AL (List Int×((Int→Prop)×(Int→Bool))):=(.cons (.k (.list (.i .i64))) (.one (.fn [(.i .i64)] .bo)))
def KW (d:List Int×((Int→Prop)×(Int→Bool))):Prop:=d.1.length≤1000000∧∀ x∈d.1,d.2.1 x
def Xq (d:List Int×((Int→Prop)×(Int→Bool))):SV:=.val (.i .i64) (Q3e d.1 d.2.2)
def Xu (d:List Int×((Int→Prop)×(Int→Bool))):List OB:=[]
def Z_:CSp:=Yo XK KW Xq Xu
def Z5 (l:List Int) (p:(Int→Prop)×(Int→Bool)):Prop :=
 ∃ (e2:Unit) (d20:Int),((l=l∧(SV.pf [(.i .i64)] .bo p.1 p.2=SV.pf [(.i .i64)] .bo p.1 p.2)∧(lI l)=(lI l)∧(0:Int)=d20∧True)∧(True)) ∧
 LoopP (fun (d2:Int) (q2:(Int)→Prop) =>
  ((decide (d2<(lI l)))=true →
   (0≤d2)∧(d2<(List.length l))∧(p.1 (gD l d2 0))∧((p.2 (gD l d2 0))=true →
    (d2=(Q3e l p.2)∧(True))) ∧
   ((p.2 (gD l d2 0))=false →
    (I64 (d2+(1:Int)))∧(∃ d3:Int,((l=l∧(SV.pf [(.i .i64)] .bo p.1 p.2=SV.pf [(.i .i64)] .bo p.1 p.2)∧(lI l)=(lI l)∧(d2+(1:Int))=d3∧True)∧(True))∧q2 d3))) ∧
  ((decide (d2<(lI l)))=false →
   ((-1:Int)=(Q3e l p.2)∧(True)))) d20
def XI:Cx:=⟨[],[],19,[],0,[],[],[],[],false,[],[],[],[]⟩
def VP (l:List Int) (p:(Int→Prop)×(Int→Bool)):List (Nat×LoopAnn):=[(0,⟨Unit,Int,[0,1,7,8],fun e x=>[.val (.list (.i .i64)) l,.pf [(.i .i64)] .bo p.1 p.2,.val (.i .i64) (((List.length l):Nat):Int),.val (.i .i64) x],fun e x=>[]⟩)]
theorem Vt (d:List Int×((Int→Prop)×(Int→Bool))):gwp (XI) (VP d.1 d.2) c89 0 (V8 [.tmp 4] (Xq d) (Xu d)) (Qr 19 (AL.can XK d))=Z5 d.1 d.2:=by kernel_rfl
abbrev VW:Prop:=OkC Tryz.prog 89 Z_
theorem Vm (h:∀ (l:List Int) (p:(Int→Prop)×(Int→Bool)),(l.length≤1000000∧∀ x∈l,p.1 x)→Z5 l p):OkC Tryz.prog 89 Z_ :=
 Z8 Q9u mixed (C:=XI) (V:=fun (d:List Int×((Int→Prop)×(Int→Bool)))=>Z5 d.1 d.2) ⟨.nil,XsOk.nil,ItsOk.nil,YlOk.nil,IysOk.nil,XfOk.nil⟩ (Vt) fun d hp=>h d.1 d.2 hp
theorem Q1g {l:List Int}{p:Int→Bool}{k:Nat}(hk:k<l.length) (h:p l[k]=true) (hJ:(l.take k).any p=false):Q3e l p=k:=by
 have:l.findIdx? p=some k:=by rw[List.findIdx?_eq_some_iff_getElem];refine⟨hk,h,fun j hj=>?_⟩;have hn:=List.any_eq_false.1 hJ l[j] (List.mem_take_iff_getElem.2 ⟨j,by omega,rfl⟩);simpa using hn
 simp[Q3e,this]
theorem Q3b {l:List Int}{p:Int→Bool}(hJ:l.any p=false):Q3e l p=-1:=by
 have:l.findIdx? p=none:=by rw[List.findIdx?_eq_none_iff];intro x hx;have:=List.any_eq_false.1 hJ x hx;simpa using this
 simp[Q3e,this]
theorem FA (l:List Int) (p:Int→Bool):decide (Q3e l p≥0)=l.any p:=by
 unfold Q3e;cases h:l.findIdx? p with
 |none =>
  have:=List.findIdx?_eq_none_iff.1 h;have:l.any p=false:=by rw[List.any_eq_false];intro x hx;simp[this x hx]
  rw[this];rfl
 |some i =>obtain⟨h1,h2,_⟩:=List.findIdx?_eq_some_iff_getElem.1 h;rw[List.any_eq_true.2 ⟨l[i],List.getElem_mem h1,h2⟩];simp
theorem VD:VW:=Vm fun l p hp=>by
 unfold Z5;(try delta lI gD sT I64);simp only[true_and,and_true,exists_eq_left',exists_const,decide_eq_true_eq,decide_eq_false_iff_not];refine LoopP.count l.length (fun k=>(l.take k).any p.2=false) (by simp) fun k bn hJ q hq=>?_;simp only[Int.toNat_natCast,Int.ofNat_lt,Qj];refine⟨fun aj=>?_,fun bC=>?_⟩
 ·rw[Q6 aj];refine⟨by omega,aj,hp.2 _ (List.getElem_mem aj),fun hx=>?_,fun hx=>⟨by omega,hq aj ?_⟩⟩
  ·rw[Q1g aj hx hJ]
  ·rw[QX aj,List.any_append,hJ];simp[hx]
 ·rw[List.take_of_length_le (by omega)] at hJ;rw[Q3b hJ]
def JO:AL (List Int×((Int→Prop)×(Int→Bool))):=(.cons (.k (.list (.i .i64))) (.one (.fn [(.i .i64)] .bo)))
def YL (d:List Int×((Int→Prop)×(Int→Bool))):Prop:=d.1.length≤1000000∧∀ x∈d.1,d.2.1 x
def Ju (d:List Int×((Int→Prop)×(Int→Bool))):SV:=.val .bo (d.1.any d.2.2)
def JC (d:List Int×((Int→Prop)×(Int→Bool))):List OB:=[]
def QO:CSp:=Yo JO YL Ju JC
def Zl (l:List Int) (p:(Int→Prop)×(Int→Bool)):Prop :=
 (l.length≤1000000∧∀ x∈l,(fun (x1:Int)=>p.1 x1) x)∧((decide ((Q3e l (fun (x1:Int)=>(p.2 x1)))≥(0:Int)))=(l.any p.2)∧(True))
def JN:Cx:=⟨[],[(89,Z_)],9,[],0,[],[],[],[],false,[],[],[],[]⟩
def K1 (l:List Int) (p:(Int→Prop)×(Int→Bool)):List (Nat×LoopAnn):=[]
theorem Kg (d:List Int×((Int→Prop)×(Int→Bool))):gwp (JN) (K1 d.1 d.2) c61 0 (V8 [.tmp 4] (Ju d) (JC d)) (Qr 9 (AL.can JO d))=Zl d.1 d.2:=by kernel_rfl
abbrev Ka:Prop:=OkC Tryz.prog 61 QO
theorem K2 (h:∀ (l:List Int) (p:(Int→Prop)×(Int→Bool)),(l.length≤1000000∧∀ x∈l,p.1 x)→Zl l p):OkC Tryz.prog 61 QO :=
 Z8 Z0s mixed (C:=JN) (V:=fun (d:List Int×((Int→Prop)×(Int→Bool)))=>Zl d.1 d.2) ⟨(.cons VD .nil),XsOk.nil,ItsOk.nil,YlOk.nil,IysOk.nil,XfOk.nil⟩ (Kg) fun d hp=>h d.1 d.2 hp
theorem JH:Ka:=K2 fun l p hp=>by exact⟨hp,FA l p.2,trivial⟩
def MB:AL (Int×Int×List Int):=(.cons (.k (.i .i64)) (.cons (.k (.i .i64)) (.one (.k (.list (.i .i64))))))
def Pz (d:Int×Int×List Int):Prop:=d.2.2.length≤1000000
def N_ (d:Int×Int×List Int):SV:=.val .bo (!(d.2.2.any fun n=>decide (n<d.1)||decide (d.2.1<n)))
def M6 (d:Int×Int×List Int):List OB:=[]
def Xf:CSp:=Yo MB Pz N_ M6
def VQ (a:Int) (b:Int) (l:List Int):Prop :=
 (l.length≤1000000∧∀ x∈l,(fun (x1:Int)=>True) x)∧((!(l.any (fun (x1:Int)=>(decide (x1<a)||decide (b<x1)))))=(!(l.any fun n=>decide (n<a)||decide (b<n)))∧(True))
def MX:Cx:=⟨[],[(61,QO),(74,Kv)],11,[],0,[],[],[],[],false,[],[],[],[]⟩
def Tr (a:Int) (b:Int) (l:List Int):List (Nat×LoopAnn):=[]
theorem TI (d:Int×Int×List Int):gwp (MX) (Tr d.1 d.2.1 d.2.2) c46 0 (V8 [.tmp 6] (N_ d) (M6 d)) (Qr 11 (AL.can MB d))=VQ d.1 d.2.1 d.2.2:=by kernel_rfl
abbrev RU:Prop:=OkC Tryz.prog 46 Xf
theorem Th (h:∀ (a:Int) (b:Int) (l:List Int),(l.length≤1000000)→VQ a b l):OkC Tryz.prog 46 Xf :=
 Z8 Q94 mixed (C:=MX) (V:=fun (d:Int×Int×List Int)=>VQ d.1 d.2.1 d.2.2) ⟨(.cons JH (.cons Hh .nil)),XsOk.nil,ItsOk.nil,YlOk.nil,IysOk.nil,XfOk.nil⟩ (TI) fun d hp=>h d.1 d.2.1 d.2.2 hp
theorem Y5:RU:=Th fun a b l h=>by exact⟨⟨h,fun _ _=>trivial⟩,rfl,trivial⟩
abbrev Lot:=Int×(Int×Int)×Int
def Xh:Lot:=(0,((0,0),0))
def Zi (x:Lot):Bool:=inI x.1 0 9&&(inI x.2.1.1 0 1000&&inI x.2.1.2 0 1000)&&decide (x.2.1.1≤x.2.1.2)&&inI x.2.2 1 1000000
def QF (l:List Lot):Int:=if 12<l.length then 5 else if l.any (fun x=>!Zi x) then 2 else 0
def Fe (a b:Lot):Int:=Ce (a.2.1.2-b.2.1.1) (b.2.1.2-a.2.1.1)
def Z1i (s:Int×Int×Int×Int) (y:Lot):Int×Int×Int×Int:=(Ce s.1 y.2.1.1,My s.2.1 y.2.1.2,My s.2.2.1 y.2.1.1,Ce s.2.2.2 y.2.1.2)
def M9 (l:List Lot) (k:Nat):Int×Int×Int×Int:=(l.take k).foldl Z1i ((l.getD 0 Xh).2.1.1,(l.getD 0 Xh).2.1.2,(l.getD 0 Xh).2.1.1,(l.getD 0 Xh).2.1.2)
def Q5h (l:List Lot):Sp:=(Ce 0 ((M9 l l.length).1-(M9 l l.length).2.1),(M9 l l.length).2.2.2-(M9 l l.length).2.2.1)
def UN (l:List Lot) (sm:List Int):List Lot:=sm.map fun i=>l.getD i.toNat Xh
theorem Bp {x:Lot}:Zi x=true↔(0≤x.1∧x.1≤9)∧(0≤x.2.1.1∧x.2.1.1≤1000)∧(0≤x.2.1.2∧x.2.1.2≤1000)∧x.2.1.1≤x.2.1.2∧1≤x.2.2∧x.2.2≤1000000:=by simp only[Zi,inI,Bool.and_eq_true,decide_eq_true_eq];omega
theorem Ia {l:List Lot}(h:l≠[]):M9 l 1=((l.getD 0 Xh).2.1.1,(l.getD 0 Xh).2.1.2,(l.getD 0 Xh).2.1.1,(l.getD 0 Xh).2.1.2):=by
 cases l with
 |nil=>exact(h rfl).elim
 |cons x l =>
  have g:∀ a:Int,Ce a a=a:=fun a=>by rw[Nl];omega
  have m:∀ a:Int,My a a=a:=fun a=>by rw[LO];omega
  simp[M9,Z1i,g,m]
theorem E7 {l:List Lot}{k:Nat}(h:k<l.length):M9 l (k+1)=Z1i (M9 l k) l[k]:=by unfold M9;rw[QX h,List.foldl_append];rfl
theorem S2 {l:List Lot}(h:l≠[]):∀ k,1≤k→k≤l.length →
  (∀ i,i<k→(l.getD i Xh).2.1.1≤(M9 l k).1∧(M9 l k).2.1≤(l.getD i Xh).2.1.2∧(M9 l k).2.2.1≤(l.getD i Xh).2.1.1∧(l.getD i Xh).2.1.2≤(M9 l k).2.2.2) ∧
  (∃ i,i<k∧(M9 l k).1=(l.getD i Xh).2.1.1)∧(∃ i,i<k∧(M9 l k).2.1=(l.getD i Xh).2.1.2)∧(∃ i,i<k∧(M9 l k).2.2.1=(l.getD i Xh).2.1.1)∧∃ i,i<k∧(M9 l k).2.2.2=(l.getD i Xh).2.1.2
 |0,h1,_=>by omega
 |1,_,_=>by
  rw[Ia h];refine⟨fun i hi=>?_,⟨0,by omega,rfl⟩,⟨0,by omega,rfl⟩,⟨0,by omega,rfl⟩,⟨0,by omega,rfl⟩⟩;have:i=0:=by omega
  subst this;exact⟨Int.le_refl _,Int.le_refl _,Int.le_refl _,Int.le_refl _⟩
 |k+2,_,hk=>by
  obtain⟨a,⟨i1,b1,c1⟩,⟨i2,b2,c2⟩,⟨i3,b3,c3⟩,⟨i4,b4,c4⟩⟩:=S2 h (k+1) (by omega) (by omega);rw[E7 (show k+1<l.length by omega)];have bn:l.getD (k+1) Xh=l[k+1]:=Q6 (by omega);have e1:=Nl (M9 l (k+1)).1 l[k+1].2.1.1;have e2:=LO (M9 l (k+1)).2.1 l[k+1].2.1.2;have e3:=LO (M9 l (k+1)).2.2.1 l[k+1].2.1.1;have e4:=Nl (M9 l (k+1)).2.2.2 l[k+1].2.1.2;unfold Z1i;dsimp only;refine⟨fun i hi=>?_,?_,?_,?_,?_⟩
  ·by_cases h5:i=k+1
   ·subst h5;rw[bn];omega
   ·have:=a i (by omega);omega
  ·by_cases h5:(M9 l (k+1)).1≤l[k+1].2.1.1
   ·exact⟨k+1,by omega,by rw[bn];omega⟩
   ·exact⟨i1,by omega,by omega⟩
  ·by_cases h5:l[k+1].2.1.2≤(M9 l (k+1)).2.1
   ·exact⟨k+1,by omega,by rw[bn];omega⟩
   ·exact⟨i2,by omega,by omega⟩
  ·by_cases h5:l[k+1].2.1.1≤(M9 l (k+1)).2.2.1
   ·exact⟨k+1,by omega,by rw[bn];omega⟩
   ·exact⟨i3,by omega,by omega⟩
  ·by_cases h5:(M9 l (k+1)).2.2.2≤l[k+1].2.1.2
   ·exact⟨k+1,by omega,by rw[bn];omega⟩
   ·exact⟨i4,by omega,by omega⟩
def D6:AL (Int×Int×Int×Int):=(.one (.agg (.cons (.k (.i .i64)) (.cons (.k (.i .i64)) (.cons (.k (.i .i64)) (.one (.k (.i .i64))))))))
def RM (d:Int×Int×Int×Int):Prop:=True
def Gj (d:Int×Int×Int×Int):SV:=.val .bo (Zi (d.1,(d.2.1,d.2.2.1),d.2.2.2))
def G2 (d:Int×Int×Int×Int):List OB:=[]
def NF:CSp:=Yo D6 RM Gj G2
def YU (lc:Int) (lo:Int) (hi:Int) (lg:Int):Prop :=
 ([lc].length≤1000000)∧((!([lc].any fun n=>decide (n<(0:Int))||decide ((9:Int)<n)))=true→True)∧((!([lc].any fun n=>decide (n<(0:Int))||decide ((9:Int)<n)))=true→[lo,hi].length≤1000000)∧((((!([lc].any fun n=>decide (n<(0:Int))||decide ((9:Int)<n)))&&(!([lo,hi].any fun n=>decide (n<(0:Int))||decide ((1000:Int)<n))))&&(decide (lo≤hi)))=true→True)∧((((!([lc].any fun n=>decide (n<(0:Int))||decide ((9:Int)<n)))&&(!([lo,hi].any fun n=>decide (n<(0:Int))||decide ((1000:Int)<n))))&&(decide (lo≤hi)))=true→[lg].length≤1000000)∧(((((!([lc].any fun n=>decide (n<(0:Int))||decide ((9:Int)<n)))&&(!([lo,hi].any fun n=>decide (n<(0:Int))||decide ((1000:Int)<n))))&&(decide (lo≤hi)))&&(!([lg].any fun n=>decide (n<(1:Int))||decide ((1000000:Int)<n))))=(Zi (lc,(lo,hi),lg))∧(True))
def G_:Cx:=⟨[(3,(.i .i64))],[(46,Xf)],32,[],0,[],[],[],[],false,[],[],[],[]⟩
def SU (lc:Int) (lo:Int) (hi:Int) (lg:Int):List (Nat×LoopAnn):=[]
theorem SL (d:Int×Int×Int×Int):gwp (G_) (SU d.1 d.2.1 d.2.2.1 d.2.2.2) c73 0 (V8 [.tmp 2] (Gj d) (G2 d)) (Qr 32 (AL.can D6 d))=YU d.1 d.2.1 d.2.2.1 d.2.2.2:=by kernel_rfl
abbrev SK:Prop:=OkC Tryz.prog 73 NF
theorem Sc (h:∀ (lc:Int) (lo:Int) (hi:Int) (lg:Int),(True)→YU lc lo hi lg):OkC Tryz.prog 73 NF :=
 Z8 Z0g mixed (C:=G_) (V:=fun (d:Int×Int×Int×Int)=>YU d.1 d.2.1 d.2.2.1 d.2.2.2) ⟨(.cons Y5 .nil),XsOk.nil,ItsOk.nil,YlOk.nil,IysOk.nil,XfOk.nil⟩ (SL) fun d hp=>h d.1 d.2.1 d.2.2.1 d.2.2.2 hp
theorem Se:SK:=Sc fun lc lo hi lg _=>by unfold YU;(try delta lI gD sT I64);have e:∀ n a b:Int,(decide (n<a)||decide (b<n))=!inI n a b:=fun n a b=>(nIb n a b).symm;simp only[List.any_cons,List.any_nil,Bool.or_false,e,Bool.not_not,List.length_cons,List.length_nil,Bool.not_or];refine⟨by omega,fun _=>trivial,fun _=>by omega,fun _=>trivial,fun _=>by omega,?_⟩;and_intros<;>first|rfl|trivial
def NS:AL (Int×Int×Int×Int):=(.one (.agg (.cons (.k (.i .i64)) (.cons (.k (.i .i64)) (.cons (.k (.i .i64)) (.one (.k (.i .i64))))))))
def HJ (d:Int×Int×Int×Int):Prop:=True
def UZ (d:Int×Int×Int×Int):SV:=.val .bo (!Zi (d.1,(d.2.1,d.2.2.1),d.2.2.2))
def UX (d:Int×Int×Int×Int):List OB:=[]
def Vj:CSp:=Yo NS HJ UZ UX
def Wn (lc:Int) (lo:Int) (hi:Int) (lg:Int):Prop :=
 (True)∧((!(Zi (lc,(lo,hi),lg)))=(!Zi (lc,(lo,hi),lg))∧(True))
def M3:Cx:=⟨[],[(73,NF)],6,[],0,[],[],[],[],false,[],[],[],[]⟩
def Pu (lc:Int) (lo:Int) (hi:Int) (lg:Int):List (Nat×LoopAnn):=[]
theorem PJ (d:Int×Int×Int×Int):gwp (M3) (Pu d.1 d.2.1 d.2.2.1 d.2.2.2) c72 0 (V8 [.tmp 2] (UZ d) (UX d)) (Qr 6 (AL.can NS d))=Wn d.1 d.2.1 d.2.2.1 d.2.2.2:=by kernel_rfl
abbrev Pw:Prop:=OkC Tryz.prog 72 Vj
theorem PU (h:∀ (lc:Int) (lo:Int) (hi:Int) (lg:Int),(True)→Wn lc lo hi lg):OkC Tryz.prog 72 Vj :=
 Z8 Q96 mixed (C:=M3) (V:=fun (d:Int×Int×Int×Int)=>Wn d.1 d.2.1 d.2.2.1 d.2.2.2) ⟨(.cons Se .nil),XsOk.nil,ItsOk.nil,YlOk.nil,IysOk.nil,XfOk.nil⟩ (PJ) fun d hp=>h d.1 d.2.1 d.2.2.1 d.2.2.2 hp
theorem P_:Pw:=PU fun lc lo hi lg _=>by unfold Wn;(try delta lI gD sT I64);and_intros<;>first|rfl|trivial
def QW:AL ((List (Int×(Int×Int)×Int))×((Int×(Int×Int)×Int→Prop)×(Int×(Int×Int)×Int→Bool))):=(.cons (.k (.list (.pair (.i .i64) (.pair (.pair (.i .i64) (.i .i64)) (.i .i64))))) (.one (.fn [(.pair (.i .i64) (.pair (.pair (.i .i64) (.i .i64)) (.i .i64)))] .bo)))
def Ji (d:(List (Int×(Int×Int)×Int))×((Int×(Int×Int)×Int→Prop)×(Int×(Int×Int)×Int→Bool))):Prop:=d.1.length≤1000000∧∀ x∈d.1,d.2.1 x
def QT (d:(List (Int×(Int×Int)×Int))×((Int×(Int×Int)×Int→Prop)×(Int×(Int×Int)×Int→Bool))):SV:=.val (.i .i64) (FE d.1 d.2.2)
def QQ (d:(List (Int×(Int×Int)×Int))×((Int×(Int×Int)×Int→Prop)×(Int×(Int×Int)×Int→Bool))):List OB:=[]
def Qs:CSp:=Yo QW Ji QT QQ
def Qe (l:List (Int×(Int×Int)×Int)) (p:(Int×(Int×Int)×Int→Prop)×(Int×(Int×Int)×Int→Bool)):Prop :=
 ∃ (e2:Unit) (d20:Int),((l=l∧(SV.pf [(.pair (.i .i64) (.pair (.pair (.i .i64) (.i .i64)) (.i .i64)))] .bo p.1 p.2=SV.pf [(.pair (.i .i64) (.pair (.pair (.i .i64) (.i .i64)) (.i .i64)))] .bo p.1 p.2)∧(lI l)=(lI l)∧(0:Int)=d20∧True)∧(True)) ∧
 LoopP (fun (d2:Int) (q2:(Int)→Prop) =>
  ((decide (d2<(lI l)))=true →
   (0≤d2)∧(d2<(List.length l))∧(p.1 ((gD l d2 (0,((0,0),0))).1,(((gD l d2 (0,((0,0),0))).2.1.1,(gD l d2 (0,((0,0),0))).2.1.2),(gD l d2 (0,((0,0),0))).2.2)))∧((p.2 ((gD l d2 (0,((0,0),0))).1,(((gD l d2 (0,((0,0),0))).2.1.1,(gD l d2 (0,((0,0),0))).2.1.2),(gD l d2 (0,((0,0),0))).2.2)))=true →
    (d2=(FE l p.2)∧(True))) ∧
   ((p.2 ((gD l d2 (0,((0,0),0))).1,(((gD l d2 (0,((0,0),0))).2.1.1,(gD l d2 (0,((0,0),0))).2.1.2),(gD l d2 (0,((0,0),0))).2.2)))=false →
    (I64 (d2+(1:Int)))∧(∃ d3:Int,((l=l∧(SV.pf [(.pair (.i .i64) (.pair (.pair (.i .i64) (.i .i64)) (.i .i64)))] .bo p.1 p.2=SV.pf [(.pair (.i .i64) (.pair (.pair (.i .i64) (.i .i64)) (.i .i64)))] .bo p.1 p.2)∧(lI l)=(lI l)∧(d2+(1:Int))=d3∧True)∧(True))∧q2 d3))) ∧
  ((decide (d2<(lI l)))=false →
   ((-1:Int)=(FE l p.2)∧(True)))) d20
def QY:Cx:=⟨[],[],19,[],0,[],[],[],[],false,[],[],[],[]⟩
def Jv (l:List (Int×(Int×Int)×Int)) (p:(Int×(Int×Int)×Int→Prop)×(Int×(Int×Int)×Int→Bool)):List (Nat×LoopAnn):=[(0,⟨Unit,Int,[0,1,7,8],fun e x=>[.val (.list (.pair (.i .i64) (.pair (.pair (.i .i64) (.i .i64)) (.i .i64)))) l,.pf [(.pair (.i .i64) (.pair (.pair (.i .i64) (.i .i64)) (.i .i64)))] .bo p.1 p.2,.val (.i .i64) (((List.length l):Nat):Int),.val (.i .i64) x],fun e x=>[]⟩)]
theorem Jy (d:(List (Int×(Int×Int)×Int))×((Int×(Int×Int)×Int→Prop)×(Int×(Int×Int)×Int→Bool))):gwp (QY) (Jv d.1 d.2) c97 0 (V8 [.tmp 4] (QT d) (QQ d)) (Qr 19 (AL.can QW d))=Qe d.1 d.2:=by kernel_rfl
abbrev Jt:Prop:=OkC Tryz.prog 97 Qs
theorem Jx (h:∀ (l:List (Int×(Int×Int)×Int)) (p:(Int×(Int×Int)×Int→Prop)×(Int×(Int×Int)×Int→Bool)),(l.length≤1000000∧∀ x∈l,p.1 x)→Qe l p):OkC Tryz.prog 97 Qs :=
 Z8 Q8d mixed (C:=QY) (V:=fun (d:(List (Int×(Int×Int)×Int))×((Int×(Int×Int)×Int→Prop)×(Int×(Int×Int)×Int→Bool)))=>Qe d.1 d.2) ⟨.nil,XsOk.nil,ItsOk.nil,YlOk.nil,IysOk.nil,XfOk.nil⟩ (Jy) fun d hp=>h d.1 d.2 hp
theorem Jw:Jt:=Jx fun l p hp=>by
 unfold Qe;(try delta lI gD sT I64);simp only[true_and,and_true,exists_eq_left',exists_const,decide_eq_true_eq,decide_eq_false_iff_not];refine LoopP.count l.length (fun k=>(l.take k).any p.2=false) (by simp) fun k bn hJ q hq=>?_;simp only[Int.toNat_natCast,Int.ofNat_lt,Qj];refine⟨fun aj=>?_,fun bC=>?_⟩
 ·have aj:k<l.length:=by omega
  rw[Q6 aj];refine⟨by omega,by omega,hp.2 _ (List.getElem_mem aj),fun hx=>?_,fun hx=>⟨by omega,hq aj ?_⟩⟩
  ·rw[Aa aj hx hJ]
  ·rw[QX aj,List.any_append,hJ];simp[hx]
 ·rw[List.take_of_length_le (by omega)] at hJ;rw[Rv hJ]
def QK:AL ((List (Int×(Int×Int)×Int))×((Int×(Int×Int)×Int→Prop)×(Int×(Int×Int)×Int→Bool))):=(.cons (.k (.list (.pair (.i .i64) (.pair (.pair (.i .i64) (.i .i64)) (.i .i64))))) (.one (.fn [(.pair (.i .i64) (.pair (.pair (.i .i64) (.i .i64)) (.i .i64)))] .bo)))
def ZX (d:(List (Int×(Int×Int)×Int))×((Int×(Int×Int)×Int→Prop)×(Int×(Int×Int)×Int→Bool))):Prop:=d.1.length≤1000000∧∀ x∈d.1,d.2.1 x
def QC (d:(List (Int×(Int×Int)×Int))×((Int×(Int×Int)×Int→Prop)×(Int×(Int×Int)×Int→Bool))):SV:=.val .bo (d.1.any d.2.2)
def QD (d:(List (Int×(Int×Int)×Int))×((Int×(Int×Int)×Int→Prop)×(Int×(Int×Int)×Int→Bool))):List OB:=[]
def Qa:CSp:=Yo QK ZX QC QD
def Q9 (l:List (Int×(Int×Int)×Int)) (p:(Int×(Int×Int)×Int→Prop)×(Int×(Int×Int)×Int→Bool)):Prop :=
 (l.length≤1000000∧∀ x∈l,(fun (x1:Int×(Int×Int)×Int)=>p.1 (x1.1,((x1.2.1.1,x1.2.1.2),x1.2.2))) x)∧((decide ((FE l (fun (x1:Int×(Int×Int)×Int)=>(p.2 (x1.1,((x1.2.1.1,x1.2.1.2),x1.2.2)))))≥(0:Int)))=(l.any p.2)∧(True))
def QI:Cx:=⟨[],[(97,Qs)],9,[],0,[],[],[],[],false,[],[],[],[]⟩
def J2 (l:List (Int×(Int×Int)×Int)) (p:(Int×(Int×Int)×Int→Prop)×(Int×(Int×Int)×Int→Bool)):List (Nat×LoopAnn):=[]
theorem J7 (d:(List (Int×(Int×Int)×Int))×((Int×(Int×Int)×Int→Prop)×(Int×(Int×Int)×Int→Bool))):gwp (QI) (J2 d.1 d.2) c71 0 (V8 [.tmp 4] (QC d) (QD d)) (Qr 9 (AL.can QK d))=Q9 d.1 d.2:=by kernel_rfl
abbrev J8:Prop:=OkC Tryz.prog 71 Qa
theorem J0 (h:∀ (l:List (Int×(Int×Int)×Int)) (p:(Int×(Int×Int)×Int→Prop)×(Int×(Int×Int)×Int→Bool)),(l.length≤1000000∧∀ x∈l,p.1 x)→Q9 l p):OkC Tryz.prog 71 Qa :=
 Z8 Q80 mixed (C:=QI) (V:=fun (d:(List (Int×(Int×Int)×Int))×((Int×(Int×Int)×Int→Prop)×(Int×(Int×Int)×Int→Bool)))=>Q9 d.1 d.2) ⟨(.cons Jw .nil),XsOk.nil,ItsOk.nil,YlOk.nil,IysOk.nil,XfOk.nil⟩ (J7) fun d hp=>h d.1 d.2 hp
theorem QH:J8:=J0 fun l p hp=>by simp only[Q9];exact⟨hp,Ix l p.2,trivial⟩
def Da:AL (List (Int×(Int×Int)×Int)):=(.one (.k (.list (.pair (.i .i64) (.pair (.pair (.i .i64) (.i .i64)) (.i .i64))))))
def TB (d:List (Int×(Int×Int)×Int)):Prop:=d.length≤1000
def Gb (d:List (Int×(Int×Int)×Int)):SV:=.val (.i .i64) (QF d)
def Gh (d:List (Int×(Int×Int)×Int)):List OB:=[]
def Ye:CSp:=Yo Da TB Gb Gh
def YW (l:List (Int×(Int×Int)×Int)):Prop :=
 ((decide ((lI l) > (12:Int)))=true →
  ((5:Int)=(QF l)∧(True))) ∧
 ((decide ((lI l) > (12:Int)))=false →
  (l.length≤1000000∧∀ x∈l,(fun (x1:Int×(Int×Int)×Int)=>True) x)∧((l.any (fun (x1:Int×(Int×Int)×Int)=>(!Zi (x1.1,(x1.2.1.1,x1.2.1.2),x1.2.2))))=true →
   ((2:Int)=(QF l)∧(True))) ∧
  ((l.any (fun (x1:Int×(Int×Int)×Int)=>(!Zi (x1.1,(x1.2.1.1,x1.2.1.2),x1.2.2))))=false →
   ((0:Int)=(QF l)∧(True))))
def Di:Cx:=⟨[],[(71,Qa),(72,Vj)],10,[],0,[],[],[],[],false,[],[],[],[]⟩
def S8 (l:List (Int×(Int×Int)×Int)):List (Nat×LoopAnn):=[]
theorem Sz (d:List (Int×(Int×Int)×Int)):gwp (Di) (S8 d) c45 0 (V8 [.tmp 2] (Gb d) (Gh d)) (Qr 10 (AL.can Da d))=YW d:=by kernel_rfl
abbrev Sv:Prop:=OkC Tryz.prog 45 Ye
theorem Sn (h:∀ (l:List (Int×(Int×Int)×Int)),(l.length≤1000)→YW l):OkC Tryz.prog 45 Ye :=
 Z8 Q8w mixed (C:=Di) (V:=fun (d:List (Int×(Int×Int)×Int))=>YW d) ⟨(.cons QH (.cons P_ .nil)),XsOk.nil,ItsOk.nil,YlOk.nil,IysOk.nil,XfOk.nil⟩ (Sz) fun d hp=>h d hp
theorem UF:Sv:=Sn fun l hl=>by
 unfold YW;(try delta lI gD sT I64)
 (try simp only[decide_eq_true_eq,decide_eq_false_iff_not])
 refine⟨fun h1=>⟨?_,trivial⟩,fun h1=>⟨⟨by omega,fun _ _=>trivial⟩,fun h2=>⟨?_,trivial⟩,fun h2=>⟨?_,trivial⟩⟩⟩
 ·unfold QF;rw[if_pos (by omega)]
 ·unfold QF;rw[if_neg (by omega),if_pos h2]
 ·unfold QF;rw[if_neg (by omega),if_neg (by rw[show (l.any fun x=>!Zi x)=false from h2];decide)]
def Gn:AL (List (Int×(Int×Int)×Int)):=(.one (.k (.list (.pair (.i .i64) (.pair (.pair (.i .i64) (.i .i64)) (.i .i64))))))
def Pv (d:List (Int×(Int×Int)×Int)):Prop:=d≠[]∧d.length≤1000∧∀ x∈d,Zi x=true
def NT (d:List (Int×(Int×Int)×Int)):SV:=.agg [.val (.i .i64) ((Q5h d).1),.val (.i .i64) ((Q5h d).2)]
def Ma (d:List (Int×(Int×Int)×Int)):List OB:=[]
def UA:CSp:=Yo Gn Pv NT Ma
def Yh (l:List (Int×(Int×Int)×Int)):Prop :=
 (0≤(0:Int))∧((0:Int)<(List.length l))∧(0≤(0:Int))∧((0:Int)<(List.length l))∧((l=l∧True∧True∧True∧((gD l (0:Int) (0,((0,0),0))).2.1.1=(gD l (0:Int) (0,((0,0),0))).2.1.1∧(gD l (0:Int) (0,((0,0),0))).2.1.2=(gD l (0:Int) (0,((0,0),0))).2.1.2∧(([]:List SV)=[]))∧True)∧(((0:Int)=(0:Int)∧(0:Int)=(0:Int)∧(([]:List SV)=[]))∧((gD l (0:Int) (0,((0,0),0))).2.1.1=(gD l (0:Int) (0,((0,0),0))).2.1.1∧(gD l (0:Int) (0,((0,0),0))).2.1.2=(gD l (0:Int) (0,((0,0),0))).2.1.2∧(([]:List SV)=[]))∧((0:Int)=(0:Int)∧(0:Int)=(0:Int)∧(([]:List SV)=[]))∧True))∧((0≤(0:Int))∧((0:Int)<(List.length l))∧(0≤(0:Int))∧((0:Int)<(List.length l))∧((l=l∧True∧True∧True∧((gD l (0:Int) (0,((0,0),0))).2.1.1=(gD l (0:Int) (0,((0,0),0))).2.1.1∧(gD l (0:Int) (0,((0,0),0))).2.1.2=(gD l (0:Int) (0,((0,0),0))).2.1.2∧(([]:List SV)=[]))∧True)∧(((0:Int)=(0:Int)∧(0:Int)=(0:Int)∧(([]:List SV)=[]))∧((gD l (0:Int) (0,((0,0),0))).2.1.1=(gD l (0:Int) (0,((0,0),0))).2.1.1∧(gD l (0:Int) (0,((0,0),0))).2.1.2=(gD l (0:Int) (0,((0,0),0))).2.1.2∧(([]:List SV)=[]))∧((0:Int)=(0:Int)∧(0:Int)=(0:Int)∧(([]:List SV)=[]))∧True)))∧(0≤(1:Int))∧((1:Int)≤(lI l))∧((lI l)≤(List.length l))∧∃ (e3:Unit) (d30:Int×Int×Int×Int×Int),((True∧True∧True∧(List.take (Int.toNat ((lI l)-(1:Int))) (List.drop (Int.toNat (1:Int)) l))=(List.take (Int.toNat ((lI l)-(1:Int))) (List.drop (Int.toNat (1:Int)) l))∧(lI (List.take (Int.toNat ((lI l)-(1:Int))) (List.drop (Int.toNat (1:Int)) l)))=(lI (List.take (Int.toNat ((lI l)-(1:Int))) (List.drop (Int.toNat (1:Int)) l)))∧(0:Int)=d30.2.2.2.2∧True)∧(((0:Int)=(0:Int)∧(0:Int)=(0:Int)∧(([]:List SV)=[]))∧((gD l (0:Int) (0,((0,0),0))).2.1.1=d30.1∧(gD l (0:Int) (0,((0,0),0))).2.1.2=d30.2.1∧(([]:List SV)=[]))∧((gD l (0:Int) (0,((0,0),0))).2.1.1=d30.2.2.1∧(gD l (0:Int) (0,((0,0),0))).2.1.2=d30.2.2.2.1∧(([]:List SV)=[]))∧True)) ∧
 LoopP (fun (d3:Int×Int×Int×Int×Int) (q3:(Int×Int×Int×Int×Int)→Prop) =>
  ((decide (d3.2.2.2.2<(lI (List.take (Int.toNat ((lI l)-(1:Int))) (List.drop (Int.toNat (1:Int)) l)))))=true →
   (0≤d3.2.2.2.2)∧(d3.2.2.2.2<(List.length (List.take (Int.toNat ((lI l)-(1:Int))) (List.drop (Int.toNat (1:Int)) l))))∧(I64 (d3.2.2.2.2+(1:Int)))∧(∃ d4:Int×Int×Int×Int×Int,((True∧True∧True∧(List.take (Int.toNat ((lI l)-(1:Int))) (List.drop (Int.toNat (1:Int)) l))=(List.take (Int.toNat ((lI l)-(1:Int))) (List.drop (Int.toNat (1:Int)) l))∧(lI (List.take (Int.toNat ((lI l)-(1:Int))) (List.drop (Int.toNat (1:Int)) l)))=(lI (List.take (Int.toNat ((lI l)-(1:Int))) (List.drop (Int.toNat (1:Int)) l)))∧(d3.2.2.2.2+(1:Int))=d4.2.2.2.2∧True)∧(((0:Int)=(0:Int)∧(0:Int)=(0:Int)∧(([]:List SV)=[]))∧((Ce d3.1 (gD (List.take (Int.toNat ((lI l)-(1:Int))) (List.drop (Int.toNat (1:Int)) l)) d3.2.2.2.2 (0,((0,0),0))).2.1.1)=d4.1∧(My d3.2.1 (gD (List.take (Int.toNat ((lI l)-(1:Int))) (List.drop (Int.toNat (1:Int)) l)) d3.2.2.2.2 (0,((0,0),0))).2.1.2)=d4.2.1∧(([]:List SV)=[]))∧((My d3.2.2.1 (gD (List.take (Int.toNat ((lI l)-(1:Int))) (List.drop (Int.toNat (1:Int)) l)) d3.2.2.2.2 (0,((0,0),0))).2.1.1)=d4.2.2.1∧(Ce d3.2.2.2.1 (gD (List.take (Int.toNat ((lI l)-(1:Int))) (List.drop (Int.toNat (1:Int)) l)) d3.2.2.2.2 (0,((0,0),0))).2.1.2)=d4.2.2.2.1∧(([]:List SV)=[]))∧True))∧q3 d4)) ∧
  ((decide (d3.2.2.2.2<(lI (List.take (Int.toNat ((lI l)-(1:Int))) (List.drop (Int.toNat (1:Int)) l)))))=false →
   (I64 (d3.1-d3.2.1))∧(I64 (d3.2.2.2.1-d3.2.2.1))∧(((Ce (0:Int) (d3.1-d3.2.1))=((Q5h l).1)∧(d3.2.2.2.1-d3.2.2.1)=((Q5h l).2)∧(([]:List SV)=[]))∧(True)))) d30
def Ms:Cx:=⟨[],[],61,[],0,[],[],[],[0,2,3,4,14],false,[],[],[],[]⟩
def RJ (l:List (Int×(Int×Int)×Int)):List (Nat×LoopAnn):=[(0,⟨Unit,Int×Int×Int×Int×Int,[2,3,4,16,17,18],fun e x=>[.box 2 0,.box 3 0,.box 4 0,.val (.list (.pair (.i .i64) (.pair (.pair (.i .i64) (.i .i64)) (.i .i64)))) (List.take (Int.toNat ((((List.length l):Nat):Int)-(1:Int))) (List.drop (Int.toNat (1:Int)) l)),.val (.i .i64) (((List.length (List.take (Int.toNat ((((List.length l):Nat):Int)-(1:Int))) (List.drop (Int.toNat (1:Int)) l))):Nat):Int),.val (.i .i64) x.2.2.2.2],fun e x=>[(2,.slot 2,.cells [.val (.i .i64) (0:Int),.val (.i .i64) (0:Int)] (some 37)),(3,.slot 3,.cells [.val (.i .i64) x.1,.val (.i .i64) x.2.1] (some 37)),(4,.slot 4,.cells [.val (.i .i64) x.2.2.1,.val (.i .i64) x.2.2.2.1] (some 37))]⟩)]
theorem RF (d:List (Int×(Int×Int)×Int)):gwp (Ms) (RJ d) c76 0 (V8 [.cell 2 true 2] (NT d) (Ma d)) (Qr 61 (AL.can Gn d))=Yh d:=by kernel_rfl
abbrev Rx:Prop:=OkC Tryz.prog 76 UA
theorem R9 (h:∀ (l:List (Int×(Int×Int)×Int)),(l≠[]∧l.length≤1000∧∀ x∈l,Zi x=true)→Yh l):OkC Tryz.prog 76 UA :=
 Z8 Q83 mixed (C:=Ms) (V:=fun (d:List (Int×(Int×Int)×Int))=>Yh d) ⟨.nil,XsOk.nil,ItsOk.nil,YlOk.nil,IysOk.nil,XfOk.nil⟩ (RF) fun d hp=>h d hp
theorem Rg:Rx:=R9 fun l h=>by
 obtain⟨h1,h2,h3⟩:=h;have hp:1≤l.length:=List.length_pos_iff.2 h1;unfold Yh;(try delta lI gD sT I64);simp only[decide_eq_true_eq,decide_eq_false_iff_not];have hM:List.take ((l.length:Int)-1).toNat (List.drop (Int.toNat 1) l)=l.drop 1:=List.take_of_length_le (by rw[List.length_drop];show l.length-1≤_;omega);have wu:(l.drop 1).length=l.length-1:=List.length_drop ..;have dg:∀ k,k+1<l.length→(l.drop 1).getD k (0,((0,0),0))=l[k+1]?.getD Xh:=fun k hk=>by rw[Q6 (by omega),List.getElem_drop,List.getElem?_eq_getElem hk];simp only[Option.getD_some,Nat.add_comm]
 have h0:l.getD (Int.toNat 0) (0,((0,0),0))=l.getD 0 Xh:=rfl;have s1:=Ia h1;rw[hM,h0];refine⟨by omega,by omega,by omega,by omega,(by and_intros<;>first|rfl|trivial|simp),⟨by omega,by omega,by omega,by omega,(by and_intros<;>first|rfl|trivial|simp)⟩,by omega,by omega,by omega,(),((M9 l 1).1,(M9 l 1).2.1,(M9 l 1).2.2.1,(M9 l 1).2.2.2,0),by rw[s1];exact(by and_intros<;>first|rfl|trivial|simp),?_⟩;refine⟨fun d=>∃ k:Nat,k+1≤l.length∧d=((M9 l (k+1)).1,(M9 l (k+1)).2.1,(M9 l (k+1)).2.2.1,(M9 l (k+1)).2.2.2,(k:Int)),fun d=>l.length-d.2.2.2.2.toNat,⟨0,hp,rfl⟩,?_⟩;rintro _ ⟨k,hk,rfl⟩;dsimp only;simp only[Int.toNat_natCast,wu];refine⟨fun aj=>?_,fun bC=>?_⟩
 ·have bn:k+1<l.length:=by omega
  rw[dg k bn,List.getElem?_eq_getElem bn,Option.getD_some];have hs:=E7 bn;refine⟨by omega,by omega,by rw[Qj];omega,((M9 l (k+1+1)).1,(M9 l (k+1+1)).2.1,(M9 l (k+1+1)).2.2.1,(M9 l (k+1+1)).2.2.2,(k:Int)+1),by rw[hs];exact(by and_intros<;>first|rfl|trivial|simp),⟨k+1,by omega,by simp⟩,?_⟩;dsimp only;omega
 ·have aR:k+1=l.length:=by omega
  obtain⟨a,⟨i1,b1,c1⟩,⟨i2,b2,c2⟩,⟨i3,b3,c3⟩,⟨i4,b4,c4⟩⟩:=S2 h1 l.length hp (Nat.le_refl _);have hv:∀ i,i<l.length→0≤(l.getD i Xh).2.1.1∧(l.getD i Xh).2.1.1≤1000∧0≤(l.getD i Xh).2.1.2∧(l.getD i Xh).2.1.2≤1000:=fun i hi=>by have:=Bp.1 (h3 _ (List.getElem_mem hi));rw[Q6 hi];omega
  have v1:=hv i1 b1;have v2:=hv i2 b2;have v3:=hv i3 b3;have v4:=hv i4 b4;rw[aR];unfold Q5h;refine⟨by rw[Qj];omega,by rw[Qj];omega,?_⟩;and_intros<;>first|rfl|trivial
theorem H6 {l:List Lot}(h:QF l=0):l.length≤12∧∀ x∈l,Zi x=true:=by
 unfold QF at h;split at h
 ·cases h
 ·split at h
  ·cases h
  ·rename_i h1 h2;refine⟨by omega,fun x hx=>?_⟩;have:=List.any_eq_false.1 (Bool.eq_false_iff.2 h2) x hx;simpa using this
theorem Q03 {l:List Lot}{sm:List Int}{k:Nat}(h:k<sm.length):UN l (sm.take (k+1))=UN l (sm.take k)++[l.getD (sm.getD k 0).toNat Xh]:=by unfold UN;rw[QX h,List.map_append,Q6 h];rfl
theorem Q3l {l:List Lot}{sm:List Int}(h:∀ x∈l,Zi x=true) (hs:∀ i∈sm,0≤i∧i<l.length):∀ x∈UN l sm,Zi x=true:=fun x hx=>by simp only[UN,List.mem_map] at hx;obtain⟨i,hi,rfl⟩:=hx;have:=hs i hi;rw[Q6 (show i.toNat<l.length by omega)];exact h _ (List.getElem_mem _)
def tzK:Nat→Nat→Nat
 |0,_=>0
 |f+1,n=>if n % 2=1 then 0 else 1+tzK f (n / 2)
def tzN (n:Nat):Nat:=if n=0 then 64 else tzK 64 n
theorem Ir:∀ f n,0<n→n<2 ^ f→tzK f n<f∧∃ m,n=2 ^ tzK f n*(2*m+1)
 |0,n,h0,h1=>by simp at h1;omega
 |f+1,n,h0,h1=>by
  unfold tzK;split
  ·rename_i h;exact⟨by omega,n / 2,by omega⟩
  ·rename_i h;have hp:2 ^ (f+1)=2*2 ^ f:=by rw[Nat.pow_succ];omega
   obtain⟨h2,m,h3⟩:=Ir f (n / 2) (by omega) (by omega);refine⟨by omega,m,?_⟩;rw[Nat.add_comm,Nat.pow_succ,Nat.mul_comm (2 ^ _) 2,Nat.mul_assoc,←h3];omega
theorem GG {n:Nat}(h0:0<n) (h1:n<2 ^ 64):tzN n<64∧∃ m,n=2 ^ tzN n*(2*m+1):=by unfold tzN;rw[if_neg (by omega)];exact Ir 64 n h0 h1
theorem Au {t m:Nat}(i:Nat):(2 ^ t*(2*m+1)-1).testBit i=if i<t then true else if i=t then false else (2 ^ t*(2*m+1)).testBit i:=by
 have hp:0<2 ^ t:=Nat.two_pow_pos t;have e:2 ^ t*(2*m+1)-1=2 ^ t*(2*m)+(2 ^ t-1):=by rw[Nat.mul_add,Nat.mul_one];omega
 rw[e,Nat.testBit_two_pow_mul_add _ (by omega)];split
 ·rename_i h;rw[Nat.testBit_two_pow_sub_one];simpa using h
 ·rename_i h;split
  ·rename_i h2;subst h2;simp
  ·rename_i h2;rw[Nat.testBit_two_pow_mul];obtain⟨k,hk⟩:∃ k,i-t=k+1:=⟨i-t-1,by omega⟩;have hd:decide (i≥t)=true:=decide_eq_true (by omega);rw[hd,hk,Nat.testBit_succ,Nat.testBit_succ,Bool.true_and];congr 1;omega
theorem Q6r {n:Nat}(h0:0<n) (h1:n<2 ^ 64):n &&& (2 ^ 64-n)=2 ^ tzN n:=by
 obtain⟨ht,m,hm⟩:=GG h0 h1;generalize tzN n=t at *
 refine Nat.eq_of_testBit_eq fun i=>?_;have e:2 ^ 64-n=2 ^ 64-((n-1)+1):=by omega
 rw[Nat.testBit_and,e,Nat.testBit_two_pow_sub_succ (by omega),Nat.testBit_two_pow,hm,Au];by_cases h2:i<t
 ·rw[if_pos h2,Nat.testBit_two_pow_mul,decide_eq_false (show ¬ i≥t by omega),decide_eq_false (show ¬ t=i by omega)];rfl
 ·rw[if_neg h2];by_cases h3:i=t
  ·subst h3;rw[if_pos rfl,Nat.testBit_two_pow_mul];simp;omega
  ·rw[if_neg h3,decide_eq_false (show ¬ t=i by omega)];cases (2 ^ t*(2*m+1)).testBit i<;>simp
theorem BR {n:Nat}(h0:0<n) (h1:n<2 ^ 64) (i:Nat):(n &&& (n-1)).testBit i=(n.testBit i&&!decide (i=tzN n)):=by
 obtain⟨ht,m,hm⟩:=GG h0 h1;generalize tzN n=t at *
 rw[Nat.testBit_and,hm,Au];by_cases h2:i<t
 ·rw[if_pos h2,decide_eq_false (by omega)];simp
 ·rw[if_neg h2];by_cases h3:i=t
  ·rw[if_pos h3,decide_eq_true h3];simp
  ·rw[if_neg h3,decide_eq_false h3];simp
def LJ:Nat→Nat→List Int
 |0,_=>[]
 |f+1,n=>if n=0 then [] else (tzN n:Int)::LJ f (n &&& (n-1))
def Q8 (n:Nat):List Int:=LJ n n
theorem Em:∀ f g n,n≤f→n≤g→LJ f n=LJ g n
 |0,g,n,h1,_=>by
  have:n=0:=by omega
  subst this;cases g<;>simp[LJ]
 |f+1,0,n,_,h2=>by
  have:n=0:=by omega
  subst this;simp[LJ]
 |f+1,g+1,n,h1,h2=>by
  unfold LJ;by_cases h:n=0
  ·rw[if_pos h,if_pos h]
  ·rw[if_neg h,if_neg h];have:=Nat.and_le_right (n:=n) (m:=n-1);rw[Em f g _ (by omega) (by omega)]
theorem A9 {n:Nat}(h:0<n):Q8 n=(tzN n:Int)::Q8 (n &&& (n-1)):=by
 have:=Nat.and_le_right (n:=n) (m:=n-1);unfold Q8;obtain⟨f,rfl⟩:∃ f,n=f+1:=⟨n-1,by omega⟩;conv=>lhs;unfold LJ
 rw[if_neg (by omega),Em f _ _ (by omega) (Nat.le_refl _)]
theorem Q1o:Q8 0=[]:=rfl
theorem Z0q:∀ t:Nat,t<64→Go.V.t64[(2 ^ t*285870213051353865 % 18446744073709551616) / 288230376151711744]?=some (t:Int):=by decide +kernel
def czT:VCode :=
 .seq (.region [
  ⟨(some 2),.move (.const (.int .i64 (0))),none⟩])
 (.seq (.seq (.region [
  ⟨(some 3),.move (.tmp 0),none⟩,
  ⟨(some 4),.cmp .eql (.tmp 3) (.const (.int .u64 (0))),none⟩])
 (.cond (.tmp 4) (.seq (.region [
   ⟨(some 2),.move (.const (.int .i64 (64))),none⟩])
  (.ret))
  (.skip)))
 (.seq (.region [
  ⟨(some 5),.move (.tmp 0),none⟩,
  ⟨(some 6),.move (.tmp 0),none⟩,
  ⟨(some 7),.un .neg (.tmp 6),none⟩,
  ⟨(some 8),.bits .and (.tmp 5) (.tmp 7),none⟩,
  ⟨(some 9),.arith .mul (.tmp 8) (.const (.int .u64 (285870213051353865))),none⟩,
  ⟨(some 10),.shift .shr (.tmp 9) (.const (.int .u64 (58))),none⟩,
  ⟨(some 11),.indexAddrArr 64 1 (.global 1) (.tmp 10),none⟩,
  ⟨(some 12),.load false 1 (.tmp 11),none⟩,
  ⟨(some 13),.convI .i64 (.tmp 12),none⟩,
  ⟨(some 2),.move (.tmp 13),none⟩])
 (.ret)))
theorem Um {S:VSpecs}{op:VOp}{d:Option Nat}{l:List VOper}{env:Env}{σ:Heap}{K:Env→Heap→Prop}(v:Value) (h:∀ Q:Value→Heap→Prop,Q v σ→vop S op env σ Q) (hK:RD S l (XN env d v) σ K):RD S (⟨d,op,none⟩::l) env σ K:=by show vif true _ _;exact⟨fun _=>h _ hK,fun h=>by cases h⟩
theorem Q6u {S:VSpecs}{op:BinOp}{x y:Operand}{env:Env}{σ:Heap}{Q:Value→Heap→Prop}{k:IntKind}{a b:Int}(hx:Q3 env x=.int k a) (hy:Q3 env y=.int k b) (h:Q (.bool (Q9a op a b)) σ):vop S (.cmp op x y) env σ Q:=by simp only[vop,Q5,hx,hy,if_true,QV];exact h
theorem Q3o {S:VSpecs}{op:BinOp}{x y:Operand}{env:Env}{σ:Heap}{Q:Value→Heap→Prop}{k:IntKind}{a b:Int}(hx:Q3 env x=.int k a) (hy:Q3 env y=.int k b) (h:Q (.int k (Qd op k a b)) σ):vop S (.bits op x y) env σ Q:=by simp only[vop,Q5,hx,hy,if_true,QV];exact h
theorem Q37 {S:VSpecs}{op:BinOp}{x y:Operand}{env:Env}{σ:Heap}{Q:Value→Heap→Prop}{k:IntKind}{a b:Int}(hx:Q3 env x=.int k a) (hy:Q3 env y=.int k b) (h:Q (.int k (Pd op k a b)) σ):vop S (.arith op x y) env σ Q:=by simp only[vop,Q5,hx,hy,if_true,QV];exact h
theorem Q1w {S:VSpecs}{op:BinOp}{x y:Operand}{env:Env}{σ:Heap}{Q:Value→Heap→Prop}{k k':IntKind}{a b:Int}(hx:Q3 env x=.int k a) (hy:Q3 env y=.int k' b) (h0:0≤b) (h:Q (.int k (Pk op k a b)) σ):vop S (.shift op x y) env σ Q:=by simp only[vop,Q5,hx,hy,h0,if_true,QV];exact h
theorem Q4g {S:VSpecs}{x:Operand}{env:Env}{σ:Heap}{Q:Value→Heap→Prop}{k k':IntKind}{a:Int}(hx:Q3 env x=.int k a) (h:Q (.int k' (k'.wrap a)) σ):vop S (.convI k' x) env σ Q:=by simp only[vop,Q5,hx,QV];exact h
theorem Q6y {S:VSpecs}{len size g o s:Nat}{x y:Operand}{env:Env}{σ:Heap}{Q:Value→Heap→Prop}{k':IntKind}{b:Int}(hx:Q3 env x=.pointer (some ⟨g,o,some s⟩)) (hy:Q3 env y=.int k' b) (h0:0≤b∧b<len) (h:Q (.pointer (some ⟨g,o+b.toNat*size,some s⟩)) σ):vop S (.indexAddrArr len size x y) env σ Q:=by simp only[vop,Q5,hx,hy,h0,and_self,if_true,QV];exact h
theorem Q53 {S:VSpecs}{size g o s:Nat}{agg:Bool}{x:Operand}{env:Env}{σ:Heap}{Q:Value→Heap→Prop}{c:List Value}{v:Value}(hx:Q3 env x=.pointer (some ⟨g,o,some s⟩)) (hg:Q3c g=some c) (hp:c.all QG=true) (hv:WV agg size c o=some v) (h:Q v σ):vop S (.load agg size x) env σ Q:=by simp only[vop,Q5,hx,hg,hp,hv,if_true,QV];exact h
theorem CV (x:Int):IntKind.wrap .u64 x=x % 18446744073709551616:=by show (if (false&&decide (x % (18446744073709551616:Int)≥9223372036854775808))=true then x % (18446744073709551616:Int)-18446744073709551616 else x % (18446744073709551616:Int))=_;simp
theorem BO {x:Nat}(h:x<2 ^ 64):(BitVec.ofInt 64 (x:Int)).toNat=x:=by rw[S1,BitVec.toNat_ofNat,Nat.mod_eq_of_lt h]
theorem FY {x y:Nat}(hx:x<2 ^ 64) (hy:y<2 ^ 64):Qd .and .u64 x y=((x &&& y:Nat):Int):=by
 have e:(BitVec.ofInt 64 (x:Int) &&& BitVec.ofInt 64 (y:Int)).toNat=x &&& y:=by rw[BitVec.toNat_and,BO hx,BO hy]
 show IntKind.wrap .u64 ((BitVec.ofInt 64 (x:Int) &&& BitVec.ofInt 64 (y:Int)).toNat:Int)=_;have hl:x &&& y≤x:=Nat.and_le_left;rw[e,CV];omega
set_option maxHeartbeats 2000000 in
theorem Z13 {P:Program}{f:Nat}(h:Fun P f czT [.tmp 2] 14) (hm:P.follows .mixedOrders=true) {x:Int}(h0:0≤x) (h1:x≤18446744073709551615) {σ:Heap}{K:Value→Heap→Prop}(hK:K (.int .i64 (tzN x.toNat)) σ):VCalled P f [.int .u64 x] σ K:=by
 refine h.calls hm PR ?_;obtain⟨n,rfl⟩:=Int.eq_ofNat_of_zero_le h0;have h1:n<2 ^ 64:=by omega
 rw[Int.toNat_natCast] at hK;unfold czT;refine Um (.int .i64 0) (fun _ h=>h) ?_;refine Um (.int .u64 n) (fun _ h=>h) ?_;refine Um (.bool ((n:Int)==0)) (fun _ h=>Q6u (k:=.u64) (a:=n) (b:=0) rfl rfl h) ?_;show vif ((n:Int)==0) _ _;refine⟨fun hz=>?_,fun hz=>?_⟩
 ·have hz:n=0:=by have:=eq_of_beq hz;omega
  subst hz;refine Um (.int .i64 64) (fun _ h=>h) ?_;exact⟨_,_,DropTo.refl _ _ _,hK⟩
 have hz:0<n:=by
  rcases Nat.eq_zero_or_pos n with h|h
  ·subst h;cases hz
  ·exact h
 refine Um (.int .u64 n) (fun _ h=>h) ?_;refine Um (.int .u64 n) (fun _ h=>h) ?_;refine Um (.int .u64 (IntKind.u64.wrap (0-(n:Int)))) (fun _ h=>h) ?_;have hand:Qd .and .u64 n (IntKind.u64.wrap (0-(n:Int)))=((2 ^ tzN n:Nat):Int):=by
  have e:IntKind.u64.wrap (0-(n:Int))=((2 ^ 64-n:Nat):Int):=by rw[CV];omega
  rw[e,FY h1 (by omega),Q6r hz h1]
 refine Um (.int .u64 ((2 ^ tzN n:Nat):Int)) (fun _ h=>Q3o (k:=.u64) (a:=n) (b:=IntKind.u64.wrap (0-(n:Int))) rfl rfl (by rw[hand];exact h)) ?_;have hmul:Pd .mul .u64 ((2 ^ tzN n:Nat):Int) 285870213051353865=((2 ^ tzN n*285870213051353865 % 18446744073709551616:Nat):Int):=by show IntKind.wrap .u64 (((2 ^ tzN n:Nat):Int)*285870213051353865)=_;rw[CV];omega
 refine Um (.int .u64 ((2 ^ tzN n*285870213051353865 % 18446744073709551616:Nat):Int)) (fun _ h=>Q37 (k:=.u64) (a:=((2 ^ tzN n:Nat):Int)) (b:=285870213051353865) rfl rfl (by rw[hmul];exact h)) ?_;have rP:Pk .shr .u64 ((2 ^ tzN n*285870213051353865 % 18446744073709551616:Nat):Int) 58=((2 ^ tzN n*285870213051353865 % 18446744073709551616 / 288230376151711744:Nat):Int):=by show Int.fdiv _ 288230376151711744=_;rw[Int.fdiv_eq_ediv_of_nonneg _ (by decide)];omega
 refine Um (.int .u64 ((2 ^ tzN n*285870213051353865 % 18446744073709551616 / 288230376151711744:Nat):Int)) (fun _ h=>Q1w (k:=.u64) (k':=.u64) (a:=((2 ^ tzN n*285870213051353865 % 18446744073709551616:Nat):Int)) (b:=58) rfl rfl (by decide) (by rw[rP];exact h)) ?_;have rQ:=Z0q (tzN n) (GG hz h1).1;have aj:2 ^ tzN n*285870213051353865 % 18446744073709551616 / 288230376151711744<64:=by omega
 generalize 2 ^ tzN n*285870213051353865 % 18446744073709551616 / 288230376151711744=k at *
 refine Um (.pointer (some ⟨1,0+(k:Int).toNat*1,some 0⟩)) (fun _ h=>Q6y (g:=1) (o:=0) (s:=0) (b:=k) (k':=.u64) rfl rfl (by omega) h) ?_;have hv:WV false 1 (Go.V.t64.map fun x=>Value.int .u8 x) (0+(k:Int).toNat*1)=some (.int .u8 (tzN n)):=by show (Go.V.t64.map fun x=>Value.int .u8 x)[0+(k:Int).toNat*1]?=_;rw[Int.toNat_natCast,Nat.mul_one,Nat.zero_add,List.getElem?_map,rQ];rfl
 refine Um (.int .u8 (tzN n)) (fun _ h=>Q53 (g:=1) (s:=0) (o:=0+(k:Int).toNat*1) (c:=Go.V.t64.map fun x=>Value.int .u8 x) rfl rfl (by decide) hv h) ?_;have wv:=(GG hz h1).1;have gm:IntKind.i64.wrap (tzN n:Int)=tzN n:=InK.wrap (k:=.i64) ((Qj _).2 (by omega));refine Um (.int .i64 (tzN n)) (fun _ h=>Q4g (k:=.u8) (a:=tzN n) rfl (by rw[gm];exact h)) ?_;refine Um (.int .i64 (tzN n)) (fun _ h=>h) ?_;exact⟨_,_,DropTo.refl _ _ _,hK⟩
theorem On {P:Program}{σ:Heap}{v:SV}{u:Value}(h:SR P hNil X0 ZF v u):Ret P σ v [] u σ :=
 ⟨⟨.refl _,Dead.refl _⟩,fun _=>rfl,X0,fun j b hj=>by simp at hj,fun j j' i hj=>by simp at hj,h⟩
theorem Q0i (σ:Heap):Tz σ []=σ:=by
 unfold Tz;cases σ;simp only[List.length_nil,Nat.add_zero,List.getElem?_nil,Option.bind_none,Heap.mk.injEq,and_true];funext i;split
 ·rfl
 ·rename_i wf hi;exact(wf i (by simpa using hi)).symm
theorem Q6s {P:Program}{f:Nat}{pre:Int→Prop}{r:Int→Int}(h:∀ x,pre x→∀ (σ:Heap) (K:Value→Heap→Prop),K (.int .i64 (r x)) σ→VCalled P f [.int .u64 x] σ K) :
  OkC P f (Yo (.one (.k (.i .u64)):AL Int) pre (fun d=>.val (.i .i64) (r d)) (fun _=>[])):=by
 intro ap cZ σ args vs c v bs av hs hv cg hc;unfold Yo at hs;split at hs
 ·rename_i d hd;obtain⟨rfl,rfl,rfl⟩:=(by simpa using hs:pre d=c∧SV.val (.i .i64) (r d)=v∧[]=bs)
  match args,av,hd with
  |[],_,hd=>simp[AL.dec] at hd
  |a::x::l,_,hd=>simp[AL.dec] at hd
  |[a],av,hd =>
   simp only[AL.dec] at hd;obtain⟨u1,p_,rfl,s1,av⟩:=av;have av:p_=[]:=av;subst av;have k1:KC σ (.i .u64) d [u1]:=QA (k:=.i .u64) hd ⟨u1,[],rfl,s1,rfl⟩;have e1:u1=.int .u64 d:=by simpa [KC] using k1
   subst e1;refine⟨h d hc σ _ (On (by simp[SR,KC])),fun _ _=>h d hc σ _ ⟨?_,(Q0i σ).symm⟩⟩;simp[UK,CZ]
 ·cases hs
theorem Q0x {P:Program}{f:Nat}{D:Type}{l:AL D}{pre:D→Prop}{res:D→SV}{obs:D→List OB}(h:∀ d,pre d→False):OkC P f (Yo l pre res obs):=by
 intro ap cZ σ args vs c v bs av hs hv cg hc;unfold Yo at hs;split at hs
 ·rename_i d hd;have:pre d↔c:=by simp at hs;exact hs.1
  exact(h d (this.2 hc)).elim
 ·cases hs
def V4:AL (Int):=(.one (.k (.i .u64)))
def Kk (d:Int):Prop:=0≤d∧d≤18446744073709551615
def Kp (d:Int):SV:=.val (.i .i64) ((tzN d.toNat:Nat):Int)
def Ks (d:Int):List OB:=[]
def XH:CSp:=Yo V4 Kk Kp Ks
abbrev KU:Prop:=OkC Tryz.prog 87 XH
theorem V5:KU :=
 Q6s (pre:=fun x=>0≤x∧x≤18446744073709551615) (r:=fun x=>((tzN x.toNat:Nat):Int)) fun x hx σ K hK =>
  Z13 (f:=87) (by rw[show czT=c87 by kernel_rfl];exact Z0w) mixed hx.1 hx.2 hK
def Ze (l:List Lot) (tl:Int):Int:=if QF l≠0 then QF l else if !inI tl 0 1000 then 3 else 0
def Q1b (tl:Int) (p:List Lot):Bool:=!(p.any fun x=>x.1 != (p.getD 0 Xh).1)&&decide ((Q5h p).2≤tl)
def WJ (l:List Lot) (tl:Int) (S:List Int):Bool:=Q1b tl (UN l S)
theorem Q8s {n:Nat}(h0:0<n) (h1:n<2 ^ 64):n.testBit (tzN n)=true:=by
 obtain⟨_,m,hm⟩:=GG h0 h1;generalize tzN n=t at *
 rw[hm,Nat.testBit_two_pow_mul];simp
theorem Ta:∀ f n,n≤f→n<2 ^ 64→∀ i:Int,i∈LJ f n↔∃ k:Nat,i=k∧n.testBit k=true
 |0,n,h1,_,i=>by
  have:n=0:=by omega
  subst this;simp[LJ]
 |f+1,n,h1,h2,i=>by
  unfold LJ;by_cases h:n=0
  ·subst h;simp
  ·rw[if_neg h,List.mem_cons];have hle:=Nat.and_le_right (n:=n) (m:=n-1);rw[Ta f _ (by omega) (by omega)];constructor
   ·rintro (e|⟨k,e,hb⟩)
    ·exact⟨tzN n,e,Q8s (by omega) h2⟩
    ·rw[BR (by omega) h2] at hb;exact⟨k,e,by simp at hb;exact hb.1⟩
   ·rintro⟨k,e,hb⟩;by_cases hk:k=tzN n
    ·exact .inl (by rw[e,hk])
    ·exact .inr ⟨k,e,by rw[BR (by omega) h2,hb,decide_eq_false hk];rfl⟩
theorem Nr {n:Nat}(h:n<2 ^ 64) (i:Int):i∈Q8 n↔∃ k:Nat,i=k∧n.testBit k=true:=Ta n n (Nat.le_refl _) h i
theorem FO:∀ f n,(LJ f n).length≤f
 |0,_=>by simp[LJ]
 |f+1,n=>by
  unfold LJ;split
  ·simp
  ·simp only[List.length_cons];have:=FO f (n &&& (n-1));omega
theorem Q4d (n:Nat):(Q8 n).length≤n:=FO n n
theorem Rj {n m:Nat}(h:n<2 ^ m) (hm:m≤64):∀ i∈Q8 n,0≤i∧i<(m:Int):=fun i hi=>by
 have hp:2 ^ m≤2 ^ 64:=Nat.pow_le_pow_right (by omega) hm;obtain⟨k,rfl,hb⟩:=(Nr (by omega) i).1 hi;have:k<m:=by
  rcases Nat.lt_or_ge k m with h2|h2
  ·exact h2
  ·rw[Nat.testBit_lt_two_pow (Nat.lt_of_lt_of_le h (Nat.pow_le_pow_right (by omega) h2))] at hb;cases hb
 omega
theorem CM {n:Nat}(h:0<n):Q8 n≠[]:=by rw[A9 h];simp
theorem HG:∀ f n,n≤f→n<2 ^ 64→(LJ f n).Nodup
 |0,n,_,_=>by simp[LJ]
 |f+1,n,h1,h2=>by
  unfold LJ;by_cases h:n=0
  ·rw[if_pos h];exact List.nodup_nil
  ·rw[if_neg h,List.nodup_cons];have hle:=Nat.and_le_right (n:=n) (m:=n-1);refine⟨fun hm=>?_,HG f _ (by omega) (by omega)⟩;obtain⟨k,e,hb⟩:=(Ta f _ (by omega) (by omega) _).1 hm;rw[BR (by omega) h2] at hb;have:k=tzN n:=by omega
   rw[decide_eq_true this] at hb;simp at hb
theorem Lh:∀ {l m:List Int},l.Nodup→(∀ x∈l,x∈m)→l.length≤m.length
 |[],_,_,_=>Nat.zero_le _
 |x::l,m,hn,hs=>by have hn:=List.nodup_cons.1 hn;have hx:=hs x (List.mem_cons_self ..);have:=Lh (l:=l) (m:=m.erase x) hn.2 fun y hy=>(List.mem_erase_of_ne (by rintro rfl;exact hn.1 hy)).2 (hs y (List.mem_cons_of_mem _ hy));rw[List.length_erase_of_mem hx] at this;have:0<m.length:=List.length_pos_of_mem hx;simp only[List.length_cons];omega
theorem Xc {n m:Nat}(h:n<2 ^ m) (hm:m≤64):(Q8 n).length≤m:=by
 have hp:2 ^ m≤2 ^ 64:=Nat.pow_le_pow_right (by omega) hm;have:=Lh (m:=(List.range m).map fun (k:Nat)=>(k:Int)) (HG n n (Nat.le_refl _) (by omega)) fun x hx=>by obtain⟨h1,h2⟩:=Rj h hm x hx;simp only[List.mem_map,List.mem_range];exact⟨x.toNat,by omega,by omega⟩
 simpa [Q8] using this
def BI (a b:Int):Int:=if a<b then -1 else if b<a then 1 else 0
def orI (l:List Int):Int:=(l.find? fun x=>x != 0).getD 0
def Hc:List Int→List Int→Int
 |[],[]=>0
 |[],_::_=>-1
 |_::_,[]=>1
 |x::a,y::b=>if BI x y≠0 then BI x y else Hc a b
theorem E4 {a b:Int}:BI a b=0↔a=b:=by unfold BI;split<;>(try split)<;>omega
theorem Eh {a b:List Int}:∀ k,k≤a.length→k≤b.length→(∀ j,j<k→a.getD j 0=b.getD j 0)→Hc a b=Hc (a.drop k) (b.drop k)
 |0,_,_,_=>by simp
 |k+1,h1,h2,h=>by rw[Eh k (by omega) (by omega) fun j hj=>h j (by omega)];have e:=h k (by omega);rw[Q6 (by omega),Q6 (by omega)] at e;rw[List.drop_eq_getElem_cons (show k<a.length by omega),List.drop_eq_getElem_cons (show k<b.length by omega),Hc,if_neg (by rw[E4.2 e];decide)]
def KR:AL (Int):=(.one (.k (.i .u32)))
def Kt (d:Int):Prop:=False
def Kq (d:Int):SV:=.val (.i .i64) ((tzN d.toNat:Nat):Int)
def Kw (d:Int):List OB:=[]
def XL:CSp:=Yo KR Kt Kq Kw
abbrev V2:Prop:=OkC Tryz.prog 86 XL
theorem V0:V2:=Q0x fun _ h=>h
def X_:AL (Int):=(.one (.k (.i .u64)))
def Vp (d:Int):Prop:=0≤d∧d≤18446744073709551615
def XE (d:Int):SV:=.val (.i .i64) ((tzN d.toNat:Nat):Int)
def XB (d:Int):List OB:=[]
def Jc:CSp:=Yo X_ Vp XE XB
def Zc (x:Int):Prop :=
 (false=true →
  (InK .u32 x)∧(False)∧(((tzN x.toNat:Nat):Int)=((tzN x.toNat:Nat):Int)∧(True))) ∧
 (false=false →
  (0≤x∧x≤18446744073709551615)∧(((tzN x.toNat:Nat):Int)=((tzN x.toNat:Nat):Int)∧(True)))
def XZ:Cx:=⟨[],[(86,XL),(87,XH)],8,[],0,[],[],[],[],false,[],[],[],[]⟩
def U7 (x:Int):List (Nat×LoopAnn):=[]
theorem U5 (d:Int):gwp (XZ) (U7 d) c57 0 (V8 [.tmp 2] (XE d) (XB d)) (Qr 8 (AL.can X_ d))=Zc d:=by kernel_rfl
abbrev VY:Prop:=OkC Tryz.prog 57 Jc
theorem VX (h:∀ (x:Int),(0≤x∧x≤18446744073709551615)→Zc x):OkC Tryz.prog 57 Jc :=
 Z8 Z1c mixed (C:=XZ) (V:=fun (d:Int)=>Zc d) ⟨(.cons V0 (.cons V5 .nil)),XsOk.nil,ItsOk.nil,YlOk.nil,IysOk.nil,XfOk.nil⟩ (U5) fun d hp=>h d hp
theorem U3:VY:=VX fun x h=>by unfold Zc;(try delta lI gD sT I64);refine⟨(fun h=>by cases h),fun _=>⟨h,?_⟩⟩;and_intros<;>first|rfl|trivial
def M0:AL (Int):=(.one (.k (.i .u64)))
def Hd (d:Int):Prop:=0≤d∧d≤1048576
def N8 (d:Int):SV:=.lst 0
def U_ (d:Int):List OB:=[.lst 3 (.i .i64) (Q8 d.toNat) ((Q8 d.toNat).isEmpty)]
def JA:CSp:=Yo M0 Hd N8 U_
def Ws (x:Int):Prop :=
 ∃ (e3:Unit) (d30:Int×(List Int)),((x=d30.1∧True∧True)∧((d30.2=[]∧(List.isEmpty d30.2)=true)∧True)) ∧
 LoopP (fun (d3:Int×(List Int)) (q3:(Int×(List Int))→Prop) =>
  ((d3.1 != (0:Int))=true →
   (0≤d3.1∧d3.1≤18446744073709551615)∧(((List.length d3.2)+(List.length [((tzN d3.1.toNat:Nat):Int)]))*8≤70368744177664)∧(InK .u64 (d3.1-(1:Int)))∧(∃ d4:Int×(List Int),(((Qd .and .u64 d3.1 (d3.1-(1:Int)))=d4.1∧True∧True)∧(((d3.2++[((tzN d3.1.toNat:Nat):Int)])=d4.2∧false=(List.isEmpty d4.2))∧True))∧q3 d4)) ∧
  ((d3.1 != (0:Int))=false →
   (True∧((d3.2=(Q8 x.toNat)∧(List.isEmpty d3.2)=(Q8 x.toNat).isEmpty)∧True)))) d30
def NQ:Cx:=⟨[(3,(.i .i64))],[(57,Jc)],15,[],0,[],[],[],[],false,[],[],[],[]⟩
def Pp (x:Int):List (Nat×LoopAnn):=[(0,⟨Unit,Int×(List Int),[0,2],fun e x=>[.val (.i .u64) x.1,.lst 13],fun e x=>[(13,.slot 2,.lst 3 (.i .i64) x.2 (List.isEmpty x.2))]⟩)]
theorem PQ (d:Int):gwp (NQ) (Pp d) c33 0 (V8 [.tmp 2] (N8 d) (U_ d)) (Qr 15 (AL.can M0 d))=Ws d:=by kernel_rfl
abbrev PK:Prop:=OkC Tryz.prog 33 JA
theorem PL (h:∀ (x:Int),(0≤x∧x≤1048576)→Ws x):OkC Tryz.prog 33 JA :=
 Z8 Z15 mixed (C:=NQ) (V:=fun (d:Int)=>Ws d) ⟨(.cons U3 .nil),XsOk.nil,ItsOk.nil,YlOk.nil,IysOk.nil,XfOk.nil⟩ (PQ) fun d hp=>h d hp
theorem Wo:PK:=PL fun x h=>by
 obtain⟨h1,h2⟩:=h;unfold Ws;(try delta lI gD sT I64);obtain⟨n,rfl⟩:=Int.eq_ofNat_of_zero_le h1;rw[Int.toNat_natCast];have fw:=Q4d n;refine⟨(),((n:Int),[]),(by and_intros<;>first|rfl|trivial|simp),?_⟩;refine⟨fun d=>∃ s:Nat,d.1=s∧s≤n∧d.2++Q8 s=Q8 n,fun d=>d.1.toNat,⟨n,rfl,Nat.le_refl _,rfl⟩,?_⟩;rintro⟨_,L⟩ ⟨s,rfl,i1,i2⟩;dsimp only at i2 ⊢;simp only[bne_iff_ne,bne_eq_false_iff_eq,ne_eq,Int.toNat_natCast];refine⟨fun h0=>?_,fun h0=>?_⟩
 ·have hs:0<s:=by omega
  have e1:(s:Int)-1=((s-1:Nat):Int):=by omega
  have bj:=A9 hs;have xk:L.length+1≤n:=by have:=congrArg List.length i2;rw[bj,List.length_append,List.length_cons] at this;omega
  have hle:=Nat.and_le_right (n:=s) (m:=s-1);refine⟨⟨by omega,by omega⟩,by simp only[List.length_cons,List.length_nil];omega,by rw[Kr];omega,(((s &&& (s-1):Nat):Int),L++[((tzN s:Nat):Int)]),?_,⟨s &&& (s-1),rfl,by omega,?_⟩,?_⟩
  ·rw[e1,FY (by omega) (by omega)];have:(L++[((tzN s:Nat):Int)]).isEmpty=false:=by simp
   and_intros<;>first|rfl|trivial|exact this.symm
  ·dsimp only;rw[←i2,bj,List.append_assoc];rfl
  ·dsimp only;omega
 ·have:s=0:=by omega
  subst this;rw[Q1o,List.append_nil] at i2;subst i2;and_intros<;>first|rfl|trivial
def Yv:AL ((Int×Int×Int×Int)×List (Int×(Int×Int)×Int)):=(.cons (.agg (.cons (.k (.i .i64)) (.cons (.k (.i .i64)) (.cons (.k (.i .i64)) (.one (.k (.i .i64))))))) (.one (.ptr (.one (.k (.list (.pair (.i .i64) (.pair (.pair (.i .i64) (.i .i64)) (.i .i64)))))))))
def NA (d:(Int×Int×Int×Int)×List (Int×(Int×Int)×Int)):Prop:=d.2≠[]
def Y9 (d:(Int×Int×Int×Int)×List (Int×(Int×Int)×Int)):SV:=.val .bo (d.1.1 != (d.2.getD 0 Xh).1)
def Yb (d:(Int×Int×Int×Int)×List (Int×(Int×Int)×Int)):List OB:=[]
def Xz:CSp:=Yo Yv NA Y9 Yb
def ZP (lc:Int) (lo:Int) (hi:Int) (lg:Int) (l:List (Int×(Int×Int)×Int)):Prop :=
 (0≤(0:Int))∧((0:Int)<(List.length l))∧((lc != (gD l (0:Int) (0,((0,0),0))).1)=(lc != (l.getD 0 Xh).1)∧(True))
def YD:Cx:=⟨[],[],11,[],0,[],[],[],[],false,[],[],[],[]⟩
def Mg (lc:Int) (lo:Int) (hi:Int) (lg:Int) (l:List (Int×(Int×Int)×Int)):List (Nat×LoopAnn):=[]
theorem Mi (d:(Int×Int×Int×Int)×List (Int×(Int×Int)×Int)):gwp (YD) (Mg d.1.1 d.1.2.1 d.1.2.2.1 d.1.2.2.2 d.2) c75 0 (V8 [.tmp 3] (Y9 d) (Yb d)) (Qr 11 (AL.can Yv d))=ZP d.1.1 d.1.2.1 d.1.2.2.1 d.1.2.2.2 d.2:=by kernel_rfl
abbrev Ml:Prop:=OkC Tryz.prog 75 Xz
theorem Mk (h:∀ (lc:Int) (lo:Int) (hi:Int) (lg:Int) (l:List (Int×(Int×Int)×Int)),(l≠[])→ZP lc lo hi lg l):OkC Tryz.prog 75 Xz :=
 Z8 Z17 mixed (C:=YD) (V:=fun (d:(Int×Int×Int×Int)×List (Int×(Int×Int)×Int))=>ZP d.1.1 d.1.2.1 d.1.2.2.1 d.1.2.2.2 d.2) ⟨.nil,XsOk.nil,ItsOk.nil,YlOk.nil,IysOk.nil,XfOk.nil⟩ (Mi) fun d hp=>h d.1.1 d.1.2.1 d.1.2.2.1 d.1.2.2.2 d.2 hp
theorem Mf:Ml:=Mk fun lc lo hi lg l h=>by unfold ZP;(try delta lI gD sT I64);have hp:0<l.length:=List.length_pos_iff.2 h;refine⟨by omega,by omega,?_⟩;and_intros<;>first|rfl|trivial
def KF:AL (((List (Int×(Int×Int)×Int))×Int)×Int):=(.cons (.agg (.cons (.k (.list (.pair (.i .i64) (.pair (.pair (.i .i64) (.i .i64)) (.i .i64))))) (.one (.k (.i .i64))))) (.one (.k (.i .u64))))
def MG (d:((List (Int×(Int×Int)×Int))×Int)×Int):Prop:=d.1.1.length≤12∧(∀ y∈d.1.1,Zi y=true)∧0<d.2∧d.2<2 ^ d.1.1.length
def Kh (d:((List (Int×(Int×Int)×Int))×Int)×Int):SV:=.val .bo (WJ d.1.1 d.1.2 (Q8 d.2.toNat))
def Kf (d:((List (Int×(Int×Int)×Int))×Int)×Int):List OB:=[]
def ZL:CSp:=Yo KF MG Kh Kf
def Jq (l:List (Int×(Int×Int)×Int)) (tl:Int) (sx:Int):Prop :=
 (0≤sx∧sx≤1048576)∧∃ (e4:Unit) (d40:(List (Int×(Int×Int)×Int))×Int),((True∧True∧True∧(lI (Q8 sx.toNat))=(lI (Q8 sx.toNat))∧(0:Int)=d40.2∧True)∧((l=l∧tl=tl∧(([]:List SV)=[]))∧(True∧(([]:List SV)=[]))∧(d40.1=[]∧(List.isEmpty d40.1)=true)∧((Q8 sx.toNat)=(Q8 sx.toNat)∧(Q8 sx.toNat).isEmpty=(List.isEmpty (Q8 sx.toNat)))∧True)) ∧
 LoopP (fun (d4:(List (Int×(Int×Int)×Int))×Int) (q4:((List (Int×(Int×Int)×Int))×Int)→Prop) =>
  ((decide (d4.2<(lI (Q8 sx.toNat))))=true →
   (0≤d4.2)∧(d4.2<(List.length (Q8 sx.toNat)))∧(0≤(gD (Q8 sx.toNat) d4.2 0))∧((gD (Q8 sx.toNat) d4.2 0)<(List.length l))∧(((List.length d4.1)+(List.length [((gD l (gD (Q8 sx.toNat) d4.2 0) (0,((0,0),0))).1,(((gD l (gD (Q8 sx.toNat) d4.2 0) (0,((0,0),0))).2.1.1,(gD l (gD (Q8 sx.toNat) d4.2 0) (0,((0,0),0))).2.1.2),(gD l (gD (Q8 sx.toNat) d4.2 0) (0,((0,0),0))).2.2))]))*32≤70368744177664)∧(I64 (d4.2+(1:Int)))∧(∃ d5:(List (Int×(Int×Int)×Int))×Int,((True∧True∧True∧(lI (Q8 sx.toNat))=(lI (Q8 sx.toNat))∧(d4.2+(1:Int))=d5.2∧True)∧((l=l∧tl=tl∧(([]:List SV)=[]))∧(True∧(([]:List SV)=[]))∧((d4.1++[((gD l (gD (Q8 sx.toNat) d4.2 0) (0,((0,0),0))).1,(((gD l (gD (Q8 sx.toNat) d4.2 0) (0,((0,0),0))).2.1.1,(gD l (gD (Q8 sx.toNat) d4.2 0) (0,((0,0),0))).2.1.2),(gD l (gD (Q8 sx.toNat) d4.2 0) (0,((0,0),0))).2.2))])=d5.1∧false=(List.isEmpty d5.1))∧((Q8 sx.toNat)=(Q8 sx.toNat)∧(List.isEmpty (Q8 sx.toNat))=(List.isEmpty (Q8 sx.toNat)))∧True))∧q4 d5)) ∧
  ((decide (d4.2<(lI (Q8 sx.toNat))))=false →
   (d4.1.length≤1000000∧∀ x∈d4.1,(fun (x1:Int×(Int×Int)×Int)=>d4.1≠[]) x)∧((!(d4.1.any (fun (x1:Int×(Int×Int)×Int)=>(x1.1 != (d4.1.getD 0 Xh).1))))=true→d4.1≠[]∧d4.1.length≤1000∧∀ x∈d4.1,Zi x=true)∧(((!(d4.1.any (fun (x1:Int×(Int×Int)×Int)=>(x1.1 != (d4.1.getD 0 Xh).1))))&&(decide (((Q5h d4.1).2)≤tl)))=(WJ l tl (Q8 sx.toNat))∧(True)))) d40
def KJ:Cx:=⟨[(51,(.pair (.i .i64) (.pair (.pair (.i .i64) (.i .i64)) (.i .i64))))],[(33,JA),(71,Qa),(75,Xz),(76,UA)],38,[],0,[],[],[],[],false,[],[],[],[]⟩
def GI (l:List (Int×(Int×Int)×Int)) (tl:Int) (sx:Int):List (Nat×LoopAnn):=[(0,⟨Unit,(List (Int×(Int×Int)×Int))×Int,[2,5,10,11,12],fun e x=>[.box 2 0,.box 5 0,.lst 10,.val (.i .i64) (((List.length (Q8 sx.toNat)):Nat):Int),.val (.i .i64) x.2],fun e x=>[(2,.slot 2,.cells [.val (.list (.pair (.i .i64) (.pair (.pair (.i .i64) (.i .i64)) (.i .i64)))) l,.val (.i .i64) tl] (some 83)),(5,.slot 5,.cells [.lst 23] (some 30)),(23,.cell 5 0,.lst 51 (.pair (.i .i64) (.pair (.pair (.i .i64) (.i .i64)) (.i .i64))) x.1 (List.isEmpty x.1)),(10,.slot 10,.lst 3 (.i .i64) (Q8 sx.toNat) (List.isEmpty (Q8 sx.toNat)))]⟩)]
theorem GK (d:((List (Int×(Int×Int)×Int))×Int)×Int):gwp (KJ) (GI d.1.1 d.1.2 d.2) c48 0 (V8 [.tmp 4] (Kh d) (Kf d)) (Qr 38 (AL.can KF d))=Jq d.1.1 d.1.2 d.2:=by kernel_rfl
abbrev GM:Prop:=OkC Tryz.prog 48 ZL
theorem GS (h:∀ (l:List (Int×(Int×Int)×Int)) (tl:Int) (sx:Int),(l.length≤12∧(∀ y∈l,Zi y=true)∧0<sx∧sx<2 ^ l.length)→Jq l tl sx):OkC Tryz.prog 48 ZL :=
 Z8 Q90 mixed (C:=KJ) (V:=fun (d:((List (Int×(Int×Int)×Int))×Int)×Int)=>Jq d.1.1 d.1.2 d.2) ⟨(.cons Wo (.cons QH (.cons Mf (.cons Rg .nil)))),XsOk.nil,ItsOk.nil,YlOk.nil,IysOk.nil,XfOk.nil⟩ (GK) fun d hp=>h d.1.1 d.1.2 d.2 hp
theorem W5:GM:=GS fun l tl sx h=>by
 obtain⟨h1,h2,h3,h4⟩:=h;obtain⟨n,rfl⟩:=Int.eq_ofNat_of_zero_le (show 0≤sx by omega);have hp:(2:Int) ^ l.length=((2 ^ l.length:Nat):Int):=by simp
 have dz:2 ^ l.length≤2 ^ 12:=Nat.pow_le_pow_right (by omega) h1;have nj:(2:Nat) ^ 12=4096:=rfl;rw[hp] at h4;have hn:n<2 ^ l.length:=by omega
 unfold Jq;(try delta lI gD sT I64);rw[Int.toNat_natCast];have aj:=Rj hn (by omega);have fw:=Xc hn (by omega);have aA:=CM (show 0<n by omega);generalize Q8 n=S at *
 have po:UN l S≠[]:=by simpa [UN] using aA
 have rR:=Q3l h2 aj;have aP:∀ k,(UN l (S.take k)).length=min k S.length:=fun k=>by simp[UN]
 simp only[decide_eq_true_eq,decide_eq_false_iff_not];refine⟨⟨by omega,by omega⟩,(),([],0),(by and_intros<;>first|rfl|trivial|simp),?_⟩;refine LoopP.count2 S.length (fun k L=>L=UN l (S.take k)) rfl fun k L hk hJ q hq=>?_;subst hJ;dsimp only;have hd:∀ j,l.getD j (0,((0,0),0))=l.getD j Xh:=fun _=>rfl;simp only[Int.toNat_natCast,hd];refine⟨fun rS=>?_,fun bC=>?_⟩
 ·have qa:k<S.length:=by omega
  have hm:=aj _ (by rw[Q6 qa];exact List.getElem_mem qa:S.getD k 0∈S);refine⟨by omega,rS,hm.1,hm.2,by simp only[aP,List.length_cons,List.length_nil];omega,by rw[Qj];omega,(UN l (S.take (k+1)),(k:Int)+1),?_,hq _ qa rfl⟩;rw[Q03 qa];have:((UN l (S.take k)++[l.getD (S.getD k 0).toNat Xh]).isEmpty)=false:=by simp
  and_intros<;>first|rfl|trivial|exact this.symm
 ·have:k=S.length:=by omega
  subst this;have aS:=aP S.length;rw[List.take_length] at *
  refine⟨⟨by omega,fun _ _=>po⟩,fun _=>⟨po,by omega,rR⟩,?_⟩;and_intros<;>first|rfl|trivial
def NY:AL (Int):=(.one (.k (.i .i64)))
def HO (d:Int):Prop:=True
def N5 (d:Int):SV:=.val .bo false
def Ng (d:Int):List OB:=[]
def WZ:CSp:=Yo NY HO N5 Ng
def Wp (a:Int):Prop :=
 ((a != a)=false∧(True))
def NZ:Cx:=⟨[],[],6,[],0,[],[],[],[],false,[],[],[],[]⟩
def PV (a:Int):List (Nat×LoopAnn):=[]
theorem PH (d:Int):gwp (NZ) (PV d) c77 0 (V8 [.tmp 2] (N5 d) (Ng d)) (Qr 6 (AL.can NY d))=Wp d:=by kernel_rfl
abbrev PW:Prop:=OkC Tryz.prog 77 WZ
theorem PT (h:∀ (a:Int),(True)→Wp a):OkC Tryz.prog 77 WZ :=
 Z8 Q9s mixed (C:=NZ) (V:=fun (d:Int)=>Wp d) ⟨.nil,XsOk.nil,ItsOk.nil,YlOk.nil,IysOk.nil,XfOk.nil⟩ (PH) fun d hp=>h d hp
theorem NX:PW:=PT fun a _=>by unfold Wp;(try delta lI gD sT I64);simp
def Uj:AL (Int×Int):=(.cons (.k (.i .i64)) (.one (.k (.i .i64))))
def DH (d:Int×Int):Prop:=True
def Vh (d:Int×Int):SV:=.val (.i .i64) (BI d.1 d.2)
def VH (d:Int×Int):List OB:=[]
def XM:CSp:=Yo Uj DH Vh VH
def Xl (a:Int) (b:Int):Prop :=
 (True)∧(True)∧(false=true →
  (false=true →
   ((0:Int)=(BI a b)∧(True))) ∧
  (false=false →
   ((-1:Int)=(BI a b)∧(True)))) ∧
 (false=false →
  (false=true →
   ((1:Int)=(BI a b)∧(True))) ∧
  (false=false →
   ((decide (a<b))=true →
    ((-1:Int)=(BI a b)∧(True))) ∧
   ((decide (a<b))=false →
    ((decide (a > b))=true →
     ((1:Int)=(BI a b)∧(True))) ∧
    ((decide (a > b))=false →
     ((0:Int)=(BI a b)∧(True))))))
def Uo:Cx:=⟨[],[(77,WZ)],20,[],0,[],[],[],[],false,[],[],[],[]⟩
def BD (a:Int) (b:Int):List (Nat×LoopAnn):=[]
theorem BJ (d:Int×Int):gwp (Uo) (BD d.1 d.2) c50 0 (V8 [.tmp 4] (Vh d) (VH d)) (Qr 20 (AL.can Uj d))=Xl d.1 d.2:=by kernel_rfl
abbrev Bt:Prop:=OkC Tryz.prog 50 XM
theorem Bn (h:∀ (a:Int) (b:Int),(True)→Xl a b):OkC Tryz.prog 50 XM :=
 Z8 Q7v mixed (C:=Uo) (V:=fun (d:Int×Int)=>Xl d.1 d.2) ⟨(.cons NX .nil),XsOk.nil,ItsOk.nil,YlOk.nil,IysOk.nil,XfOk.nil⟩ (BJ) fun d hp=>h d.1 d.2 hp
theorem Ug:Bt:=Bn fun a b _=>by
 unfold Xl;(try delta lI gD sT I64);simp only[decide_eq_true_eq,decide_eq_false_iff_not,true_and,and_true,decide_eq_true_eq,decide_eq_false_iff_not,gt_iff_lt,false_implies,Bool.false_eq_true,forall_const];unfold BI;refine⟨fun h=>?_,fun h=>⟨fun h2=>?_,fun h2=>?_⟩⟩
 ·rw[if_pos h]
 ·rw[if_neg h,if_pos h2]
 ·rw[if_neg h,if_neg h2]
def Be:AL (List Int):=(.one (.k (.list (.i .i64))))
def Sq (d:List Int):Prop:=d.length≤1000
def D1 (d:List Int):SV:=.val (.i .i64) (orI d)
def D8 (d:List Int):List OB:=[]
def Gf:CSp:=Yo Be Sq D1 D8
def KZ (l:List Int):Prop :=
 ∃ (e2:Unit) (d20:Int),(((0:Int)=(0:Int)∧l=l∧(lI l)=(lI l)∧(0:Int)=d20∧True)∧(True)) ∧
 LoopP (fun (d2:Int) (q2:(Int)→Prop) =>
  ((decide (d2<(lI l)))=true →
   (0≤d2)∧(d2<(List.length l))∧(((gD l d2 0) != (0:Int))=true →
    ((gD l d2 0)=(orI l)∧(True))) ∧
   (((gD l d2 0) != (0:Int))=false →
    (I64 (d2+(1:Int)))∧(∃ d3:Int,(((0:Int)=(0:Int)∧l=l∧(lI l)=(lI l)∧(d2+(1:Int))=d3∧True)∧(True))∧q2 d3))) ∧
  ((decide (d2<(lI l)))=false →
   ((0:Int)=(orI l)∧(True)))) d20
def Bv:Cx:=⟨[],[],18,[],0,[],[],[],[],false,[],[],[],[]⟩
def C5 (l:List Int):List (Nat×LoopAnn):=[(0,⟨Unit,Int,[3,6,7,8],fun e x=>[.val (.i .i64) (0:Int),.val (.list (.i .i64)) l,.val (.i .i64) (((List.length l):Nat):Int),.val (.i .i64) x],fun e x=>[]⟩)]
theorem CL (d:List Int):gwp (Bv) (C5 d) c49 0 (V8 [.tmp 2] (D1 d) (D8 d)) (Qr 18 (AL.can Be d))=KZ d:=by kernel_rfl
abbrev Cl:Prop:=OkC Tryz.prog 49 Gf
theorem LP (h:∀ (l:List Int),(l.length≤1000)→KZ l):OkC Tryz.prog 49 Gf :=
 Z8 Q98 mixed (C:=Bv) (V:=fun (d:List Int)=>KZ d) ⟨.nil,XsOk.nil,ItsOk.nil,YlOk.nil,IysOk.nil,XfOk.nil⟩ (CL) fun d hp=>h d hp
theorem CX:Cl:=LP fun l h=>by
 unfold KZ;(try delta lI gD sT I64);simp only[decide_eq_true_eq,decide_eq_false_iff_not];refine⟨(),0,(by and_intros<;>first|rfl|trivial|simp),?_⟩;refine LoopP.count l.length (fun k=>∀ j,j<k→l.getD j 0=0) (fun j hj=>by omega) fun k hk hJ q hq=>?_;simp only[Int.toNat_natCast];refine⟨fun aj=>?_,fun bC=>?_⟩
 ·have aR:k<l.length:=by omega
  refine⟨by omega,aj,fun hx=>?_,fun hx=>⟨by rw[Qj];omega,_,(by and_intros<;>first|rfl|trivial|simp),hq aR fun j hj=>?_⟩⟩
  ·have hf:l.find? (fun x=>x != 0)=some l[k]:=by
    rw[List.find?_eq_some_iff_getElem];rw[Q6 aR] at hx;refine⟨hx,k,aR,rfl,fun j hj=>?_⟩;have:=hJ j hj;rw[Q6 (by omega)] at this;simp[this]
   refine⟨?_,trivial⟩;unfold orI;rw[hf,Q6 aR];rfl
  ·rcases Nat.lt_succ_iff_lt_or_eq.1 hj with hj|rfl
   ·exact hJ j hj
   ·simpa using hx
 ·have hf:l.find? (fun x=>x != 0)=none:=by
   rw[List.find?_eq_none];intro x hx;obtain⟨j,hj,rfl⟩:=List.getElem_of_mem hx;have:=hJ j (by omega);rw[Q6 hj] at this;simp[this]
  refine⟨?_,trivial⟩;unfold orI;rw[hf];rfl
def Wl:AL (List Int×List Int):=(.cons (.k (.list (.i .i64))) (.one (.k (.list (.i .i64)))))
def U6 (d:List Int×List Int):Prop:=d.1.length≤1000∧d.2.length≤1000
def W2 (d:List Int×List Int):SV:=.val (.i .i64) (Hc d.1 d.2)
def XV (d:List Int×List Int):List OB:=[]
def Zp:CSp:=Yo Wl U6 W2 XV
def Zh (a:List Int) (b:List Int):Prop :=
 ∃ (e2:Unit) (d20:Int),((a=a∧b=b∧a=a∧(lI a)=(lI a)∧(0:Int)=d20∧True)∧(True)) ∧
 LoopP (fun (d2:Int) (q2:(Int)→Prop) =>
  ((decide (d2<(lI a)))=true →
   (0≤d2)∧(d2<(List.length a))∧((decide (d2≥(lI b)))=true →
    ((1:Int)=(Hc a b)∧(True))) ∧
   ((decide (d2≥(lI b)))=false →
    (0≤d2)∧(d2<(List.length b))∧(True)∧(((BI (gD a d2 0) (gD b d2 0)) != (0:Int))=true →
     ((BI (gD a d2 0) (gD b d2 0))=(Hc a b)∧(True))) ∧
    (((BI (gD a d2 0) (gD b d2 0)) != (0:Int))=false →
     (I64 (d2+(1:Int)))∧(∃ d3:Int,((a=a∧b=b∧a=a∧(lI a)=(lI a)∧(d2+(1:Int))=d3∧True)∧(True))∧q2 d3)))) ∧
  ((decide (d2<(lI a)))=false →
   ((decide ((lI a)<(lI b)))=true →
    ((-1:Int)=(Hc a b)∧(True))) ∧
   ((decide ((lI a)<(lI b)))=false →
    ((0:Int)=(Hc a b)∧(True))))) d20
def Wi:Cx:=⟨[],[(50,XM)],36,[],0,[],[],[],[],false,[],[],[],[]⟩
def UI (a:List Int) (b:List Int):List (Nat×LoopAnn):=[(0,⟨Unit,Int,[0,1,9,10,11],fun e x=>[.val (.list (.i .i64)) a,.val (.list (.i .i64)) b,.val (.list (.i .i64)) a,.val (.i .i64) (((List.length a):Nat):Int),.val (.i .i64) x],fun e x=>[]⟩)]
theorem UM (d:List Int×List Int):gwp (Wi) (UI d.1 d.2) c51 0 (V8 [.tmp 4] (W2 d) (XV d)) (Qr 36 (AL.can Wl d))=Zh d.1 d.2:=by kernel_rfl
abbrev UG:Prop:=OkC Tryz.prog 51 Zp
theorem UL (h:∀ (a:List Int) (b:List Int),(a.length≤1000∧b.length≤1000)→Zh a b):OkC Tryz.prog 51 Zp :=
 Z8 Z0k mixed (C:=Wi) (V:=fun (d:List Int×List Int)=>Zh d.1 d.2) ⟨(.cons Ug .nil),XsOk.nil,ItsOk.nil,YlOk.nil,IysOk.nil,XfOk.nil⟩ (UM) fun d hp=>h d.1 d.2 hp
theorem Wj:UG:=UL fun a b h=>by
 obtain⟨h1,h2⟩:=h;unfold Zh;(try delta lI gD sT I64);simp only[decide_eq_true_eq,decide_eq_false_iff_not];refine⟨(),0,(by and_intros<;>first|rfl|trivial|simp),?_⟩;refine LoopP.count a.length (fun k=>k≤b.length∧∀ j,j<k→a.getD j 0=b.getD j 0) ⟨by omega,fun j hj=>by omega⟩ fun k hk hJ q hq=>?_;obtain⟨j1,j2⟩:=hJ;have hc:=Eh k hk j1 j2;simp only[Int.toNat_natCast];refine⟨fun aj=>?_,fun bC=>?_⟩
 ·have aR:k<a.length:=by omega
  rw[List.drop_eq_getElem_cons aR] at hc;refine⟨by omega,aj,fun h3=>?_,fun h3=>?_⟩
  ·rw[List.drop_eq_nil_of_le (show b.length≤k by omega)] at hc;rw[hc];exact⟨rfl,trivial⟩
  ·have rT:k<b.length:=by omega
   rw[List.drop_eq_getElem_cons rT,Hc] at hc;rw[Q6 aR,Q6 rT];refine⟨by omega,by omega,trivial,fun hx=>?_,fun hx=>⟨by rw[Qj];omega,_,(by and_intros<;>first|rfl|trivial|simp),hq aR ⟨by omega,fun j hj=>?_⟩⟩⟩
   ·have hx:BI a[k] b[k]≠0:=by simpa using hx
    rw[hc,if_pos hx];exact⟨rfl,trivial⟩
   ·rcases Nat.lt_succ_iff_lt_or_eq.1 hj with hj|rfl
    ·exact j2 j hj
    ·rw[Q6 aR,Q6 rT];exact E4.1 (by simpa using hx)
 ·have:k=a.length:=by omega
  subst this;rw[List.drop_length] at hc;refine⟨fun h3=>?_,fun h3=>?_⟩
  ·rw[List.drop_eq_getElem_cons (show a.length<b.length by omega)] at hc;rw[hc];exact⟨rfl,trivial⟩
  ·rw[List.drop_eq_nil_of_le (show b.length≤a.length by omega)] at hc;rw[hc];exact⟨rfl,trivial⟩
def Ba:Cx:=⟨[(3,(.i .i64))],[(45,Ye),(46,Xf)],21,[],0,[],[],[],[],false,[],[],[],[]⟩
def Ge:XSp:=Z1k Ba (fun _=>[]) c23 [.cell 4 true 2,.tmp 5] 21
theorem Dh:XOk Tryz.prog 23 Ge:=Fm Q97 mixed (C:=Ba) ⟨(.cons UF (.cons Y5 .nil)),XsOk.nil,ItsOk.nil,YlOk.nil,IysOk.nil,XfOk.nil⟩ _
theorem Z1t:((3:Int) != 0)=true:=rfl
def Cv (n m:Nat):List Int:=((List.range m).filter fun k=>n.testBit k).map fun (k:Nat)=>(k:Int)
theorem DL:∀ {a b:List Int},a.Pairwise (·<·)→b.Pairwise (·<·)→(∀ x,x∈a↔x∈b)→a=b
 |[],[],_,_,_=>rfl
 |[],y::b,_,_,h=>by have:=(h y).2 (List.mem_cons_self ..);cases this
 |x::a,[],_,_,h=>by have:=(h x).1 (List.mem_cons_self ..);cases this
 |x::a,y::b,ha,hb,h=>by
  obtain⟨tN,rk⟩:=List.pairwise_cons.1 ha;obtain⟨bp,b_⟩:=List.pairwise_cons.1 hb;have wx:x=y:=by
   rcases List.mem_cons.1 ((h x).1 (List.mem_cons_self ..)) with e|e
   ·exact e
   ·rcases List.mem_cons.1 ((h y).2 (List.mem_cons_self ..)) with e2|e2
    ·exact e2.symm
    ·have h1:=bp x e;have h2:=tN y e2;omega
  subst wx;rw[DL rk b_ fun z=>?_];constructor
  ·intro hz;rcases List.mem_cons.1 ((h z).1 (List.mem_cons_of_mem _ hz)) with e|e
   ·have:=tN z hz;omega
   ·exact e
  ·intro hz;rcases List.mem_cons.1 ((h z).2 (List.mem_cons_of_mem _ hz)) with e|e
   ·have:=bp z hz;omega
   ·exact e
theorem Z18 {n k:Nat}(h0:0<n) (h1:n<2 ^ 64) (hk:n.testBit k=true):tzN n≤k:=by
 obtain⟨_,m,hm⟩:=GG h0 h1;generalize tzN n=t at *
 rcases Nat.lt_or_ge k t with h|h
 ·rw[hm,Nat.testBit_two_pow_mul,decide_eq_false (show ¬ k≥t by omega)] at hk;cases hk
 ·exact h
theorem NM:∀ f n,n≤f→n<2 ^ 64→(LJ f n).Pairwise (·<·)
 |0,n,_,_=>by simp[LJ]
 |f+1,n,h1,h2=>by
  unfold LJ;by_cases h:n=0
  ·rw[if_pos h];exact List.Pairwise.nil
  ·rw[if_neg h,List.pairwise_cons];have hle:=Nat.and_le_right (n:=n) (m:=n-1);refine⟨fun i hm=>?_,NM f _ (by omega) (by omega)⟩;obtain⟨k,rfl,hb⟩:=(Ta f _ (by omega) (by omega) _).1 hm;rw[BR (by omega) h2] at hb;simp only[Bool.and_eq_true,Bool.not_eq_true',decide_eq_false_iff_not] at hb;have:=Z18 (by omega) h2 hb.1;omega
theorem EI {n m:Nat}(h:n<2 ^ m) (hm:m≤64):Q8 n=Cv n m:=by
 have hp:2 ^ m≤2 ^ 64:=Nat.pow_le_pow_right (by omega) hm;refine DL (NM n n (Nat.le_refl _) (by omega)) ?_ fun x=>?_
 ·unfold Cv;rw[List.pairwise_map];exact(List.Pairwise.filter _ List.pairwise_lt_range).imp fun h=>by omega
 ·rw[Nr (by omega)];simp only[Cv,List.mem_map,List.mem_filter,List.mem_range];constructor
  ·rintro⟨k,rfl,hb⟩;have:k<m:=by
    rcases Nat.lt_or_ge k m with h2|h2
    ·exact h2
    ·rw[Nat.testBit_lt_two_pow (Nat.lt_of_lt_of_le h (Nat.pow_le_pow_right (by omega) h2))] at hb;cases hb
   exact⟨k,⟨this,hb⟩,rfl⟩
  ·rintro⟨k,⟨_,hb⟩,rfl⟩;exact⟨k,rfl,hb⟩
def Q1y (a b:Lot) (t:Int):Bool:=(a.1==b.1)&&decide (Fe a b≤t)&&decide (Fe a a≤t)&&decide (Fe b b≤t)
def TL (p:List Lot) (t:Int):Bool:=(List.range p.length).all fun i=>(List.range p.length).all fun k=>Q1y (p.getD i Xh) (p.getD k Xh) t
theorem OA {p:List Lot}{t:Int}:TL p t=true↔∀ i,i<p.length→∀ k,k<p.length→(p.getD i Xh).1=(p.getD k Xh).1∧Fe (p.getD i Xh) (p.getD k Xh)≤t:=by simp only[TL,List.all_eq_true,List.mem_range,Q1y,Bool.and_eq_true,beq_iff_eq,decide_eq_true_eq];exact⟨fun h i hi k hk=>⟨(h i hi k hk).1.1.1,(h i hi k hk).1.1.2⟩,fun h i hi k hk=>⟨⟨⟨(h i hi k hk).1,(h i hi k hk).2⟩,(h i hi i hi).2⟩,(h k hk k hk).2⟩⟩
theorem Q0m {p:List Lot}{t:Int}(h:p≠[]):Q1b t p=TL p t:=by
 have hp:1≤p.length:=List.length_pos_iff.2 h;obtain⟨a,_,_,⟨i3,b3,c3⟩,⟨i4,b4,c4⟩⟩:=S2 h p.length hp (Nat.le_refl _);rw[Bool.eq_iff_iff,OA];unfold Q1b Q5h;simp only[Bool.and_eq_true,Bool.not_eq_true',decide_eq_true_eq,List.any_eq_false,bne_iff_ne,ne_eq,Decidable.not_not];generalize M9 p p.length=S at *
 constructor
 ·rintro⟨h1,h2⟩ i hi k hk;have e1:=h1 _ (by rw[Q6 hi];exact List.getElem_mem hi:p.getD i Xh∈p);have e2:=h1 _ (by rw[Q6 hk];exact List.getElem_mem hk:p.getD k Xh∈p);have u:=a i hi;have v:=a k hk;refine⟨e1.trans e2.symm,?_⟩;unfold Fe;rw[Nl];omega
 ·intro h1;refine⟨fun x hx=>?_,?_⟩
  ·obtain⟨i,hi,rfl⟩:=List.getElem_of_mem hx;have:=(h1 i hi 0 (by omega)).1
   rwa [Q6 hi] at this
  ·have:=(h1 i4 b4 i3 b3).2;unfold Fe at this;rw[Nl] at this;omega
def AB:XSp:=fun _ _ _ _=>False
theorem NJ {P:Program}{f:Nat}:XOk P f AB:=fun _ _ _ _ _ _ _ _ _ _ _ _ _ _ hx _=>hx.elim
def len8T:List UInt8:=[0,1,2,2,3,3,3,3,4,4,4,4,4,4,4,4,5,5,5,5,5,5,5,5,5,5,5,5,5,5,5,5,6,6,6,6,6,6,6,6,6,6,6,6,6,6,6,6,6,6,6,6,6,6,6,6,6,6,6,6,6,6,6,6,7,7,7,7,7,7,7,7,7,7,7,7,7,7,7,7,7,7,7,7,7,7,7,7,7,7,7,7,7,7,7,7,7,7,7,7,7,7,7,7,7,7,7,7,7,7,7,7,7,7,7,7,7,7,7,7,7,7,7,7,7,7,7,7,8,8,8,8,8,8,8,8,8,8,8,8,8,8,8,8,8,8,8,8,8,8,8,8,8,8,8,8,8,8,8,8,8,8,8,8,8,8,8,8,8,8,8,8,8,8,8,8,8,8,8,8,8,8,8,8,8,8,8,8,8,8,8,8,8,8,8,8,8,8,8,8,8,8,8,8,8,8,8,8,8,8,8,8,8,8,8,8,8,8,8,8,8,8,8,8,8,8,8,8,8,8,8,8,8,8,8,8,8,8,8,8,8,8,8,8,8,8,8,8,8,8,8,8,8,8,8,8]
def Lk (x:Int):Int:=((UInt8.toNat (List.getD len8T (Int.toNat x) 0):Nat):Int)
def Ku (p:Int×Int):Int:=BI p.1 p.2
def A0 {α:Type}[Inhabited α] (lt:α→α→Bool) (a:Nat):Nat→List α→List α
 |0,xs=>xs
 |j+1,xs=>if a<j+1∧lt (xs.getD (j+1) default) (xs.getD j default)=true then A0 lt a j ((xs.set (j+1) (xs.getD j default)).set j (xs.getD (j+1) default)) else xs
def IC {α:Type}[Inhabited α] (lt:α→α→Bool) (a:Nat):Nat→List α→List α
 |0,xs=>xs
 |n+1,xs=>A0 lt a (a+1+n) (IC lt a n xs)
def Vk {α:Type}[Inhabited α] (f:α×α→Int) (xs:List α) (a b:Nat):List α:=IC (fun x y=>decide (f (x,y)<0)) a (b-a-1) xs
section
variable {α:Type}[Inhabited α] {lt:α→α→Bool}
theorem AZ {xs:List α}{j:Nat}(h:j+1<xs.length):((xs.set (j+1) (xs.getD j default)).set j (xs.getD (j+1) default)).Perm xs:=by rw[Q6 (show j<xs.length by omega),Q6 h];exact List.set_set_perm h (by omega)
theorem Av {a:Nat}:∀ j {xs:List α},j<xs.length→(A0 lt a j xs).Perm xs
 |0,_,_=>.refl _
 |j+1,xs,h=>by
  unfold A0;split
  ·exact(Av j (by simp;omega)).trans (AZ h)
  ·exact .refl _
theorem N3 {a:Nat}{xs:List α}:∀ n,a+n<xs.length∨n=0→(IC lt a n xs).Perm xs
 |0,_=>.refl _
 |n+1,h=>by have ih:=N3 (a:=a) (xs:=xs) n (by omega);unfold IC;exact(Av _ (by rw[ih.length_eq];omega)).trans ih
theorem Xa {f:α×α→Int}{xs:List α}{a b:Nat}(h:b≤xs.length):(Vk f xs a b).Perm xs:=N3 _ (by omega)
theorem Q0f {a j:Nat}{xs:List α}(hj:a<j) (h:lt (xs.getD j default) (xs.getD (j-1) default)=true):A0 lt a j xs=A0 lt a (j-1) ((xs.set j (xs.getD (j-1) default)).set (j-1) (xs.getD j default)):=by obtain⟨k,rfl⟩:∃ k,j=k+1:=⟨j-1,by omega⟩;rw[Nat.add_sub_cancel] at h ⊢;rw[A0,if_pos ⟨hj,h⟩]
theorem Q2c {a j:Nat}{xs:List α}(h:¬ (a<j∧lt (xs.getD j default) (xs.getD (j-1) default)=true)):A0 lt a j xs=xs:=by
 cases j with
 |zero=>rfl
 |succ k=>rw[Nat.add_sub_cancel] at h;rw[A0,if_neg h]
theorem Ik {xs:List α}{j q:Nat}(h:j+1<xs.length):((xs.set (j+1) (xs.getD j default)).set j (xs.getD (j+1) default)).getD q default=if q=j then xs.getD (j+1) default else if q=j+1 then xs.getD j default else xs.getD q default:=by
 simp only[List.getD_eq_getElem?_getD,List.getElem?_set,List.length_set];by_cases h1:j=q
 ·subst h1;rw[if_pos rfl,if_pos (by omega),if_pos rfl];rfl
 ·rw[if_neg h1,if_neg (show ¬ q=j from fun e=>h1 e.symm)];by_cases h2:j+1=q
  ·subst h2;rw[if_pos rfl,if_pos h,if_pos rfl];rfl
  ·rw[if_neg h2,if_neg (show ¬ q=j+1 from fun e=>h2 e.symm)]
def Q5d (lt:α→α→Bool) (i:Nat) (xs:List α):Prop:=∀ p q,p<q→q≤i→lt (xs.getD q default) (xs.getD p default)=false
theorem AS (has:∀ x y,lt x y=true→lt y x=false) (mn:∀ x y z,lt y x=false→lt z y=false→lt z x=false) {i:Nat}:∀ j {xs:List α},j≤i→i<xs.length→(∀ p q,p<q→q≤i→q≠j→lt (xs.getD q default) (xs.getD p default)=false)→Q5d lt i (A0 lt 0 j xs)
 |0,xs,_,_,h=>fun p q h1 h2=>by rw[A0];exact h p q h1 h2 (by omega)
 |j+1,xs,hj,hi,h=>by
  rw[A0];split
  ·rename_i hc;refine AS has mn j (by omega) (by simp;exact hi) fun p q h1 h2 h3=>?_;rw[Ik (by omega),Ik (by omega),if_neg h3];by_cases hq:q=j+1
   ·rw[if_pos hq];by_cases hp:p=j
    ·rw[if_pos hp];exact has _ _ hc.2
    ·rw[if_neg hp,if_neg (by omega)];exact h p j (by omega) (by omega) (by omega)
   ·rw[if_neg hq];by_cases hp:p=j
    ·rw[if_pos hp];exact h (j+1) q (by omega) h2 (by omega)
    ·rw[if_neg hp];by_cases dz:p=j+1
     ·rw[if_pos dz];exact h j q (by omega) h2 (by omega)
     ·rw[if_neg dz];exact h p q h1 h2 (by omega)
  ·rename_i hc;have hc:lt (xs.getD (j+1) default) (xs.getD j default)=false:=by
    cases h5:lt (xs.getD (j+1) default) (xs.getD j default) with
    |false=>rfl
    |true=>exact(hc ⟨by omega,h5⟩).elim
   intro p q h1 h2;by_cases hq:q=j+1
   ·subst hq;by_cases hp:p=j
    ·subst hp;exact hc
    ·exact mn _ _ _ (h p j (by omega) (by omega) (by omega)) hc
   ·exact h p q h1 h2 hq
theorem Ee (has:∀ x y,lt x y=true→lt y x=false) (mn:∀ x y z,lt y x=false→lt z y=false→lt z x=false) {xs:List α}:∀ n,n<xs.length→Q5d lt n (IC lt 0 n xs)
 |0,_=>fun p q h1 h2=>by omega
 |n+1,h=>by have ih:=Ee has mn (xs:=xs) n (by omega);have hp:=N3 (lt:=lt) (a:=0) (xs:=xs) n (by omega);unfold IC;rw[show 0+1+n=n+1 by omega];exact AS has mn (n+1) (Nat.le_refl _) (by rw[hp.length_eq];omega) fun p q h1 h2 h3=>ih p q h1 (by omega)
theorem To {f:α×α→Int}(has:∀ x y,f (x,y)<0→¬ f (y,x)<0) (mn:∀ x y z,¬ f (y,x)<0→¬ f (z,y)<0→¬ f (z,x)<0) (xs:List α):(Vk f xs 0 xs.length).Pairwise fun x y=>¬ f (y,x)<0:=by
 cases hx:xs with
 |nil=>exact List.Pairwise.nil
 |cons x0 t =>
  have hlen:0<xs.length:=by rw[hx];simp
  rw[←hx];have h:=Ee (lt:=fun x y=>decide (f (x,y)<0)) (fun x y h=>by simpa using has x y (by simpa using h)) (fun x y z h1 h2=>by simpa using mn x y z (by simpa using h1) (by simpa using h2)) (xs:=xs) (xs.length-0-1) (by omega);have hl:=(Xa (f:=f) (a:=0) (Nat.le_refl xs.length)).length_eq;refine List.pairwise_iff_getElem.2 fun p q hp hq wy=>?_;have:=h p q wy (by omega);have cY:(IC (fun x y=>decide (f (x,y)<0)) 0 (xs.length-0-1) xs).getD q default=(Vk f xs 0 xs.length)[q]:=Q6 hq;have br:(IC (fun x y=>decide (f (x,y)<0)) 0 (xs.length-0-1) xs).getD p default=(Vk f xs 0 xs.length)[p]:=Q6 hp;rw[cY,br] at this;simpa using this
end
theorem Bm {x y:Int}:Ku (x,y)<0↔x<y:=by unfold Ku BI;dsimp only;split<;>(try split)<;>omega
theorem Z05 (xs:List Int):(Vk Ku xs 0 xs.length).Pairwise (·≤·) :=
 (To (f:=Ku) (fun x y h h2=>by rw[Bm] at h h2;omega) (fun x y z h1 h2 h3=>by rw[Bm] at h1 h2 h3;omega) xs).imp fun h=>by rw[Bm] at h;omega
theorem Z2j {xs:List Int}(h:xs.Nodup):(Vk Ku xs 0 xs.length).Pairwise (·<·):=by
 have h2:=(Xa (f:=Ku) (a:=0) (Nat.le_refl xs.length)).nodup_iff.2 h;exact((Z05 xs).and h2).imp fun h=>by have:=h.1;have:=h.2;omega
def Q61 (l:List Lot) (p:Int×Int):Int:=orI [BI (l.getD p.1.toNat Xh).1 (l.getD p.2.toNat Xh).1,BI (l.getD p.1.toNat Xh).2.1.1 (l.getD p.2.toNat Xh).2.1.1]
theorem Ft {a j:Nat}{α:Type}[Inhabited α] {f:α×α→Int}{ys T:List α}(e:A0 (fun x y=>decide (f (x,y)<0)) a j ys=T) (h:¬ (a<j∧f (ys.getD j default,ys.getD (j-1) default)<0)):ys=T:=by rw[←e,Q2c];intro hh;exact h ⟨hh.1,by simpa using hh.2⟩
theorem LU {a j:Nat}{α:Type}[Inhabited α] {f:α×α→Int}{ys T:List α}(e:A0 (fun x y=>decide (f (x,y)<0)) a j ys=T) (hj:a<j) (h:f (ys.getD j default,ys.getD (j-1) default)<0):A0 (fun x y=>decide (f (x,y)<0)) a (j-1) ((ys.set j (ys.getD (j-1) default)).set (j-1) (ys.getD j default))=T:=by rw[←e,Q0f hj (by simpa using h)]
theorem Hj {α:Type}[Inhabited α] {xs:List α}{j:Nat}(h0:0<j) (h:j<xs.length):((xs.set j (xs.getD (j-1) default)).set (j-1) (xs.getD j default)).Perm xs:=by obtain⟨k,rfl⟩:∃ k,j=k+1:=⟨j-1,by omega⟩;exact AZ h
end Go.Proofs.Tryz
namespace Go.Proofs.Tryz
open Go Go.V Go.Proofs
def Y1:AL (Int×Int×(List (Int×(Int×Int)×Int))×Int):=(.cons (.k (.i .i64)) (.cons (.k (.i .i64)) (.one (.ptr (.cons (.k (.list (.pair (.i .i64) (.pair (.pair (.i .i64) (.i .i64)) (.i .i64))))) (.one (.k (.i .i64))))))))
def N6 (d:Int×Int×(List (Int×(Int×Int)×Int))×Int):Prop:=d.2.2.1.length≤12∧(∀ y∈d.2.2.1,Zi y=true)∧0≤d.1∧d.1<d.2.2.1.length∧0≤d.2.1∧d.2.1<d.2.2.1.length
def WI (d:Int×Int×(List (Int×(Int×Int)×Int))×Int):SV:=.val (.i .i64) (Q61 d.2.2.1 (d.1,d.2.1))
def WK (d:Int×Int×(List (Int×(Int×Int)×Int))×Int):List OB:=[]
def ZN:CSp:=Yo Y1 N6 WI WK
def Zu (a:Int) (b:Int) (l:List (Int×(Int×Int)×Int)) (tl:Int):Prop :=
 (0≤a)∧(a<(List.length l))∧(0≤b)∧(b<(List.length l))∧(True)∧(0≤a)∧(a<(List.length l))∧(0≤b)∧(b<(List.length l))∧(True)∧([(BI ((gD l a (0,((0,0),0))).1) ((gD l b (0,((0,0),0))).1)),(BI ((gD l a (0,((0,0),0))).2.1.1) ((gD l b (0,((0,0),0))).2.1.1))].length≤1000)∧((orI [(BI ((gD l a (0,((0,0),0))).1) ((gD l b (0,((0,0),0))).1)),(BI ((gD l a (0,((0,0),0))).2.1.1) ((gD l b (0,((0,0),0))).2.1.1))])=(Q61 l (a,b))∧(True))
def Ya:Cx:=⟨[(3,(.i .i64))],[(50,XM),(49,Gf)],36,[],0,[],[],[],[],false,[],[],[],[]⟩
def NI (a:Int) (b:Int) (l:List (Int×(Int×Int)×Int)) (tl:Int):List (Nat×LoopAnn):=[]
theorem Nt (d:Int×Int×(List (Int×(Int×Int)×Int))×Int):gwp (Ya) (NI d.1 d.2.1 d.2.2.1 d.2.2.2) c83 0 (V8 [.tmp 5] (WI d) (WK d)) (Qr 36 (AL.can Y1 d))=Zu d.1 d.2.1 d.2.2.1 d.2.2.2:=by kernel_rfl
abbrev NB:Prop:=OkC Tryz.prog 83 ZN
theorem Ns (h:∀ (a:Int) (b:Int) (l:List (Int×(Int×Int)×Int)) (tl:Int),(l.length≤12∧(∀ y∈l,Zi y=true)∧0≤a∧a<l.length∧0≤b∧b<l.length)→Zu a b l tl):OkC Tryz.prog 83 ZN :=
 Z8 Z0n mixed (C:=Ya) (V:=fun (d:Int×Int×(List (Int×(Int×Int)×Int))×Int)=>Zu d.1 d.2.1 d.2.2.1 d.2.2.2) ⟨(.cons Ug (.cons CX .nil)),XsOk.nil,ItsOk.nil,YlOk.nil,IysOk.nil,XfOk.nil⟩ (Nt) fun d hp=>h d.1 d.2.1 d.2.2.1 d.2.2.2 hp
theorem Y8:NB:=Ns fun a b l tl h=>by obtain⟨h1,h2,h3,h4,h5,h6⟩:=h;unfold Zu;(try delta lI gD sT I64);simp only[List.length_cons,List.length_nil];and_intros<;>first|omega|trivial|rfl
def Uf:AL (Int):=(.one (.k (.i .u32)))
def Dx (d:Int):Prop:=False
def VC (d:Int):SV:=.val (.i .i64) (Lk d)
def VT (d:Int):List OB:=[]
def YP:CSp:=Yo Uf Dx VC VT
def Yg (x:Int):Prop :=
 ((decide (x≥(65536:Int)))=true →
  (0≤(16:Int))∧((decide ((Z9 .u32 x (16:Int))≥(256:Int)))=true →
   (0≤(8:Int))∧(I64 ((16:Int)+(8:Int)))∧(InK .u8 (Z9 .u32 (Z9 .u32 x (16:Int)) (8:Int)))∧(0≤(Z9 .u32 (Z9 .u32 x (16:Int)) (8:Int)))∧((Z9 .u32 (Z9 .u32 x (16:Int)) (8:Int))<(List.length len8T))∧(I64 ((UInt8.toNat (gD len8T (Z9 .u32 (Z9 .u32 x (16:Int)) (8:Int)) 0):Nat):Int))∧(I64 (((16:Int)+(8:Int))+((UInt8.toNat (gD len8T (Z9 .u32 (Z9 .u32 x (16:Int)) (8:Int)) 0):Nat):Int)))∧((((16:Int)+(8:Int))+((UInt8.toNat (gD len8T (Z9 .u32 (Z9 .u32 x (16:Int)) (8:Int)) 0):Nat):Int))=(Lk x)∧(True))) ∧
  ((decide ((Z9 .u32 x (16:Int))≥(256:Int)))=false →
   (InK .u8 (Z9 .u32 x (16:Int)))∧(0≤(Z9 .u32 x (16:Int)))∧((Z9 .u32 x (16:Int))<(List.length len8T))∧(I64 ((UInt8.toNat (gD len8T (Z9 .u32 x (16:Int)) 0):Nat):Int))∧(I64 ((16:Int)+((UInt8.toNat (gD len8T (Z9 .u32 x (16:Int)) 0):Nat):Int)))∧(((16:Int)+((UInt8.toNat (gD len8T (Z9 .u32 x (16:Int)) 0):Nat):Int))=(Lk x)∧(True)))) ∧
 ((decide (x≥(65536:Int)))=false →
  ((decide (x≥(256:Int)))=true →
   (0≤(8:Int))∧(I64 ((0:Int)+(8:Int)))∧(InK .u8 (Z9 .u32 x (8:Int)))∧(0≤(Z9 .u32 x (8:Int)))∧((Z9 .u32 x (8:Int))<(List.length len8T))∧(I64 ((UInt8.toNat (gD len8T (Z9 .u32 x (8:Int)) 0):Nat):Int))∧(I64 (((0:Int)+(8:Int))+((UInt8.toNat (gD len8T (Z9 .u32 x (8:Int)) 0):Nat):Int)))∧((((0:Int)+(8:Int))+((UInt8.toNat (gD len8T (Z9 .u32 x (8:Int)) 0):Nat):Int))=(Lk x)∧(True))) ∧
  ((decide (x≥(256:Int)))=false →
   (InK .u8 x)∧(0≤x)∧(x<(List.length len8T))∧(I64 ((UInt8.toNat (gD len8T x 0):Nat):Int))∧(I64 ((0:Int)+((UInt8.toNat (gD len8T x 0):Nat):Int)))∧(((0:Int)+((UInt8.toNat (gD len8T x 0):Nat):Int))=(Lk x)∧(True))))
def Ut:Cx:=⟨[],[],19,[],0,[],[],[],[],false,[],[],[],[]⟩
def Bc (x:Int):List (Nat×LoopAnn):=[]
theorem Br (d:Int):gwp (Ut) (Bc d) Z2g 0 (V8 [.tmp 2] (VC d) (VT d)) (Qr 19 (AL.can Uf d))=Yg d:=by kernel_rfl
abbrev BQ:Prop:=OkC Tryz.prog 117 YP
theorem Bd (h:∀ (x:Int),(False)→Yg x):OkC Tryz.prog 117 YP :=
 Z8 Q68 mixed (C:=Ut) (V:=fun (d:Int)=>Yg d) ⟨.nil,XsOk.nil,ItsOk.nil,YlOk.nil,IysOk.nil,XfOk.nil⟩ (Br) fun d hp=>h d hp
theorem Hb:BQ:=Bd fun x h=>h.elim
def Uc:AL (Int):=(.one (.k (.i .u64)))
def DJ (d:Int):Prop:=0≤d∧d≤255
def VA (d:Int):SV:=.val (.i .i64) (Lk d)
def VE (d:Int):List OB:=[]
def YI:CSp:=Yo Uc DJ VA VE
def Xt (x:Int):Prop :=
 ((decide (x≥(4294967296:Int)))=true →
  (0≤(32:Int))∧((decide ((Z9 .u64 x (32:Int))≥(65536:Int)))=true →
   (0≤(16:Int))∧(I64 ((32:Int)+(16:Int)))∧((decide ((Z9 .u64 (Z9 .u64 x (32:Int)) (16:Int))≥(256:Int)))=true →
    (0≤(8:Int))∧(I64 (((32:Int)+(16:Int))+(8:Int)))∧(InK .u8 (Z9 .u64 (Z9 .u64 (Z9 .u64 x (32:Int)) (16:Int)) (8:Int)))∧(0≤(Z9 .u64 (Z9 .u64 (Z9 .u64 x (32:Int)) (16:Int)) (8:Int)))∧((Z9 .u64 (Z9 .u64 (Z9 .u64 x (32:Int)) (16:Int)) (8:Int))<(List.length len8T))∧(I64 ((UInt8.toNat (gD len8T (Z9 .u64 (Z9 .u64 (Z9 .u64 x (32:Int)) (16:Int)) (8:Int)) 0):Nat):Int))∧(I64 ((((32:Int)+(16:Int))+(8:Int))+((UInt8.toNat (gD len8T (Z9 .u64 (Z9 .u64 (Z9 .u64 x (32:Int)) (16:Int)) (8:Int)) 0):Nat):Int)))∧(((((32:Int)+(16:Int))+(8:Int))+((UInt8.toNat (gD len8T (Z9 .u64 (Z9 .u64 (Z9 .u64 x (32:Int)) (16:Int)) (8:Int)) 0):Nat):Int))=(Lk x)∧(True))) ∧
   ((decide ((Z9 .u64 (Z9 .u64 x (32:Int)) (16:Int))≥(256:Int)))=false →
    (InK .u8 (Z9 .u64 (Z9 .u64 x (32:Int)) (16:Int)))∧(0≤(Z9 .u64 (Z9 .u64 x (32:Int)) (16:Int)))∧((Z9 .u64 (Z9 .u64 x (32:Int)) (16:Int))<(List.length len8T))∧(I64 ((UInt8.toNat (gD len8T (Z9 .u64 (Z9 .u64 x (32:Int)) (16:Int)) 0):Nat):Int))∧(I64 (((32:Int)+(16:Int))+((UInt8.toNat (gD len8T (Z9 .u64 (Z9 .u64 x (32:Int)) (16:Int)) 0):Nat):Int)))∧((((32:Int)+(16:Int))+((UInt8.toNat (gD len8T (Z9 .u64 (Z9 .u64 x (32:Int)) (16:Int)) 0):Nat):Int))=(Lk x)∧(True)))) ∧
  ((decide ((Z9 .u64 x (32:Int))≥(65536:Int)))=false →
   ((decide ((Z9 .u64 x (32:Int))≥(256:Int)))=true →
    (0≤(8:Int))∧(I64 ((32:Int)+(8:Int)))∧(InK .u8 (Z9 .u64 (Z9 .u64 x (32:Int)) (8:Int)))∧(0≤(Z9 .u64 (Z9 .u64 x (32:Int)) (8:Int)))∧((Z9 .u64 (Z9 .u64 x (32:Int)) (8:Int))<(List.length len8T))∧(I64 ((UInt8.toNat (gD len8T (Z9 .u64 (Z9 .u64 x (32:Int)) (8:Int)) 0):Nat):Int))∧(I64 (((32:Int)+(8:Int))+((UInt8.toNat (gD len8T (Z9 .u64 (Z9 .u64 x (32:Int)) (8:Int)) 0):Nat):Int)))∧((((32:Int)+(8:Int))+((UInt8.toNat (gD len8T (Z9 .u64 (Z9 .u64 x (32:Int)) (8:Int)) 0):Nat):Int))=(Lk x)∧(True))) ∧
   ((decide ((Z9 .u64 x (32:Int))≥(256:Int)))=false →
    (InK .u8 (Z9 .u64 x (32:Int)))∧(0≤(Z9 .u64 x (32:Int)))∧((Z9 .u64 x (32:Int))<(List.length len8T))∧(I64 ((UInt8.toNat (gD len8T (Z9 .u64 x (32:Int)) 0):Nat):Int))∧(I64 ((32:Int)+((UInt8.toNat (gD len8T (Z9 .u64 x (32:Int)) 0):Nat):Int)))∧(((32:Int)+((UInt8.toNat (gD len8T (Z9 .u64 x (32:Int)) 0):Nat):Int))=(Lk x)∧(True))))) ∧
 ((decide (x≥(4294967296:Int)))=false →
  ((decide (x≥(65536:Int)))=true →
   (0≤(16:Int))∧(I64 ((0:Int)+(16:Int)))∧((decide ((Z9 .u64 x (16:Int))≥(256:Int)))=true →
    (0≤(8:Int))∧(I64 (((0:Int)+(16:Int))+(8:Int)))∧(InK .u8 (Z9 .u64 (Z9 .u64 x (16:Int)) (8:Int)))∧(0≤(Z9 .u64 (Z9 .u64 x (16:Int)) (8:Int)))∧((Z9 .u64 (Z9 .u64 x (16:Int)) (8:Int))<(List.length len8T))∧(I64 ((UInt8.toNat (gD len8T (Z9 .u64 (Z9 .u64 x (16:Int)) (8:Int)) 0):Nat):Int))∧(I64 ((((0:Int)+(16:Int))+(8:Int))+((UInt8.toNat (gD len8T (Z9 .u64 (Z9 .u64 x (16:Int)) (8:Int)) 0):Nat):Int)))∧(((((0:Int)+(16:Int))+(8:Int))+((UInt8.toNat (gD len8T (Z9 .u64 (Z9 .u64 x (16:Int)) (8:Int)) 0):Nat):Int))=(Lk x)∧(True))) ∧
   ((decide ((Z9 .u64 x (16:Int))≥(256:Int)))=false →
    (InK .u8 (Z9 .u64 x (16:Int)))∧(0≤(Z9 .u64 x (16:Int)))∧((Z9 .u64 x (16:Int))<(List.length len8T))∧(I64 ((UInt8.toNat (gD len8T (Z9 .u64 x (16:Int)) 0):Nat):Int))∧(I64 (((0:Int)+(16:Int))+((UInt8.toNat (gD len8T (Z9 .u64 x (16:Int)) 0):Nat):Int)))∧((((0:Int)+(16:Int))+((UInt8.toNat (gD len8T (Z9 .u64 x (16:Int)) 0):Nat):Int))=(Lk x)∧(True)))) ∧
  ((decide (x≥(65536:Int)))=false →
   ((decide (x≥(256:Int)))=true →
    (0≤(8:Int))∧(I64 ((0:Int)+(8:Int)))∧(InK .u8 (Z9 .u64 x (8:Int)))∧(0≤(Z9 .u64 x (8:Int)))∧((Z9 .u64 x (8:Int))<(List.length len8T))∧(I64 ((UInt8.toNat (gD len8T (Z9 .u64 x (8:Int)) 0):Nat):Int))∧(I64 (((0:Int)+(8:Int))+((UInt8.toNat (gD len8T (Z9 .u64 x (8:Int)) 0):Nat):Int)))∧((((0:Int)+(8:Int))+((UInt8.toNat (gD len8T (Z9 .u64 x (8:Int)) 0):Nat):Int))=(Lk x)∧(True))) ∧
   ((decide (x≥(256:Int)))=false →
    (InK .u8 x)∧(0≤x)∧(x<(List.length len8T))∧(I64 ((UInt8.toNat (gD len8T x 0):Nat):Int))∧(I64 ((0:Int)+((UInt8.toNat (gD len8T x 0):Nat):Int)))∧(((0:Int)+((UInt8.toNat (gD len8T x 0):Nat):Int))=(Lk x)∧(True)))))
def Ue:Cx:=⟨[],[],25,[],0,[],[],[],[],false,[],[],[],[]⟩
def H2 (x:Int):List (Nat×LoopAnn):=[]
theorem Bl (d:Int):gwp (Ue) (H2 d) Z25 0 (V8 [.tmp 2] (VA d) (VE d)) (Qr 25 (AL.can Uc d))=Xt d:=by kernel_rfl
abbrev BA:Prop:=OkC Tryz.prog 118 YI
theorem Bo (h:∀ (x:Int),(0≤x∧x≤255)→Xt x):OkC Tryz.prog 118 YI :=
 Z8 Q5p mixed (C:=Ue) (V:=fun (d:Int)=>Xt d) ⟨.nil,XsOk.nil,ItsOk.nil,YlOk.nil,IysOk.nil,XfOk.nil⟩ (Bl) fun d hp=>h d hp
theorem B9:BA:=Bo fun x h=>by
 obtain⟨h1,h2⟩:=h;unfold Xt;(try delta lI gD sT I64);have aj:(UInt8.toNat (List.getD len8T (Int.toNat x) 0):Int)≤255:=by have:=(List.getD len8T (Int.toNat x) 0).toNat_lt;omega
 refine⟨fun c=>by simp at c;omega,fun _=>⟨fun c=>by simp at c;omega,fun _=>⟨fun c=>by simp at c;omega,fun _=>?_⟩⟩⟩;have hl:len8T.length=256:=by decide +kernel
 rw[hl];simp only[TK,Qj];refine⟨by omega,h1,by omega,by omega,by omega,?_⟩;unfold Lk;rw[Int.zero_add];exact(by and_intros<;>first|rfl|trivial|simp)
def M1:AL (Int):=(.one (.k (.i .u64)))
def Ho (d:Int):Prop:=0≤d∧d≤255
def Ni (d:Int):SV:=.val (.i .i64) (Lk d)
def UY (d:Int):List OB:=[]
def Ym:CSp:=Yo M1 Ho Ni UY
def Wm (x:Int):Prop :=
 (false=true →
  (InK .u32 x)∧(False)∧((Lk x)=(Lk x)∧(True))) ∧
 (false=false →
  (0≤x∧x≤255)∧((Lk x)=(Lk x)∧(True)))
def Mb:Cx:=⟨[],[(117,YP),(118,YI)],8,[],0,[],[],[],[],false,[],[],[],[]⟩
def PI (x:Int):List (Nat×LoopAnn):=[]
theorem Py (d:Int):gwp (Mb) (PI d) Z3z 0 (V8 [.tmp 2] (Ni d) (UY d)) (Qr 8 (AL.can M1 d))=Wm d:=by kernel_rfl
abbrev PX:Prop:=OkC Tryz.prog 100 Ym
theorem Ps (h:∀ (x:Int),(0≤x∧x≤255)→Wm x):OkC Tryz.prog 100 Ym :=
 Z8 Q69 mixed (C:=Mb) (V:=fun (d:Int)=>Wm d) ⟨(.cons Hb (.cons B9 .nil)),XsOk.nil,ItsOk.nil,YlOk.nil,IysOk.nil,XfOk.nil⟩ (Py) fun d hp=>h d hp
theorem NP:PX:=Ps fun x h=>by unfold Wm;(try delta lI gD sT I64);exact⟨(fun c=>by cases c),fun _=>⟨h,(by and_intros<;>first|rfl|trivial|simp)⟩⟩
def ZS:AL (Int×Int×((Int×Int→Prop)×(Int×Int→Int))):=(.cons (.k (.i .i64)) (.cons (.k (.i .i64)) (.one (.fn [(.i .i64),(.i .i64)] (.i .i64)))))
def Wy (xs:List Int) (nl:Bool) (d:Int×Int×((Int×Int→Prop)×(Int×Int→Int))):Prop:=0≤d.1∧d.1≤d.2.1∧d.2.1≤xs.length∧xs.length≤12∧(∀ x∈xs,∀ y∈xs,d.2.2.1 (x,y))
def ZE (xs:List Int) (nl:Bool) (d:Int×Int×((Int×Int→Prop)×(Int×Int→Int))):SV:=.tup []
def ZA (xs:List Int) (nl:Bool) (d:Int×Int×((Int×Int→Prop)×(Int×Int→Int))):List Int:=(Vk d.2.2.2 xs d.1.toNat d.2.1.toNat)
def Z4:XSp:=LR (gap [] 3) (Hu 3 (.i .i64) ZS Wy ZE ZA)
def Qx (xs:List Int) (nl:Bool) (a:Int) (b:Int) (p:(Int×Int→Prop)×(Int×Int→Int)):Prop:=∀ vals:List Value,
 (I64 (a+(1:Int)))∧∃ (e2:Unit) (d20:(List Int)×Bool×Int),((True∧a=a∧b=b∧(SV.pf [(.i .i64),(.i .i64)] (.i .i64) p.1 p.2=SV.pf [(.i .i64),(.i .i64)] (.i .i64) p.1 p.2)∧(a+(1:Int))=d20.2.2∧True)∧((xs=d20.1∧nl=d20.2.1)∧(vals=vals∧(True∧(([]:List SV)=[])))∧True)) ∧
 LoopP (fun (d2:(List Int)×Bool×Int) (q2:((List Int)×Bool×Int)→Prop) =>
  ((decide (d2.2.2<b))=true →
   ∃ (e5:Bool×Int) (d50:(List Int)×Int),((True∧a=a∧b=b∧(SV.pf [(.i .i64),(.i .i64)] (.i .i64) p.1 p.2=SV.pf [(.i .i64),(.i .i64)] (.i .i64) p.1 p.2)∧d2.2.2=e5.2∧d2.2.2=d50.2∧True)∧((d2.1=d50.1∧d2.2.1=e5.1)∧(vals=vals∧(True∧(([]:List SV)=[])))∧True)) ∧
   LoopP (fun (d5:(List Int)×Int) (q5:((List Int)×Int)→Prop) =>
    ((decide (d5.2 > a))=true→0≤d5.2)∧((decide (d5.2 > a))=true→d5.2<(List.length d5.1))∧((decide (d5.2 > a))=true→InK .i64 (d5.2-(1:Int)))∧((decide (d5.2 > a))=true→0≤(d5.2-(1:Int)))∧((decide (d5.2 > a))=true→(d5.2-(1:Int))<(List.length d5.1))∧((decide (d5.2 > a))=true→p.1 ((gD d5.1 d5.2 0),(gD d5.1 (d5.2-(1:Int)) 0)))∧(((decide (d5.2 > a))&&(decide ((p.2 ((gD d5.1 d5.2 0),(gD d5.1 (d5.2-(1:Int)) 0)))<(0:Int))))=true →
     (I64 (d5.2-(1:Int)))∧(I64 (d5.2-(1:Int)))∧(0≤(d5.2-(1:Int)))∧((d5.2-(1:Int))<(List.length d5.1))∧(0≤d5.2)∧(d5.2<(List.length d5.1))∧(0≤d5.2)∧(d5.2<(List.length d5.1))∧(0≤(d5.2-(1:Int)))∧((d5.2-(1:Int))<(List.length (sT d5.1 d5.2 (gD d5.1 (d5.2-(1:Int)) 0))))∧(I64 (d5.2-(1:Int)))∧(∃ d6:(List Int)×Int,((True∧a=a∧b=b∧(SV.pf [(.i .i64),(.i .i64)] (.i .i64) p.1 p.2=SV.pf [(.i .i64),(.i .i64)] (.i .i64) p.1 p.2)∧e5.2=e5.2∧(d5.2-(1:Int))=d6.2∧True)∧(((sT (sT d5.1 d5.2 (gD d5.1 (d5.2-(1:Int)) 0)) (d5.2-(1:Int)) (gD d5.1 d5.2 0))=d6.1∧e5.1=e5.1)∧(vals=vals∧(True∧(([]:List SV)=[])))∧True))∧q5 d6)) ∧
    (((decide (d5.2 > a))&&(decide ((p.2 ((gD d5.1 d5.2 0),(gD d5.1 (d5.2-(1:Int)) 0)))<(0:Int))))=false →
     (I64 (e5.2+(1:Int)))∧(∃ d7:(List Int)×Bool×Int,((True∧a=a∧b=b∧(SV.pf [(.i .i64),(.i .i64)] (.i .i64) p.1 p.2=SV.pf [(.i .i64),(.i .i64)] (.i .i64) p.1 p.2)∧(e5.2+(1:Int))=d7.2.2∧True)∧((d5.1=d7.1∧e5.1=d7.2.1)∧(vals=vals∧(True∧(([]:List SV)=[])))∧True))∧q2 d7))) d50) ∧
  ((decide (d2.2.2<b))=false →
   (vals=vals∧(True∧(([]:List SV)=[]))∧((([]:List SV)=[]))∧(d2.1=(Vk p.2 xs a.toNat b.toNat)∧d2.2.1=nl)))) d20
def ZW:Cx:=⟨[],[],53,[],0,[],[],[],[],false,[],[],[],[]⟩
def ZT (xs:List Int) (nl:Bool) (a:Int) (b:Int) (p:(Int×Int→Prop)×(Int×Int→Int)) (vals:List Value):List (Nat×LoopAnn):=[(0,⟨Unit,(List Int)×Bool×Int,[0,1,2,3,8],fun e x=>[.lst 0,.val (.i .i64) a,.val (.i .i64) b,.pf [(.i .i64),(.i .i64)] (.i .i64) p.1 p.2,.val (.i .i64) x.2.2],fun e x=>[(0,.slot 0,.lst 3 (.i .i64) x.1 x.2.1),(4000000,.key 4000000,.stk [.lst 0] vals)]⟩),
 (2,⟨Bool×Int,(List Int)×Int,[0,1,2,3,8,9],fun e x=>[.lst 0,.val (.i .i64) a,.val (.i .i64) b,.pf [(.i .i64),(.i .i64)] (.i .i64) p.1 p.2,.val (.i .i64) e.2,.val (.i .i64) x.2],fun e x=>[(0,.slot 0,.lst 3 (.i .i64) x.1 e.1),(4000000,.key 4000000,.stk [.lst 0] vals)]⟩)]
theorem WX (xs:List Int) (nl:Bool) (d:Int×Int×((Int×Int→Prop)×(Int×Int→Int))):(∀ vals,gwp ZW (ZT xs nl d.1 d.2.1 d.2.2 vals) Z3p 0 (HN vals [] (ZE xs nl d) (.lst 3 (.i .i64) (ZA xs nl d) nl) (.lst 0)) (X6 53 (.lst 0) (.lst 3 (.i .i64) xs nl) vals (AL.can ZS d)))=Qx xs nl d.1 d.2.1 d.2.2:=by kernel_rfl
abbrev WS:Prop:=XOk Tryz.prog 106 Z4
theorem WW (h:∀ (xs:List Int) (nl:Bool) (a:Int) (b:Int) (p:(Int×Int→Prop)×(Int×Int→Int)),(0≤a∧a≤b∧b≤xs.length∧xs.length≤12∧(∀ x∈xs,∀ y∈xs,p.1 (x,y)))→Qx xs nl a b p):XOk Tryz.prog 106 Z4 :=
 Gy Q5z mixed (BU .nil 3) (C:=ZW) ⟨.nil,XsOk.nil,ItsOk.nil,YlOk.nil,IysOk.nil,XfOk.nil⟩ (L:=fun xs nl (d:Int×Int×((Int×Int→Prop)×(Int×Int→Int))) vals=>ZT xs nl d.1 d.2.1 d.2.2 vals) (V:=fun xs nl (d:Int×Int×((Int×Int→Prop)×(Int×Int→Int)))=>Qx xs nl d.1 d.2.1 d.2.2) WX fun xs nl d hp=>h xs nl d.1 d.2.1 d.2.2 hp
theorem WC:WS:=WW fun xs nl a b p h=>by
 obtain⟨h1,h2,h3,h4,h5⟩:=h;unfold Qx;(try delta lI gD sT I64);intro vals;have hI:∀ e:Int,-1000≤e→e≤1000→InK .i64 e:=fun e _ _=>by simp only[Qj];omega
 obtain⟨a,rfl⟩:∃ n:Nat,a=n:=⟨a.toNat,by omega⟩;obtain⟨b,rfl⟩:∃ n:Nat,b=n:=⟨b.toNat,by omega⟩;simp only[Int.toNat_natCast];refine⟨hI _ (by omega) (by omega),(),(xs,nl,(a:Int)+1),(by and_intros<;>first|rfl|trivial|simp),?_⟩;refine⟨fun d=>∃ n:Nat,d.2.2=(a:Int)+1+n∧(n=0∨a+1+n≤b)∧nl=d.2.1∧d.1=IC (fun x y=>decide (p.2 (x,y)<0)) a n xs,fun d=>(1000-d.2.2).toNat,⟨0,by simp,.inl rfl,rfl,rfl⟩,?_⟩;rintro⟨ys,hZ,i⟩ ⟨n,e1,e2,e3,e4⟩;dsimp only at e1 e2 e3 e4 ⊢;subst e1 e3;refine⟨fun c=>?_,fun c=>?_⟩
 ·have c:a+1+n<b:=by simp at c;omega
  have hp:ys.Perm xs:=by rw[e4];exact N3 _ (by omega)
  have hlen:=hp.length_eq;refine⟨(nl,(a:Int)+1+n),(ys,(a:Int)+1+n),(by and_intros<;>first|rfl|trivial|simp),?_⟩;dsimp only;refine⟨fun d=>∃ j:Nat,d.2=j∧j≤a+1+n∧d.1.Perm xs∧A0 (fun x y=>decide (p.2 (x,y)<0)) a j d.1=IC (fun x y=>decide (p.2 (x,y)<0)) a (n+1) xs,fun d=>d.2.toNat,⟨a+1+n,by simp,Nat.le_refl _,hp,by rw[e4];rfl⟩,?_⟩;rintro⟨zs,j'⟩ ⟨j,f1,f2,f3,f4⟩;dsimp only at f1 f3 f4 ⊢;subst f1;have tO:=f3.length_eq;have fK:((j:Int)-1).toNat=j-1:=by omega
  simp only[Int.toNat_natCast,fK];refine⟨fun g=>by omega,fun g=>by omega,fun g=>hI _ (by omega) (by omega),fun g=>by simp at g;omega,fun g=>by omega,fun g=>by rw[Q6 (show j<zs.length by omega),Q6 (show j-1<zs.length by omega)];exact h5 _ (f3.mem_iff.1 (List.getElem_mem _)) _ (f3.mem_iff.1 (List.getElem_mem _)),fun g=>?_,fun g=>?_⟩
  ·have g:a<j∧p.2 (zs.getD j 0,zs.getD (j-1) 0)<0:=by simpa using g
   refine⟨hI _ (by omega) (by omega),hI _ (by omega) (by omega),by omega,by omega,by omega,by omega,by omega,by omega,by omega,by rw[List.length_set];omega,hI _ (by omega) (by omega),((zs.set j (zs.getD (j-1) 0)).set (j-1) (zs.getD j 0),(j:Int)-1),(by and_intros<;>first|rfl|trivial|simp),⟨j-1,by omega,by omega,(Hj (by omega) (by omega)).trans f3,LU f4 g.1 g.2⟩,by dsimp only;omega⟩
  ·refine⟨hI _ (by omega) (by omega),(zs,nl,(a:Int)+1+n+1),(by and_intros<;>first|rfl|trivial|simp),⟨n+1,by simp;omega,by omega,rfl,Ft f4 fun hh=>?_⟩,by dsimp only;omega⟩;have h7:p.2 (zs.getD j 0,zs.getD (j-1) 0)<0:=hh.2;have h8:a<j:=hh.1;rw[decide_eq_true (show (j:Int) > a by omega),decide_eq_true h7] at g;cases g
 ·have hn:n=b-a-1:=by simp at c;omega
  rw[e4,hn];exact(by and_intros<;>first|rfl|trivial|simp)
def Zy:AL (Int×Int×((List Int×List Int→Prop)×(List Int×List Int→Int))):=(.cons (.k (.i .i64)) (.cons (.k (.i .i64)) (.one (.fn [(.list (.i .i64)),(.list (.i .i64))] (.i .i64)))))
def W3 (xs:List (List Int)) (nl:Bool) (d:Int×Int×((List Int×List Int→Prop)×(List Int×List Int→Int))):Prop:=0≤d.1∧d.1≤d.2.1∧d.2.1≤xs.length∧xs.length≤12∧(∀ x∈xs,∀ y∈xs,d.2.2.1 (x,y))
def Zt (xs:List (List Int)) (nl:Bool) (d:Int×Int×((List Int×List Int→Prop)×(List Int×List Int→Int))):SV:=.tup []
def Zo (xs:List (List Int)) (nl:Bool) (d:Int×Int×((List Int×List Int→Prop)×(List Int×List Int→Int))):List (List Int):=(Vk d.2.2.2 xs d.1.toNat d.2.1.toNat)
def QU:XSp:=OD (gap [] 3) (Hu 46 (.list (.i .i64)) Zy W3 Zt Zo)
def Qq (xs:List (List Int)) (nl:Bool) (a:Int) (b:Int) (p:(List Int×List Int→Prop)×(List Int×List Int→Int)):Prop:=∀ vals:List Value,
 (I64 (a+(1:Int)))∧∃ (e2:Unit) (d20:(List (List Int))×Bool×Int),((True∧a=a∧b=b∧(SV.pf [(.list (.i .i64)),(.list (.i .i64))] (.i .i64) p.1 p.2=SV.pf [(.list (.i .i64)),(.list (.i .i64))] (.i .i64) p.1 p.2)∧(a+(1:Int))=d20.2.2∧True)∧((xs=d20.1∧nl=d20.2.1)∧(vals=vals∧(True∧(([]:List SV)=[])))∧True)) ∧
 LoopP (fun (d2:(List (List Int))×Bool×Int) (q2:((List (List Int))×Bool×Int)→Prop) =>
  ((decide (d2.2.2<b))=true →
   ∃ (e5:Bool×Int) (d50:(List (List Int))×Int),((True∧a=a∧b=b∧(SV.pf [(.list (.i .i64)),(.list (.i .i64))] (.i .i64) p.1 p.2=SV.pf [(.list (.i .i64)),(.list (.i .i64))] (.i .i64) p.1 p.2)∧d2.2.2=e5.2∧d2.2.2=d50.2∧True)∧((d2.1=d50.1∧d2.2.1=e5.1)∧(vals=vals∧(True∧(([]:List SV)=[])))∧True)) ∧
   LoopP (fun (d5:(List (List Int))×Int) (q5:((List (List Int))×Int)→Prop) =>
    ((decide (d5.2 > a))=true→0≤d5.2)∧((decide (d5.2 > a))=true→d5.2<(List.length d5.1))∧((decide (d5.2 > a))=true→InK .i64 (d5.2-(1:Int)))∧((decide (d5.2 > a))=true→0≤(d5.2-(1:Int)))∧((decide (d5.2 > a))=true→(d5.2-(1:Int))<(List.length d5.1))∧((decide (d5.2 > a))=true→p.1 ((gD d5.1 d5.2 []),(gD d5.1 (d5.2-(1:Int)) [])))∧(((decide (d5.2 > a))&&(decide ((p.2 ((gD d5.1 d5.2 []),(gD d5.1 (d5.2-(1:Int)) [])))<(0:Int))))=true →
     (I64 (d5.2-(1:Int)))∧(I64 (d5.2-(1:Int)))∧(0≤(d5.2-(1:Int)))∧((d5.2-(1:Int))<(List.length d5.1))∧(0≤d5.2)∧(d5.2<(List.length d5.1))∧(0≤d5.2)∧(d5.2<(List.length d5.1))∧(0≤(d5.2-(1:Int)))∧((d5.2-(1:Int))<(List.length (sT d5.1 d5.2 (gD d5.1 (d5.2-(1:Int)) []))))∧(I64 (d5.2-(1:Int)))∧(∃ d6:(List (List Int))×Int,((True∧a=a∧b=b∧(SV.pf [(.list (.i .i64)),(.list (.i .i64))] (.i .i64) p.1 p.2=SV.pf [(.list (.i .i64)),(.list (.i .i64))] (.i .i64) p.1 p.2)∧e5.2=e5.2∧(d5.2-(1:Int))=d6.2∧True)∧(((sT (sT d5.1 d5.2 (gD d5.1 (d5.2-(1:Int)) [])) (d5.2-(1:Int)) (gD d5.1 d5.2 []))=d6.1∧e5.1=e5.1)∧(vals=vals∧(True∧(([]:List SV)=[])))∧True))∧q5 d6)) ∧
    (((decide (d5.2 > a))&&(decide ((p.2 ((gD d5.1 d5.2 []),(gD d5.1 (d5.2-(1:Int)) [])))<(0:Int))))=false →
     (I64 (e5.2+(1:Int)))∧(∃ d7:(List (List Int))×Bool×Int,((True∧a=a∧b=b∧(SV.pf [(.list (.i .i64)),(.list (.i .i64))] (.i .i64) p.1 p.2=SV.pf [(.list (.i .i64)),(.list (.i .i64))] (.i .i64) p.1 p.2)∧(e5.2+(1:Int))=d7.2.2∧True)∧((d5.1=d7.1∧e5.1=d7.2.1)∧(vals=vals∧(True∧(([]:List SV)=[])))∧True))∧q2 d7))) d50) ∧
  ((decide (d2.2.2<b))=false →
   (vals=vals∧(True∧(([]:List SV)=[]))∧((([]:List SV)=[]))∧(d2.1=(Vk p.2 xs a.toNat b.toNat)∧d2.2.1=nl)))) d20
def Zz:Cx:=⟨[],[],53,[0],0,[],[],[],[],false,[],[],[],[]⟩
def Zx (xs:List (List Int)) (nl:Bool) (a:Int) (b:Int) (p:(List Int×List Int→Prop)×(List Int×List Int→Int)) (vals:List Value):List (Nat×LoopAnn):=[(0,⟨Unit,(List (List Int))×Bool×Int,[0,1,2,3,8],fun e x=>[.lst 0,.val (.i .i64) a,.val (.i .i64) b,.pf [(.list (.i .i64)),(.list (.i .i64))] (.i .i64) p.1 p.2,.val (.i .i64) x.2.2],fun e x=>[(0,.slot 0,.lst 46 (.list (.i .i64)) x.1 x.2.1),(4000000,.key 4000000,.stk [.lst 0] vals)]⟩),
 (2,⟨Bool×Int,(List (List Int))×Int,[0,1,2,3,8,9],fun e x=>[.lst 0,.val (.i .i64) a,.val (.i .i64) b,.pf [(.list (.i .i64)),(.list (.i .i64))] (.i .i64) p.1 p.2,.val (.i .i64) e.2,.val (.i .i64) x.2],fun e x=>[(0,.slot 0,.lst 46 (.list (.i .i64)) x.1 e.1),(4000000,.key 4000000,.stk [.lst 0] vals)]⟩)]
theorem Wa (xs:List (List Int)) (nl:Bool) (d:Int×Int×((List Int×List Int→Prop)×(List Int×List Int→Int))):(∀ vals,gwp Zz (Zx xs nl d.1 d.2.1 d.2.2 vals) Z3h 0 (HN vals [] (Zt xs nl d) (.lst 46 (.list (.i .i64)) (Zo xs nl d) nl) (.lst 0)) (X6 53 (.lst 0) (.lst 46 (.list (.i .i64)) xs nl) vals (AL.can Zy d)))=Qq xs nl d.1 d.2.1 d.2.2:=by kernel_rfl
abbrev Wg:Prop:=XOk Tryz.prog 119 QU
theorem Wd (h:∀ (xs:List (List Int)) (nl:Bool) (a:Int) (b:Int) (p:(List Int×List Int→Prop)×(List Int×List Int→Int)),(0≤a∧a≤b∧b≤xs.length∧xs.length≤12∧(∀ x∈xs,∀ y∈xs,p.1 (x,y)))→Qq xs nl a b p):XOk Tryz.prog 119 QU :=
 RN Q5o mixed (BU .nil 3) (C:=Zz) ⟨.nil,XsOk.nil,ItsOk.nil,YlOk.nil,IysOk.nil,XfOk.nil⟩ (L:=fun xs nl (d:Int×Int×((List Int×List Int→Prop)×(List Int×List Int→Int))) vals=>Zx xs nl d.1 d.2.1 d.2.2 vals) (V:=fun xs nl (d:Int×Int×((List Int×List Int→Prop)×(List Int×List Int→Int)))=>Qq xs nl d.1 d.2.1 d.2.2) Wa fun xs nl d hp=>h xs nl d.1 d.2.1 d.2.2 hp
theorem W4:Wg:=Wd fun xs nl a b p h=>by
 obtain⟨h1,h2,h3,h4,h5⟩:=h;unfold Qq;(try delta lI gD sT I64);intro vals;have hI:∀ e:Int,-1000≤e→e≤1000→InK .i64 e:=fun e _ _=>by simp only[Qj];omega
 obtain⟨a,rfl⟩:∃ n:Nat,a=n:=⟨a.toNat,by omega⟩;obtain⟨b,rfl⟩:∃ n:Nat,b=n:=⟨b.toNat,by omega⟩;simp only[Int.toNat_natCast];refine⟨hI _ (by omega) (by omega),(),(xs,nl,(a:Int)+1),(by and_intros<;>first|rfl|trivial|simp),?_⟩;refine⟨fun d=>∃ n:Nat,d.2.2=(a:Int)+1+n∧(n=0∨a+1+n≤b)∧nl=d.2.1∧d.1=IC (fun x y=>decide (p.2 (x,y)<0)) a n xs,fun d=>(1000-d.2.2).toNat,⟨0,by simp,.inl rfl,rfl,rfl⟩,?_⟩;rintro⟨ys,hZ,i⟩ ⟨n,e1,e2,e3,e4⟩;dsimp only at e1 e2 e3 e4 ⊢;subst e1 e3;refine⟨fun c=>?_,fun c=>?_⟩
 ·have c:a+1+n<b:=by simp at c;omega
  have hp:ys.Perm xs:=by rw[e4];exact N3 _ (by omega)
  have hlen:=hp.length_eq;refine⟨(nl,(a:Int)+1+n),(ys,(a:Int)+1+n),(by and_intros<;>first|rfl|trivial|simp),?_⟩;dsimp only;refine⟨fun d=>∃ j:Nat,d.2=j∧j≤a+1+n∧d.1.Perm xs∧A0 (fun x y=>decide (p.2 (x,y)<0)) a j d.1=IC (fun x y=>decide (p.2 (x,y)<0)) a (n+1) xs,fun d=>d.2.toNat,⟨a+1+n,by simp,Nat.le_refl _,hp,by rw[e4];rfl⟩,?_⟩;rintro⟨zs,j'⟩ ⟨j,f1,f2,f3,f4⟩;dsimp only at f1 f3 f4 ⊢;subst f1;have tO:=f3.length_eq;have fK:((j:Int)-1).toNat=j-1:=by omega
  simp only[Int.toNat_natCast,fK];refine⟨fun g=>by omega,fun g=>by omega,fun g=>hI _ (by omega) (by omega),fun g=>by simp at g;omega,fun g=>by omega,fun g=>by rw[Q6 (show j<zs.length by omega),Q6 (show j-1<zs.length by omega)];exact h5 _ (f3.mem_iff.1 (List.getElem_mem _)) _ (f3.mem_iff.1 (List.getElem_mem _)),fun g=>?_,fun g=>?_⟩
  ·have g:a<j∧p.2 (zs.getD j [],zs.getD (j-1) [])<0:=by simpa using g
   refine⟨hI _ (by omega) (by omega),hI _ (by omega) (by omega),by omega,by omega,by omega,by omega,by omega,by omega,by omega,by rw[List.length_set];omega,hI _ (by omega) (by omega),((zs.set j (zs.getD (j-1) [])).set (j-1) (zs.getD j []),(j:Int)-1),(by and_intros<;>first|rfl|trivial|simp),⟨j-1,by omega,by omega,(Hj (by omega) (by omega)).trans f3,LU f4 g.1 g.2⟩,by dsimp only;omega⟩
  ·refine⟨hI _ (by omega) (by omega),(zs,nl,(a:Int)+1+n+1),(by and_intros<;>first|rfl|trivial|simp),⟨n+1,by simp;omega,by omega,rfl,Ft f4 fun hh=>?_⟩,by dsimp only;omega⟩;have h7:p.2 (zs.getD j [],zs.getD (j-1) [])<0:=hh.2;have h8:a<j:=hh.1;rw[decide_eq_true (show (j:Int) > a by omega),decide_eq_true h7] at g;cases g
 ·have hn:n=b-a-1:=by simp at c;omega
  rw[e4,hn];exact(by and_intros<;>first|rfl|trivial|simp)
def XD:AL (Int×((Int×Int→Prop)×(Int×Int→Int))):=(.cons (.k (.i .i64)) (.one (.fn [(.i .i64),(.i .i64)] (.i .i64))))
def KN (xs:List Int) (nl:Bool) (d:Int×((Int×Int→Prop)×(Int×Int→Int))):Prop:=d.1=xs.length∧xs.length≤12∧(∀ x∈xs,∀ y∈xs,d.2.1 (x,y))
def Xv (xs:List Int) (nl:Bool) (d:Int×((Int×Int→Prop)×(Int×Int→Int))):SV:=.tup []
def Xb (xs:List Int) (nl:Bool) (d:Int×((Int×Int→Prop)×(Int×Int→Int))):List Int:=(Vk d.2.2 xs 0 xs.length)
def ZZ:XSp:=LR (gap [] 3) (Hu 3 (.i .i64) XD KN Xv Xb)
def Z3 (xs:List Int) (nl:Bool) (n:Int) (p:(Int×Int→Prop)×(Int×Int→Int)):Prop:=∀ vals:List Value,
 ∃ (e3:Unit) (d30:(List Int)×Int×Int),((True∧n=n∧(SV.pf [(.i .i64),(.i .i64)] (.i .i64) p.1 p.2=SV.pf [(.i .i64),(.i .i64)] (.i .i64) p.1 p.2)∧(20:Int)=(20:Int)∧(0:Int)=d30.2.1∧(20:Int)=d30.2.2∧True)∧((xs=d30.1∧nl=nl)∧(vals=vals∧(True∧(([]:List SV)=[])))∧True)) ∧
 LoopP (fun (d3:(List Int)×Int×Int) (q3:((List Int)×Int×Int)→Prop) =>
  ((decide (d3.2.2≤n))=true →
   (0≤d3.2.1∧d3.2.1≤d3.2.2∧d3.2.2≤d3.1.length∧d3.1.length≤12∧(∀ x∈d3.1,∀ y∈d3.1,(fun (x1:Int×Int)=>p.1 (x1.1,x1.2)) (x,y)))∧(I64 (d3.2.2+(20:Int)))∧(∃ d4:(List Int)×Int×Int,((True∧n=n∧(SV.pf [(.i .i64),(.i .i64)] (.i .i64) p.1 p.2=SV.pf [(.i .i64),(.i .i64)] (.i .i64) p.1 p.2)∧(20:Int)=(20:Int)∧d3.2.2=d4.2.1∧(d3.2.2+(20:Int))=d4.2.2∧True)∧(((Vk (fun (x1:Int×Int)=>(p.2 (x1.1,x1.2))) d3.1 d3.2.1.toNat d3.2.2.toNat)=d4.1∧nl=nl)∧(vals=vals∧(True∧(([]:List SV)=[])))∧True))∧q3 d4)) ∧
  ((decide (d3.2.2≤n))=false →
   (0≤d3.2.1∧d3.2.1≤n∧n≤d3.1.length∧d3.1.length≤12∧(∀ x∈d3.1,∀ y∈d3.1,(fun (x2:Int×Int)=>p.1 (x2.1,x2.2)) (x,y)))∧∃ (e7:(List Int)) (d70:Bool×Int),((True∧n=n∧(SV.pf [(.i .i64),(.i .i64)] (.i .i64) p.1 p.2=SV.pf [(.i .i64),(.i .i64)] (.i .i64) p.1 p.2)∧(20:Int)=d70.2∧True)∧(((Vk (fun (x2:Int×Int)=>(p.2 (x2.1,x2.2))) d3.1 d3.2.1.toNat n.toNat)=e7∧nl=d70.1)∧(vals=vals∧(True∧(([]:List SV)=[])))∧True)) ∧
   LoopP (fun (d7:Bool×Int) (q7:(Bool×Int)→Prop) =>
    ((decide (d7.2<n))=true →
     (I64 ((2:Int)*d7.2))∧∃ (bF:(List Int)×Bool×Int×Int) (d100:Unit),((True∧n=n∧(SV.pf [(.i .i64),(.i .i64)] (.i .i64) p.1 p.2=SV.pf [(.i .i64),(.i .i64)] (.i .i64) p.1 p.2)∧d7.2=bF.2.2.1∧(0:Int)=(0:Int)∧((2:Int)*d7.2)=bF.2.2.2∧True)∧((e7=bF.1∧d7.1=bF.2.1)∧(vals=vals∧(True∧(([]:List SV)=[])))∧True)) ∧
     LoopP (fun (d10:Unit) (tP:(Unit)→Prop) =>
      ((decide (bF.2.2.2≤n))=true →
       (I64 ((0:Int)+bF.2.2.1))∧False) ∧
      ((decide (bF.2.2.2≤n))=false →
       (I64 ((0:Int)+bF.2.2.1))∧((decide (((0:Int)+bF.2.2.1)<n))=true →
        False) ∧
       ((decide (((0:Int)+bF.2.2.1)<n))=false →
        (I64 (bF.2.2.1*(2:Int)))∧(∃ d11:Bool×Int,((True∧n=n∧(SV.pf [(.i .i64),(.i .i64)] (.i .i64) p.1 p.2=SV.pf [(.i .i64),(.i .i64)] (.i .i64) p.1 p.2)∧(bF.2.2.1*(2:Int))=d11.2∧True)∧((bF.1=e7∧bF.2.1=d11.1)∧(vals=vals∧(True∧(([]:List SV)=[])))∧True))∧q7 d11)))) d100) ∧
    ((decide (d7.2<n))=false →
     (vals=vals∧(True∧(([]:List SV)=[]))∧((([]:List SV)=[]))∧(e7=(Vk p.2 xs 0 xs.length)∧d7.1=nl)))) d70)) d30
def Xx:Cx:=⟨[],[],63,[],0,[(106,Z4),(107,AB)],[],[],[],false,[],[],[],[]⟩
def XJ (xs:List Int) (nl:Bool) (n:Int) (p:(Int×Int→Prop)×(Int×Int→Int)) (vals:List Value):List (Nat×LoopAnn):=[(0,⟨Unit,(List Int)×Int×Int,[0,1,2,6,7,8],fun e x=>[.lst 0,.val (.i .i64) n,.pf [(.i .i64),(.i .i64)] (.i .i64) p.1 p.2,.val (.i .i64) (20:Int),.val (.i .i64) x.2.1,.val (.i .i64) x.2.2],fun e x=>[(0,.slot 0,.lst 3 (.i .i64) x.1 nl),(4000000,.key 4000000,.stk [.lst 0] vals)]⟩),
 (2,⟨(List Int),Bool×Int,[0,1,2,6],fun e x=>[.lst 0,.val (.i .i64) n,.pf [(.i .i64),(.i .i64)] (.i .i64) p.1 p.2,.val (.i .i64) x.2],fun e x=>[(0,.slot 0,.lst 3 (.i .i64) e x.1),(4000000,.key 4000000,.stk [.lst 0] vals)]⟩),
 (4,⟨(List Int)×Bool×Int×Int,Unit,[0,1,2,6,7,8],fun e x=>[.lst 0,.val (.i .i64) n,.pf [(.i .i64),(.i .i64)] (.i .i64) p.1 p.2,.val (.i .i64) e.2.2.1,.val (.i .i64) (0:Int),.val (.i .i64) e.2.2.2],fun e x=>[(0,.slot 0,.lst 3 (.i .i64) e.1 e.2.1),(4000000,.key 4000000,.stk [.lst 0] vals)]⟩)]
theorem VI (xs:List Int) (nl:Bool) (d:Int×((Int×Int→Prop)×(Int×Int→Int))):(∀ vals,gwp Xx (XJ xs nl d.1 d.2 vals) c98 0 (HN vals [] (Xv xs nl d) (.lst 3 (.i .i64) (Xb xs nl d) nl) (.lst 0)) (X6 63 (.lst 0) (.lst 3 (.i .i64) xs nl) vals (AL.can XD d)))=Z3 xs nl d.1 d.2:=by kernel_rfl
abbrev Vx:Prop:=XOk Tryz.prog 98 ZZ
theorem VF (h:∀ (xs:List Int) (nl:Bool) (n:Int) (p:(Int×Int→Prop)×(Int×Int→Int)),(n=xs.length∧xs.length≤12∧(∀ x∈xs,∀ y∈xs,p.1 (x,y)))→Z3 xs nl n p):XOk Tryz.prog 98 ZZ :=
 Gy Q84 mixed (BU .nil 3) (C:=Xx) ⟨.nil,(XsOk.cons WC (XsOk.cons NJ XsOk.nil)),ItsOk.nil,YlOk.nil,IysOk.nil,XfOk.nil⟩ (L:=fun xs nl (d:Int×((Int×Int→Prop)×(Int×Int→Int))) vals=>XJ xs nl d.1 d.2 vals) (V:=fun xs nl (d:Int×((Int×Int→Prop)×(Int×Int→Int)))=>Z3 xs nl d.1 d.2) VI fun xs nl d hp=>h xs nl d.1 d.2 hp
theorem V1:Vx:=VF fun xs nl n p h=>by obtain⟨h1,h2,h3⟩:=h;subst h1;unfold Z3;(try delta lI gD sT I64);intro vals;refine⟨(),(xs,0,20),(by and_intros<;>first|rfl|trivial|simp),?_⟩;refine⟨fun d=>d=(xs,0,20),fun _=>0,rfl,?_⟩;rintro _ rfl;dsimp only;refine⟨fun c=>by simp at c;omega,fun _=>⟨⟨by omega,by omega,by omega,h2,h3⟩,Vk p.2 xs 0 xs.length,(nl,20),(by and_intros<;>first|rfl|trivial|simp),?_⟩⟩;refine⟨fun d=>d=(nl,20),fun _=>0,rfl,?_⟩;rintro _ rfl;dsimp only;exact⟨fun c=>by simp at c;omega,fun _=>(by and_intros<;>first|rfl|trivial|simp)⟩
def Jg:AL ((Int×Int→Prop)×(Int×Int→Int)):=(.one (.fn [(.i .i64),(.i .i64)] (.i .i64)))
def Y4 (xs:List Int) (nl:Bool) (d:(Int×Int→Prop)×(Int×Int→Int)):Prop:=xs.length≤12∧(∀ x∈xs,∀ y∈xs,d.1 (x,y))
def J1 (xs:List Int) (nl:Bool) (d:(Int×Int→Prop)×(Int×Int→Int)):SV:=.tup []
def ZR (xs:List Int) (nl:Bool) (d:(Int×Int→Prop)×(Int×Int→Int)):List Int:=(Vk d.2 xs 0 xs.length)
def Zf:XSp:=LR (gap [(83,ZN)] 3) (Hu 3 (.i .i64) Jg Y4 J1 ZR)
def QB (xs:List Int) (nl:Bool) (p:(Int×Int→Prop)×(Int×Int→Int)):Prop:=∀ vals:List Value,
 ((lI xs)=xs.length∧xs.length≤12∧(∀ x∈xs,∀ y∈xs,(fun (x1:Int×Int)=>p.1 (x1.1,x1.2)) (x,y)))∧(vals=vals∧(True∧(([]:List SV)=[]))∧((([]:List SV)=[]))∧((Vk (fun (x1:Int×Int)=>(p.2 (x1.1,x1.2))) xs 0 xs.length)=(Vk p.2 xs 0 xs.length)∧nl=nl))
def Je:Cx:=⟨[],[],9,[],0,[(98,ZZ)],[],[],[],false,[],[],[],[]⟩
def Jd (xs:List Int) (nl:Bool) (p:(Int×Int→Prop)×(Int×Int→Int)) (vals:List Value):List (Nat×LoopAnn):=[]
theorem Yn (xs:List Int) (nl:Bool) (d:(Int×Int→Prop)×(Int×Int→Int)):(∀ vals,gwp Je (Jd xs nl d vals) c82 0 (HN vals [] (J1 xs nl d) (.lst 3 (.i .i64) (ZR xs nl d) nl) (.lst 0)) (X6 9 (.lst 0) (.lst 3 (.i .i64) xs nl) vals (AL.can Jg d)))=QB xs nl d:=by kernel_rfl
abbrev Yp:Prop:=XOk Tryz.prog 82 Zf
theorem Yq (h:∀ (xs:List Int) (nl:Bool) (p:(Int×Int→Prop)×(Int×Int→Int)),(xs.length≤12∧(∀ x∈xs,∀ y∈xs,p.1 (x,y)))→QB xs nl p):XOk Tryz.prog 82 Zf :=
 Gy Q8x mixed (BU (.cons Y8 .nil) 3) (C:=Je) ⟨.nil,(XsOk.cons V1 XsOk.nil),ItsOk.nil,YlOk.nil,IysOk.nil,XfOk.nil⟩ (L:=fun xs nl (d:(Int×Int→Prop)×(Int×Int→Int)) vals=>Jd xs nl d vals) (V:=fun xs nl (d:(Int×Int→Prop)×(Int×Int→Int))=>QB xs nl d) Yn fun xs nl d hp=>h xs nl d hp
theorem Yf:Yp:=Yq fun xs nl p h=>by unfold QB;(try delta lI gD sT I64);intro vals;refine⟨⟨rfl,h.1,h.2⟩,?_⟩;exact(by and_intros<;>first|rfl|trivial|simp)
def JP:AL (Int×Int×Int×((List Int×List Int→Prop)×(List Int×List Int→Int))):=(.cons (.k (.i .i64)) (.cons (.k (.i .i64)) (.cons (.k (.i .i64)) (.one (.fn [(.list (.i .i64)),(.list (.i .i64))] (.i .i64))))))
def YQ (xs:List (List Int)) (nl:Bool) (d:Int×Int×Int×((List Int×List Int→Prop)×(List Int×List Int→Int))):Prop:=d.1=0∧d.2.1=xs.length∧xs.length≤12∧(∀ x∈xs,∀ y∈xs,d.2.2.2.1 (x,y))
def JD (xs:List (List Int)) (nl:Bool) (d:Int×Int×Int×((List Int×List Int→Prop)×(List Int×List Int→Int))):SV:=.tup []
def Jf (xs:List (List Int)) (nl:Bool) (d:Int×Int×Int×((List Int×List Int→Prop)×(List Int×List Int→Int))):List (List Int):=(Vk d.2.2.2.2 xs 0 xs.length)
def Zq:XSp:=OD (gap [] 3) (Hu 46 (.list (.i .i64)) JP YQ JD Jf)
def QJ (xs:List (List Int)) (nl:Bool) (a:Int) (b:Int) (li:Int) (p:(List Int×List Int→Prop)×(List Int×List Int→Int)):Prop:=∀ vals:List Value,
 ∃ (e3:Unit) (d30:Unit),((True∧a=a∧b=b∧li=li∧(SV.pf [(.list (.i .i64)),(.list (.i .i64))] (.i .i64) p.1 p.2=SV.pf [(.list (.i .i64)),(.list (.i .i64))] (.i .i64) p.1 p.2)∧true=true∧true=true∧True)∧((xs=xs∧nl=nl)∧(vals=vals∧(True∧(([]:List SV)=[])))∧True)) ∧
 LoopP (fun (d3:Unit) (q3:(Unit)→Prop) =>
  (I64 (b-a))∧((decide ((b-a)≤(12:Int)))=true →
   (0≤a∧a≤b∧b≤xs.length∧xs.length≤12∧(∀ x∈xs,∀ y∈xs,(fun (x1:List Int×List Int)=>p.1 (x1.1,x1.2)) (x,y)))∧(vals=vals∧(True∧(([]:List SV)=[]))∧((([]:List SV)=[]))∧((Vk (fun (x1:List Int×List Int)=>(p.2 (x1.1,x1.2))) xs a.toNat b.toNat)=(Vk p.2 xs 0 xs.length)∧nl=nl))) ∧
  ((decide ((b-a)≤(12:Int)))=false →
   ((li==(0:Int))=true →
    False) ∧
   ((li==(0:Int))=false →
    ((!true)=true →
     False) ∧
    ((!true)=false →
     False)))) d30
def JJ:Cx:=⟨[],[],148,[0],0,[(119,QU),(120,AB),(121,AB),(122,AB)],[],[],[],false,[],[],[],[]⟩
def JI (xs:List (List Int)) (nl:Bool) (a:Int) (b:Int) (li:Int) (p:(List Int×List Int→Prop)×(List Int×List Int→Int)) (vals:List Value):List (Nat×LoopAnn):=[(0,⟨Unit,Unit,[0,1,2,3,4,10,11],fun e x=>[.lst 0,.val (.i .i64) a,.val (.i .i64) b,.val (.i .i64) li,.pf [(.list (.i .i64)),(.list (.i .i64))] (.i .i64) p.1 p.2,.val .bo true,.val .bo true],fun e x=>[(0,.slot 0,.lst 46 (.list (.i .i64)) xs nl),(4000000,.key 4000000,.stk [.lst 0] vals)]⟩)]
theorem K5 (xs:List (List Int)) (nl:Bool) (d:Int×Int×Int×((List Int×List Int→Prop)×(List Int×List Int→Int))):(∀ vals,gwp JJ (JI xs nl d.1 d.2.1 d.2.2.1 d.2.2.2 vals) Z1y 0 (HN vals [] (JD xs nl d) (.lst 46 (.list (.i .i64)) (Jf xs nl d) nl) (.lst 0)) (X6 148 (.lst 0) (.lst 46 (.list (.i .i64)) xs nl) vals (AL.can JP d)))=QJ xs nl d.1 d.2.1 d.2.2.1 d.2.2.2:=by kernel_rfl
abbrev Y_:Prop:=XOk Tryz.prog 101 Zq
theorem Kj (h:∀ (xs:List (List Int)) (nl:Bool) (a:Int) (b:Int) (li:Int) (p:(List Int×List Int→Prop)×(List Int×List Int→Int)),(a=0∧b=xs.length∧xs.length≤12∧(∀ x∈xs,∀ y∈xs,p.1 (x,y)))→QJ xs nl a b li p):XOk Tryz.prog 101 Zq :=
 RN Q5s mixed (BU .nil 3) (C:=JJ) ⟨.nil,(XsOk.cons W4 (XsOk.cons NJ (XsOk.cons NJ (XsOk.cons NJ XsOk.nil)))),ItsOk.nil,YlOk.nil,IysOk.nil,XfOk.nil⟩ (L:=fun xs nl (d:Int×Int×Int×((List Int×List Int→Prop)×(List Int×List Int→Int))) vals=>JI xs nl d.1 d.2.1 d.2.2.1 d.2.2.2 vals) (V:=fun xs nl (d:Int×Int×Int×((List Int×List Int→Prop)×(List Int×List Int→Int)))=>QJ xs nl d.1 d.2.1 d.2.2.1 d.2.2.2) K5 fun xs nl d hp=>h xs nl d.1 d.2.1 d.2.2.1 d.2.2.2 hp
theorem YJ:Y_:=Kj fun xs nl a b li p h=>by
 obtain⟨rfl,rfl,h2,h3⟩:=h;unfold QJ;(try delta lI gD sT I64);intro vals;refine⟨(),(),(by and_intros<;>first|rfl|trivial|simp),?_⟩;refine⟨fun _=>True,fun _=>0,trivial,?_⟩;rintro⟨⟩ -
 refine⟨by simp only[Qj];omega,fun _=>⟨⟨by omega,by omega,by omega,h2,h3⟩,(by and_intros<;>first|rfl|trivial|simp)⟩,fun c=>by simp at c;omega⟩
def XU:AL ((List Int×List Int→Prop)×(List Int×List Int→Int)):=(.one (.fn [(.list (.i .i64)),(.list (.i .i64))] (.i .i64)))
def VL (xs:List (List Int)) (nl:Bool) (d:(List Int×List Int→Prop)×(List Int×List Int→Int)):Prop:=xs.length≤12∧(∀ x∈xs,∀ y∈xs,d.1 (x,y))
def XF (xs:List (List Int)) (nl:Bool) (d:(List Int×List Int→Prop)×(List Int×List Int→Int)):SV:=.tup []
def Xs (xs:List (List Int)) (nl:Bool) (d:(List Int×List Int→Prop)×(List Int×List Int→Int)):List (List Int):=(Vk d.2 xs 0 xs.length)
def Ja:XSp:=OD (gap [(51,Zp)] 3) (Hu 46 (.list (.i .i64)) XU VL XF Xs)
def Zb (xs:List (List Int)) (nl:Bool) (p:(List Int×List Int→Prop)×(List Int×List Int→Int)):Prop:=∀ vals:List Value,
 (InK .u64 (lI xs))∧(0≤(lI xs)∧(lI xs)≤255)∧((0:Int)=0∧(lI xs)=xs.length∧xs.length≤12∧(∀ x∈xs,∀ y∈xs,(fun (x1:List Int×List Int)=>p.1 (x1.1,x1.2)) (x,y)))∧(vals=vals∧(True∧(([]:List SV)=[]))∧((([]:List SV)=[]))∧((Vk (fun (x1:List Int×List Int)=>(p.2 (x1.1,x1.2))) xs 0 xs.length)=(Vk p.2 xs 0 xs.length)∧nl=nl))
def W1:Cx:=⟨[],[(100,Ym)],14,[0],0,[(101,Zq)],[],[],[],false,[],[],[],[]⟩
def XX (xs:List (List Int)) (nl:Bool) (p:(List Int×List Int→Prop)×(List Int×List Int→Int)) (vals:List Value):List (Nat×LoopAnn):=[]
theorem VZ (xs:List (List Int)) (nl:Bool) (d:(List Int×List Int→Prop)×(List Int×List Int→Int)):(∀ vals,gwp W1 (XX xs nl d vals) c85 0 (HN vals [] (XF xs nl d) (.lst 46 (.list (.i .i64)) (Xs xs nl d) nl) (.lst 0)) (X6 14 (.lst 0) (.lst 46 (.list (.i .i64)) xs nl) vals (AL.can XU d)))=Zb xs nl d:=by kernel_rfl
abbrev U4:Prop:=XOk Tryz.prog 85 Ja
theorem V_ (h:∀ (xs:List (List Int)) (nl:Bool) (p:(List Int×List Int→Prop)×(List Int×List Int→Int)),(xs.length≤12∧(∀ x∈xs,∀ y∈xs,p.1 (x,y)))→Zb xs nl p):XOk Tryz.prog 85 Ja :=
 RN Q8n mixed (BU (.cons Wj .nil) 3) (C:=W1) ⟨(.cons NP .nil),(XsOk.cons YJ XsOk.nil),ItsOk.nil,YlOk.nil,IysOk.nil,XfOk.nil⟩ (L:=fun xs nl (d:(List Int×List Int→Prop)×(List Int×List Int→Int)) vals=>XX xs nl d vals) (V:=fun xs nl (d:(List Int×List Int→Prop)×(List Int×List Int→Int))=>Zb xs nl d) VZ fun xs nl d hp=>h xs nl d hp
theorem Vv:U4:=V_ fun xs nl p h=>by unfold Zb;(try delta lI gD sT I64);intro vals;have:=h.1;refine⟨by simp only[Kr];omega,⟨by omega,by omega⟩,⟨rfl,rfl,h.1,h.2⟩,?_⟩;exact(by and_intros<;>first|rfl|trivial|simp)
def Gg:AL (Int×Int):=(.cons (.k (.i .i64)) (.one (.k (.i .i64))))
def PS (d:Int×Int):Prop:=True
def NV (d:Int×Int):SV:=.val .bo (decide (d.1<d.2))
def Mc (d:Int×Int):List OB:=[]
def UB:CSp:=Yo Gg PS NV Mc
def W_ (a:Int) (b:Int):Prop :=
 (True)∧(false=true→True)∧(((false&&(!false))||(decide (a<b)))=(decide (a<b))∧(True))
def MQ:Cx:=⟨[],[(77,WZ)],17,[],0,[],[],[],[],false,[],[],[],[]⟩
def TH (a:Int) (b:Int):List (Nat×LoopAnn):=[]
theorem RE (d:Int×Int):gwp (MQ) (TH d.1 d.2) Z2l 0 (V8 [.tmp 4] (NV d) (Mc d)) (Qr 17 (AL.can Gg d))=W_ d.1 d.2:=by kernel_rfl
abbrev Re:Prop:=OkC Tryz.prog 114 UB
theorem RC (h:∀ (a:Int) (b:Int),(True)→W_ a b):OkC Tryz.prog 114 UB :=
 Z8 Q65 mixed (C:=MQ) (V:=fun (d:Int×Int)=>W_ d.1 d.2) ⟨(.cons NX .nil),XsOk.nil,ItsOk.nil,YlOk.nil,IysOk.nil,XfOk.nil⟩ (RE) fun d hp=>h d.1 d.2 hp
theorem Tw:Re:=RC fun a b=>by unfold W_;(try delta lI gD sT I64);simp
def ZQ:AL (Int×Int):=(.cons (.k (.i .i64)) (.one (.k (.i .i64))))
def Wv (xs:List Int) (nl:Bool) (d:Int×Int):Prop:=0≤d.1∧d.1≤d.2∧d.2≤xs.length∧xs.length≤12
def ZG (xs:List Int) (nl:Bool) (d:Int×Int):SV:=.tup []
def ZB (xs:List Int) (nl:Bool) (d:Int×Int):List Int:=(Vk Ku xs d.1.toNat d.2.toNat)
def Z6:XSp:=LR Bx (Hu 3 (.i .i64) ZQ Wv ZG ZB)
def Qw (xs:List Int) (nl:Bool) (a:Int) (b:Int):Prop:=∀ vals:List Value,
 (I64 (a+(1:Int)))∧∃ (e2:Unit) (d20:(List Int)×Bool×Int),((True∧a=a∧b=b∧(a+(1:Int))=d20.2.2∧True)∧((xs=d20.1∧nl=d20.2.1)∧(vals=vals∧(True∧(([]:List SV)=[])))∧True)) ∧
 LoopP (fun (d2:(List Int)×Bool×Int) (q2:((List Int)×Bool×Int)→Prop) =>
  ((decide (d2.2.2<b))=true →
   ∃ (e5:Bool×Int) (d50:(List Int)×Int),((True∧a=a∧b=b∧d2.2.2=e5.2∧d2.2.2=d50.2∧True)∧((d2.1=d50.1∧d2.2.1=e5.1)∧(vals=vals∧(True∧(([]:List SV)=[])))∧True)) ∧
   LoopP (fun (d5:(List Int)×Int) (q5:((List Int)×Int)→Prop) =>
    ((decide (d5.2 > a))=true→0≤d5.2)∧((decide (d5.2 > a))=true→d5.2<(List.length d5.1))∧((decide (d5.2 > a))=true→InK .i64 (d5.2-(1:Int)))∧((decide (d5.2 > a))=true→0≤(d5.2-(1:Int)))∧((decide (d5.2 > a))=true→(d5.2-(1:Int))<(List.length d5.1))∧((decide (d5.2 > a))=true→True)∧(((decide (d5.2 > a))&&(decide ((gD d5.1 d5.2 0)<(gD d5.1 (d5.2-(1:Int)) 0))))=true →
     (I64 (d5.2-(1:Int)))∧(I64 (d5.2-(1:Int)))∧(0≤(d5.2-(1:Int)))∧((d5.2-(1:Int))<(List.length d5.1))∧(0≤d5.2)∧(d5.2<(List.length d5.1))∧(0≤d5.2)∧(d5.2<(List.length d5.1))∧(0≤(d5.2-(1:Int)))∧((d5.2-(1:Int))<(List.length (sT d5.1 d5.2 (gD d5.1 (d5.2-(1:Int)) 0))))∧(I64 (d5.2-(1:Int)))∧(∃ d6:(List Int)×Int,((True∧a=a∧b=b∧e5.2=e5.2∧(d5.2-(1:Int))=d6.2∧True)∧(((sT (sT d5.1 d5.2 (gD d5.1 (d5.2-(1:Int)) 0)) (d5.2-(1:Int)) (gD d5.1 d5.2 0))=d6.1∧e5.1=e5.1)∧(vals=vals∧(True∧(([]:List SV)=[])))∧True))∧q5 d6)) ∧
    (((decide (d5.2 > a))&&(decide ((gD d5.1 d5.2 0)<(gD d5.1 (d5.2-(1:Int)) 0))))=false →
     (I64 (e5.2+(1:Int)))∧(∃ d7:(List Int)×Bool×Int,((True∧a=a∧b=b∧(e5.2+(1:Int))=d7.2.2∧True)∧((d5.1=d7.1∧e5.1=d7.2.1)∧(vals=vals∧(True∧(([]:List SV)=[])))∧True))∧q2 d7))) d50) ∧
  ((decide (d2.2.2<b))=false →
   (vals=vals∧(True∧(([]:List SV)=[]))∧((([]:List SV)=[]))∧(d2.1=(Vk Ku xs a.toNat b.toNat)∧d2.2.1=nl)))) d20
def ZU:Cx:=⟨[],[(114,UB)],49,[],0,[],[],[],[],false,[],[],[],[]⟩
def ZV (xs:List Int) (nl:Bool) (a:Int) (b:Int) (vals:List Value):List (Nat×LoopAnn):=[(0,⟨Unit,(List Int)×Bool×Int,[0,1,2,6],fun e x=>[.lst 0,.val (.i .i64) a,.val (.i .i64) b,.val (.i .i64) x.2.2],fun e x=>[(0,.slot 0,.lst 3 (.i .i64) x.1 x.2.1),(4000000,.key 4000000,.stk [.lst 0] vals)]⟩),
 (2,⟨Bool×Int,(List Int)×Int,[0,1,2,6,7],fun e x=>[.lst 0,.val (.i .i64) a,.val (.i .i64) b,.val (.i .i64) e.2,.val (.i .i64) x.2],fun e x=>[(0,.slot 0,.lst 3 (.i .i64) x.1 e.1),(4000000,.key 4000000,.stk [.lst 0] vals)]⟩)]
theorem WT (xs:List Int) (nl:Bool) (d:Int×Int):(∀ vals,gwp ZU (ZV xs nl d.1 d.2 vals) Z20 0 (HN vals [] (ZG xs nl d) (.lst 3 (.i .i64) (ZB xs nl d) nl) (.lst 0)) (X6 49 (.lst 0) (.lst 3 (.i .i64) xs nl) vals (AL.can ZQ d)))=Qw xs nl d.1 d.2:=by kernel_rfl
abbrev WU:Prop:=XOk Tryz.prog 108 Z6
theorem WY (h:∀ (xs:List Int) (nl:Bool) (a:Int) (b:Int),(0≤a∧a≤b∧b≤xs.length∧xs.length≤12)→Qw xs nl a b):XOk Tryz.prog 108 Z6 :=
 Gy Q5v mixed VV (C:=ZU) ⟨(.cons Tw .nil),XsOk.nil,ItsOk.nil,YlOk.nil,IysOk.nil,XfOk.nil⟩ (L:=fun xs nl (d:Int×Int) vals=>ZV xs nl d.1 d.2 vals) (V:=fun xs nl (d:Int×Int)=>Qw xs nl d.1 d.2) WT fun xs nl d hp=>h xs nl d.1 d.2 hp
theorem WD:WU:=WY fun xs nl a b h=>by
 obtain⟨h1,h2,h3,h4⟩:=h;unfold Qw;(try delta lI gD sT I64);intro vals;have hI:∀ e:Int,-1000≤e→e≤1000→InK .i64 e:=fun e _ _=>by simp only[Qj];omega
 obtain⟨a,rfl⟩:∃ n:Nat,a=n:=⟨a.toNat,by omega⟩;obtain⟨b,rfl⟩:∃ n:Nat,b=n:=⟨b.toNat,by omega⟩;simp only[Int.toNat_natCast];refine⟨hI _ (by omega) (by omega),(),(xs,nl,(a:Int)+1),(by and_intros<;>first|rfl|trivial|simp),?_⟩;refine⟨fun d=>∃ n:Nat,d.2.2=(a:Int)+1+n∧(n=0∨a+1+n≤b)∧nl=d.2.1∧d.1=IC (fun x y=>decide (Ku (x,y)<0)) a n xs,fun d=>(1000-d.2.2).toNat,⟨0,by simp,.inl rfl,rfl,rfl⟩,?_⟩;rintro⟨ys,hZ,i⟩ ⟨n,e1,e2,e3,e4⟩;dsimp only at e1 e2 e3 e4 ⊢;subst e1 e3;refine⟨fun c=>?_,fun c=>?_⟩
 ·have c:a+1+n<b:=by simp at c;omega
  have hp:ys.Perm xs:=by rw[e4];exact N3 _ (by omega)
  have hlen:=hp.length_eq;refine⟨(nl,(a:Int)+1+n),(ys,(a:Int)+1+n),(by and_intros<;>first|rfl|trivial|simp),?_⟩;dsimp only;refine⟨fun d=>∃ j:Nat,d.2=j∧j≤a+1+n∧d.1.Perm xs∧A0 (fun x y=>decide (Ku (x,y)<0)) a j d.1=IC (fun x y=>decide (Ku (x,y)<0)) a (n+1) xs,fun d=>d.2.toNat,⟨a+1+n,by simp,Nat.le_refl _,hp,by rw[e4];rfl⟩,?_⟩;rintro⟨zs,j'⟩ ⟨j,f1,f2,f3,f4⟩;dsimp only at f1 f3 f4 ⊢;subst f1;have tO:=f3.length_eq;have fK:((j:Int)-1).toNat=j-1:=by omega
  simp only[Int.toNat_natCast,fK];refine⟨fun g=>by omega,fun g=>by omega,fun g=>hI _ (by omega) (by omega),fun g=>by simp at g;omega,fun g=>by omega,fun _=>trivial,fun g=>?_,fun g=>?_⟩
  ·have g:a<j∧zs.getD j 0<zs.getD (j-1) 0:=by simpa using g
   refine⟨hI _ (by omega) (by omega),hI _ (by omega) (by omega),by omega,by omega,by omega,by omega,by omega,by omega,by omega,by rw[List.length_set];omega,hI _ (by omega) (by omega),((zs.set j (zs.getD (j-1) 0)).set (j-1) (zs.getD j 0),(j:Int)-1),(by and_intros<;>first|rfl|trivial|simp),⟨j-1,by omega,by omega,(Hj (by omega) (by omega)).trans f3,LU f4 g.1 (Bm.2 g.2)⟩,by dsimp only;omega⟩
  ·refine⟨hI _ (by omega) (by omega),(zs,nl,(a:Int)+1+n+1),(by and_intros<;>first|rfl|trivial|simp),⟨n+1,by simp;omega,by omega,rfl,Ft f4 fun hh=>?_⟩,by dsimp only;omega⟩;have h7:zs.getD j 0<zs.getD (j-1) 0:=Bm.1 hh.2;have h8:a<j:=hh.1;rw[decide_eq_true (show (j:Int) > a by omega),decide_eq_true h7] at g;cases g
 ·have hn:n=b-a-1:=by simp at c;omega
  rw[e4,hn];exact(by and_intros<;>first|rfl|trivial|simp)
def Xw:AL (Int×Int×Int):=(.cons (.k (.i .i64)) (.cons (.k (.i .i64)) (.one (.k (.i .i64)))))
def Ko (xs:List Int) (nl:Bool) (d:Int×Int×Int):Prop:=d.1=0∧d.2.1=xs.length∧xs.length≤12
def X5 (xs:List Int) (nl:Bool) (d:Int×Int×Int):SV:=.tup []
def JL (xs:List Int) (nl:Bool) (d:Int×Int×Int):List Int:=(Vk Ku xs 0 xs.length)
def ZH:XSp:=LR Bx (Hu 3 (.i .i64) Xw Ko X5 JL)
def QZ (xs:List Int) (nl:Bool) (a:Int) (b:Int) (li:Int):Prop:=∀ vals:List Value,
 ∃ (e3:Unit) (d30:Unit),((True∧a=a∧b=b∧li=li∧true=true∧true=true∧True)∧((xs=xs∧nl=nl)∧(vals=vals∧(True∧(([]:List SV)=[])))∧True)) ∧
 LoopP (fun (d3:Unit) (q3:(Unit)→Prop) =>
  (I64 (b-a))∧((decide ((b-a)≤(12:Int)))=true →
   (0≤a∧a≤b∧b≤xs.length∧xs.length≤12)∧(vals=vals∧(True∧(([]:List SV)=[]))∧((([]:List SV)=[]))∧((Vk Ku xs a.toNat b.toNat)=(Vk Ku xs 0 xs.length)∧nl=nl))) ∧
  ((decide ((b-a)≤(12:Int)))=false →
   ((li==(0:Int))=true →
    False) ∧
   ((li==(0:Int))=false →
    ((!true)=true →
     False) ∧
    ((!true)=false →
     False)))) d30
def Xr:Cx:=⟨[],[],134,[],0,[(108,Z6),(109,AB),(110,AB),(111,AB)],[],[],[],false,[],[],[],[]⟩
def Xn (xs:List Int) (nl:Bool) (a:Int) (b:Int) (li:Int) (vals:List Value):List (Nat×LoopAnn):=[(0,⟨Unit,Unit,[0,1,2,3,8,9],fun e x=>[.lst 0,.val (.i .i64) a,.val (.i .i64) b,.val (.i .i64) li,.val .bo true,.val .bo true],fun e x=>[(0,.slot 0,.lst 3 (.i .i64) xs nl),(4000000,.key 4000000,.stk [.lst 0] vals)]⟩)]
theorem KP (xs:List Int) (nl:Bool) (d:Int×Int×Int):(∀ vals,gwp Xr (Xn xs nl d.1 d.2.1 d.2.2 vals) c99 0 (HN vals [] (X5 xs nl d) (.lst 3 (.i .i64) (JL xs nl d) nl) (.lst 0)) (X6 134 (.lst 0) (.lst 3 (.i .i64) xs nl) vals (AL.can Xw d)))=QZ xs nl d.1 d.2.1 d.2.2:=by kernel_rfl
abbrev K_:Prop:=XOk Tryz.prog 99 ZH
theorem KQ (h:∀ (xs:List Int) (nl:Bool) (a:Int) (b:Int) (li:Int),(a=0∧b=xs.length∧xs.length≤12)→QZ xs nl a b li):XOk Tryz.prog 99 ZH :=
 Gy Z1b mixed VV (C:=Xr) ⟨.nil,(XsOk.cons WD (XsOk.cons NJ (XsOk.cons NJ (XsOk.cons NJ XsOk.nil)))),ItsOk.nil,YlOk.nil,IysOk.nil,XfOk.nil⟩ (L:=fun xs nl (d:Int×Int×Int) vals=>Xn xs nl d.1 d.2.1 d.2.2 vals) (V:=fun xs nl (d:Int×Int×Int)=>QZ xs nl d.1 d.2.1 d.2.2) KP fun xs nl d hp=>h xs nl d.1 d.2.1 d.2.2 hp
theorem Kl:K_:=KQ fun xs nl a b li h=>by
 obtain⟨rfl,rfl,h2⟩:=h;unfold QZ;(try delta lI gD sT I64);intro vals;refine⟨(),(),(by and_intros<;>first|rfl|trivial|simp),?_⟩;refine⟨fun _=>True,fun _=>0,trivial,?_⟩;rintro⟨⟩ -
 refine⟨by simp only[Qj];omega,fun _=>⟨⟨by omega,by omega,by omega,h2⟩,(by and_intros<;>first|rfl|trivial|simp)⟩,fun c=>by simp at c;omega⟩
def YA:AL (Unit):=.nil
def NG (xs:List Int) (nl:Bool) (d:Unit):Prop:=xs.length≤12
def Yl (xs:List Int) (nl:Bool) (d:Unit):SV:=.tup []
def WN (xs:List Int) (nl:Bool) (d:Unit):List Int:=(Vk Ku xs 0 xs.length)
def XG:XSp:=LR Bx (Hu 3 (.i .i64) YA NG Yl WN)
def ZO (xs:List Int) (nl:Bool) :Prop:=∀ vals:List Value,
 (InK .u64 (lI xs))∧(0≤(lI xs)∧(lI xs)≤255)∧((0:Int)=0∧(lI xs)=xs.length∧xs.length≤12)∧(vals=vals∧(True∧(([]:List SV)=[]))∧((([]:List SV)=[]))∧((Vk Ku xs 0 xs.length)=(Vk Ku xs 0 xs.length)∧nl=nl))
def Yw:Cx:=⟨[],[(100,Ym)],11,[],0,[(99,ZH)],[],[],[],false,[],[],[],[]⟩
def Yy (xs:List Int) (nl:Bool)  (vals:List Value):List (Nat×LoopAnn):=[]
theorem Me (xs:List Int) (nl:Bool) (d:Unit):(∀ vals,gwp Yw (Yy xs nl  vals) c84 0 (HN vals [] (Yl xs nl d) (.lst 3 (.i .i64) (WN xs nl d) nl) (.lst 0)) (X6 11 (.lst 0) (.lst 3 (.i .i64) xs nl) vals (AL.can YA d)))=ZO xs nl :=by kernel_rfl
abbrev Mm:Prop:=XOk Tryz.prog 84 XG
theorem Mp (h:∀ (xs:List Int) (nl:Bool) ,(xs.length≤12)→ZO xs nl ):XOk Tryz.prog 84 XG :=
 Gy Q7x mixed VV (C:=Yw) ⟨(.cons NP .nil),(XsOk.cons Kl XsOk.nil),ItsOk.nil,YlOk.nil,IysOk.nil,XfOk.nil⟩ (L:=fun xs nl (d:Unit) vals=>Yy xs nl  vals) (V:=fun xs nl (d:Unit)=>ZO xs nl ) Me fun xs nl d hp=>h xs nl  hp
theorem ND:Mm:=Mp fun xs nl h=>by unfold ZO;(try delta lI gD sT I64);intro vals;refine⟨by simp only[Kr];omega,⟨by omega,by omega⟩,⟨rfl,rfl,h⟩,?_⟩;exact(by and_intros<;>first|rfl|trivial|simp)
end Go.Proofs.Tryz