/- A framework for walks, contracts of functions, and their proofs: part 5. -/
import Derived.Test.YtdbeaoaplpddnaaGreatR4
namespace Go.V
open Go
section
variable {P:Program}{B F:Heap}{pl:Nat→Value}{tb:Nat→Option Bool}{s:St}{env:Env}{σ:Heap}
theorem UP {k k':Kind}{xs:List k.T}{ys:List k'.T}(h:GX (k:=.list k) xs (k':=.list k') ys):∃ e:k'=k,e▸ys=xs:=by
 unfold GX at h;split at h
 ·rename_i z hz;have e:=SY hz;obtain rfl:=Kind.list.inj e;obtain rfl:=Lh hz;exact⟨rfl,h⟩
 ·exact h.elim
theorem Zb (hG:Gam P B F pl tb s env σ) {mp:List (Nat×Option Nat)}{t:Nat}{b:OB}(h:Q29 s mp t b) :
  OR P B (M3 pl mp) JY σ (M3 pl mp t) b∧(b.live=true→∀ i,Oid (M3 pl mp t) i→∃ a,QE mp t=some (some a)∧(Qc s.own a).live=true∧Oid (pl a) i):=by
 unfold Q29 at h;split at h
 ·rename_i a ha;have aX:M3 pl mp t=pl a:=by simp[M3,ha]
  rw[aX];have ao:=hG.obj a;split at h
  ·exact⟨trivial,fun h=>by cases h⟩
  ·rename_i ty k xs nl jq k' cK kE ho;split at h
   ·rename_i e;subst e;obtain⟨h1,rfl⟩:=h;obtain⟨rfl,rfl⟩:=UP h1;rw[ho] at ao;exact⟨ao,fun _ i hi=>⟨a,ha,by rw[ho];rfl,hi⟩⟩
   ·exact h.elim
  ·rename_i l u l' u' ho;split at h
   ·rename_i e0;subst e0;rw[ho] at ao;obtain⟨i,c,e,t',h1,h2,h3,h4⟩:=ao;exact⟨⟨i,c,e,t',h1,h2,ZF l l' c h h3,h4⟩,fun _ i hi=>⟨a,ha,by rw[ho];rfl,hi⟩⟩
   ·exact h.elim
  ·rename_i kk vk m lG nS m' ho;split at h
   ·obtain⟨e,h1⟩:=UP h;obtain⟨rfl,rfl⟩:=Kind.pair.inj e;subst h1;rw[ho] at ao;exact⟨ao,fun _ i hi=>⟨a,ha,by rw[ho];rfl,hi⟩⟩
   ·exact h.elim
  ·rename_i l vals l' kF ho;rw[ho] at ao;obtain⟨rfl,h⟩:=h;exact⟨ZF l l' vals h ao,fun h=>by cases h⟩
  ·rename_i l q u l' q' u' ho;rw[ho] at ao;split at h
   ·obtain⟨rfl,h⟩:=h;exact⟨⟨ao.1,ZF l l' q.vals h ao.2.1,ao.2.2⟩,fun _ i hi=>⟨a,ha,by rw[ho];rfl,hi⟩⟩
   ·obtain⟨rfl,h⟩:=h;exact⟨⟨ao.1,ZF l l' q.vals h ao.2.1,ao.2.2⟩,fun h=>by cases h⟩
   ·exact h.elim
  ·rename_i kk vk m dn lG nS m' sG ho;split at h
   ·obtain⟨h,rfl⟩:=h;obtain⟨e,h1⟩:=UP h;obtain⟨rfl,rfl⟩:=Kind.pair.inj e;subst h1;rw[ho] at ao;exact⟨ao,fun _ i hi=>⟨a,ha,by rw[ho];rfl,hi⟩⟩
   ·exact h.elim
  ·rename_i ty q k xs nl h0 jq q' k' cK kE sk ho;split at h
   ·rename_i e;obtain⟨rfl,rfl⟩:=e;split at h
    ·obtain⟨h1,rfl⟩:=h;obtain⟨rfl,rfl⟩:=UP h1;rw[ho] at ao;exact⟨ao,fun _ i hi=>⟨a,ha,by rw[ho];rfl,hi⟩⟩
    ·exact h.elim
   ·exact h.elim
  ·exact h.elim
 ·rename_i ha;have aX:M3 pl mp t=.slice none 0 0:=by simp[M3,ha]
  rw[aX];split at h
  ·exact⟨.inl ⟨h.2,h.1,rfl⟩,fun _ i hi=>by cases hi⟩
  ·split at h
   ·obtain⟨rfl,rfl⟩:=h;refine⟨⟨[],fun i=>⟨fun h=>(by cases h),fun ⟨b,h⟩=>(by cases h)⟩,List.nodup_nil,.inl ⟨rfl,rfl,rfl⟩,fun i=>⟨fun ⟨b,h⟩=>(by cases h),fun h=>(by cases h)⟩,(fun i b h=>by cases h),by simp[phd]⟩,fun _ i hi=>by cases hi⟩
   ·exact h.elim
  ·exact h.elim
 ·exact h.elim
theorem Vs {α:Type _}(l:List (Nat×α)) (t:Nat) (x:α) (d:Nat):QE (l++[(t,x)]) d=match QE l d with|some y=>some y|none=>if t=d then some x else none:=by
 induction l with
 |nil =>
  simp only[List.nil_append,QE];by_cases h:t=d
  ·subst h;simp
  ·rw[JL h];simp[h]
 |cons p l ih =>obtain⟨k,y⟩:=p;simp only[List.cons_append,QE,ih];cases Nat.beq k d<;>rfl
theorem Au {α:Type _}{l:List (Nat×α)}{d:Nat}{x:α}(h:QE l d=some x):∃ p∈l,p.1=d∧p.2=x:=by
 induction l with
 |nil=>cases h
 |cons p l ih =>
  obtain⟨k,y⟩:=p;simp only[QE] at h;cases hb:Nat.beq k d with
  |true=>rw[hb] at h;obtain rfl:=osj h;exact⟨_,List.mem_cons_self,Nat.eq_of_beq_eq_true hb,rfl⟩
  |false =>rw[hb] at h;obtain⟨p,h1,h2⟩:=ih h;exact⟨p,List.mem_cons_of_mem _ h1,h2⟩
def Inj (mp:List (Nat×Option Nat)):Prop:=∀ t t' a,QE mp t=some (some a)→QE mp t'=some (some a)→t=t'
theorem Pu:∀ (l:List (Nat×Src)) (mp b6:List (Nat×Option Nat)),Z00 s l mp=some b6→Inj mp→Inj b6
 |[],mp,b6,h,hi=>by obtain rfl:=osj h;exact hi
 |(t,src)::r,mp,b6,h,hi=>by
  simp only[Z00] at h;split at h
  ·rename_i a _;split at h
   ·cases h
   ·rename_i hc;refine Pu r _ _ h ?_;have cU:∀ d,QE mp d≠some (some a):=fun d hd=>by
     obtain⟨p,h1,h2,h3⟩:=Au hd;apply hc;simp only[Bool.or_eq_true];exact .inl (List.any_eq_true.2 ⟨p,h1,by rw[h3];simp⟩)
    intro t1 t2 a' h1 h2;rw[Vs] at h1 h2;split at h1
    ·rename_i y1 e1;split at h2
     ·rename_i y2 e2;obtain rfl:=osj h1;obtain rfl:=osj h2;exact hi t1 t2 a' e1 e2
     ·split at h2
      ·obtain rfl:=osj (osj h2);obtain rfl:=osj h1;exact absurd e1 (cU t1)
      ·cases h2
    ·split at h1
     ·rename_i e1;obtain rfl:=osj (osj h1);split at h2
      ·rename_i y2 e2;obtain rfl:=osj h2;exact absurd e2 (cU t2)
      ·split at h2
       ·rename_i e2;omega
       ·cases h2
     ·cases h1
  ·split at h
   ·cases h
   ·refine Pu r _ _ h ?_;intro t1 t2 a' h1 h2;rw[Vs] at h1 h2;split at h1
    ·rename_i y1 e1;split at h2
     ·rename_i y2 e2;obtain rfl:=osj h1;obtain rfl:=osj h2;exact hi t1 t2 a' e1 e2
     ·split at h2<;>cases h2
    ·split at h1<;>cases h1
  ·cases h
theorem LS {mp:List (Nat×Option Nat)}:∀ {ow:List (Nat×Src×OB)},gmatch.obs s mp ow→∀ p∈ow,Q29 s mp p.1 p.2.2
 |[],_,p,hp=>by cases hp
 |(t,src,b)::r,h,p,hp=>by
  simp only[gmatch.obs] at h;rcases List.mem_cons.1 hp with rfl|hp
  ·exact h.1
  ·exact LS h.2 p hp
theorem VW {f:List (Nat×Src×OB)}:∀ (own:Own) (t:Nat),(∃ p∈f,p.1=t∧Qc (f.foldl (fun o p=>oset o p.1 p.2.2) own) t=p.2.2)∨Qc (f.foldl (fun o p=>oset o p.1 p.2.2) own) t=Qc own t:=by
 induction f with
 |nil=>intro own t;exact .inr rfl
 |cons p f ih =>
  intro own t;simp only[List.foldl_cons];rcases ih (oset own p.1 p.2.2) t with⟨q,h1,h2⟩|h
  ·exact .inl ⟨q,List.mem_cons_of_mem _ h1,h2⟩
  ·rw[h,Qs];by_cases e:t=p.1
   ·rw[if_pos e];exact .inl ⟨p,List.mem_cons_self,e.symm,rfl⟩
   ·rw[if_neg e];exact .inr rfl
theorem R3 (hG:Gam P B F pl tb s env σ) {mp:List (Nat×Option Nat)}:∀ (st:List (Nat×SV)) {e:List SV}{eV:Env},gmatch.slots s mp st→SRs P B (M3 pl mp) JY e eV→SRs P B (M3 pl mp) JY (st.foldl (fun e p=>e.set p.1 p.2) e) (XA (st.map (·.1)) (B5 (st.map (·.1)) env) eV)
 |[],e,eV,_,h=>h
 |(j,v)::r,e,eV,hs,h=>by simp only[gmatch.slots] at hs;simp only[List.foldl_cons,List.map_cons,B5,XA];exact R3 hG r hs.2 (h.set j (U3 v _ _ hs.1 (hG.env.getD j poison)))
theorem Q1e {B:Heap}{pl:Nat→Value}{tb:Nat→Option Bool}:∀ n,SRs P B pl tb (List.replicate n .any) (List.replicate n poison)
 |0=>by simp[SRs]
 |n+1=>by simp only[List.replicate_succ,SRs];exact⟨_,_,rfl,by simp[SR],Q1e n⟩
theorem P1 {B0 F0 D0:Heap}(hR:GRel P B0 F0 D0 s env σ) {st:List (Nat×SV)}{ow:List (Nat×Src×OB)}(h:gmatch s st ow) (len:Nat):GRel P B0 F0 D0 (Zp len st ow) (XA (st.map (·.1)) (B5 (st.map (·.1)) env) (List.replicate len poison)) σ:=by
 obtain⟨B,F,pl,tb,hB,hG⟩:=hR;unfold gmatch at h;split at h
 ·rename_i mp lS;obtain⟨h1,h2⟩:=h;have eU:=Pu _ _ _ lS (fun t t' a h=>by cases h);have aO:=LS h2;have ao:∀ t,(Qc (Zp len st ow).own t).live=true→Q29 s mp t (Qc (Zp len st ow).own t):=fun t hl=>by
   rcases VW (f:=ow) [] t with⟨p,h3,h4,h5⟩|h3
   ·have:=aO p h3;rw[h4,←h5] at this;exact this
   ·simp only[Zp] at hl;rw[h3] at hl;cases hl
  refine⟨B,F,M3 pl mp,JY,hB,hG.bf,hG.le,R3 hG st h1 (Q1e len),fun t=>?_,fun t i hl hi=>?_,fun t t' i aA hl cA hi cI=>?_,fun _ _=>rfl⟩
  ·cases hl:(Qc (Zp len st ow).own t).live with
   |true=>exact(Zb hG (ao t hl)).1
   |false =>
    cases ho:Qc (Zp len st ow).own t with
    |dead=>trivial
    |stk l vals =>
     rcases VW (f:=ow) [] t with⟨p,h3,h4,h5⟩|h3
     ·have:=aO p h3;simp only[Zp] at ho;rw[←h5,ho] at this;have h6:=(Zb hG this).1;rw[h4] at h6;exact h6
     ·simp only[Zp] at ho;rw[h3] at ho;cases ho
    |lpf l q u =>
     rcases VW (f:=ow) [] t with⟨p,h3,h4,h5⟩|h3
     ·have:=aO p h3;simp only[Zp] at ho;rw[←h5,ho] at this;have h6:=(Zb hG this).1;rw[h4] at h6;exact h6
     ·simp only[Zp] at ho;rw[h3] at ho;cases ho
    |_=>rw[ho] at hl;cases hl
  ·obtain⟨a,_,h4,h5⟩:=(Zb hG (ao t hl)).2 hl i hi;exact hG.fresh a i h4 h5
  ·obtain⟨a,e1,h4,h5⟩:=(Zb hG (ao t hl)).2 hl i hi;obtain⟨a',e2,gW,q7⟩:=(Zb hG (ao t' cA)).2 cA i cI;by_cases e:a=a'
   ·subst e;exact aA (eU t t' a e1 e2)
   ·exact hG.sep a a' i e h4 gW h5 q7
 ·exact h.elim
theorem Hp:∀ {dE cN:List SV}{vs:List Value}{B F:Heap}{s s':St},Gam P B F pl tb s env σ→SRs P B pl tb dE vs→Q6p s dE=some (s',cN) →
  ∃ B' F',GBase B F σ B' F' σ∧Gam P B' F' pl tb s' env σ∧SRs P B' XX JY cN vs∧s'.env=s.env
 |[],cN,vs,B,F,s,s',hG,hs,h=>by simp only[Q6p,Option.some.injEq,Prod.mk.injEq] at h;obtain⟨rfl,rfl⟩:=h;exact⟨B,F,.of hG.bf (.refl _),hG,hs,rfl⟩
 |v::dE,cN,vs,B,F,s,s',hG,hs,h=>by
  simp only[SRs] at hs;obtain⟨u,us,rfl,h1,h2⟩:=hs
  have oh:∀ w:SV,SR P B pl tb w u→(bif w.pure then (match Q6p s dE with|some (s',r)=>some (s',w::r)|none=>none) else none)=some (s',cN) →
    ∃ B' F',GBase B F σ B' F' σ∧Gam P B' F' pl tb s' env σ∧SRs P B' XX JY cN (u::us)∧s'.env=s.env:=fun w hw h=>by
   cases hp:w.pure with
   |false=>rw[hp] at h;cases h
   |true =>
    rw[hp] at h;simp only[_root_.cond_true] at h;split at h
    ·rename_i s1 r heq;simp only[Option.some.injEq,Prod.mk.injEq] at h;obtain⟨rfl,rfl⟩:=h;obtain⟨B',F',k1,k2,k3,k4⟩:=Hp hG h2 heq;exact⟨B',F',k1,k2,by simp only[SRs];exact⟨u,us,rfl,SR.mono k1.b (fun _ _ h=>h) _ _ (Lb w u hp hw),k3⟩,k4⟩
    ·cases h
  simp only[Q6p] at h;split at h
  ·rename_i o;split at h
   ·rename_i l _ ho;cases hp:SVs.pure l with
    |false=>rw[hp] at h;cases h
    |true =>
     rw[hp] at h;simp only[_root_.cond_true] at h;split at h
     ·rename_i s1 r heq;simp only[Option.some.injEq,Prod.mk.injEq] at h;obtain⟨rfl,rfl⟩:=h;have ao:=hG.obj o;rw[ho] at ao;obtain⟨i,c,e,t,e1,e2,e3,_⟩:=ao;obtain⟨k1,k2⟩:=hG.freeze (o:=o) (i:=i) (by rw[ho];rfl) (by rw[e1];rfl);obtain⟨B',F',j1,j2,j3,j4⟩:=Hp k2 (SRs.mono k1.b (fun _ _ h=>h) _ _ h2) heq;refine⟨B',F',k1.trans j1,j2,?_,j4⟩;simp only[SRs];refine⟨u,us,rfl,?_,j3⟩;simp only[SR] at h1 ⊢;obtain⟨b,q1,q2⟩:=h1;rw[e1] at q1;obtain rfl:i=b:=by simpa using q1
      refine⟨i,c,e,true,t,j1.b.2 _ _ ?_,q2,SRs.mono (k1.trans j1).b (fun _ _ h=>h) _ _ (Jc l c hp e3)⟩;rw[Heap.ins_self];exact e2
     ·cases h
   ·cases h
  ·exact oh _ h1 h
theorem Gam.lpUpd (hG:Gam P B F pl tb s env σ) {n:Nat}{b b0:Blk}(hF:F.get n=some b0) (hB:B.get n=none):Gam P B (F.upd n b) pl tb s env (σ.upd n b):=by
 have aA:∀ {d i},(Qc s.own d).live=true→Oid (pl d) i→i≠n:=fun h1 h2 e=>by have:=hG.fresh _ _ h1 h2;subst e;rw[hF] at this;cases this
 refine⟨⟨hG.bf.1,fun i c hc=>?_⟩,⟨hG.le.1,fun i c hc=>?_⟩,hG.env,fun d=>(hG.obj d).mono (.refl _) (fun _ _ h=>h) fun h1 i h2=>Heap.get_upd_ne _ _ (aA h1 h2),fun d i h1 h2=>?_,hG.sep,hG.free⟩
 ·have:i≠n:=by rintro rfl;rw[hB] at hc;cases hc
  rw[Heap.get_upd_ne _ _ this];exact hG.bf.2 _ _ hc
 ·by_cases e:i=n
  ·subst e;rw[Heap.get_upd_self _ _ (F.lt hF)] at hc;rw[Heap.get_upd_self _ _ (Nat.lt_of_lt_of_le (F.lt hF) hG.le.1)];exact hc
  ·rw[Heap.get_upd_ne _ _ e] at hc ⊢;exact hG.le.2 _ _ hc
 ·rw[Heap.get_upd_ne _ _ (aA h1 h2)];exact hG.fresh _ _ h1 h2
theorem Gam.lpKill (hG:Gam P B F pl tb s env σ) {n:Nat}{b0:Blk}(hF:F.get n=some b0) (hB:B.get n=none):Gam P B (F.kill n) pl tb s env (σ.kill n):=by
 have aA:∀ {d i},(Qc s.own d).live=true→Oid (pl d) i→i≠n:=fun h1 h2 e=>by have:=hG.fresh _ _ h1 h2;subst e;rw[hF] at this;cases this
 refine⟨⟨hG.bf.1,fun i c hc=>?_⟩,⟨hG.le.1,fun i c hc=>?_⟩,hG.env,fun d=>(hG.obj d).mono (.refl _) (fun _ _ h=>h) fun h1 i h2=>Heap.get_kill_ne _ (aA h1 h2),fun d i h1 h2=>?_,hG.sep,hG.free⟩
 ·have:i≠n:=by rintro rfl;rw[hB] at hc;cases hc
  rw[Heap.get_kill_ne _ this];exact hG.bf.2 _ _ hc
 ·by_cases e:i=n
  ·subst e;rw[Heap.get_kill_self] at hc;cases hc
  ·rw[Heap.get_kill_ne _ e] at hc ⊢;exact hG.le.2 _ _ hc
 ·rw[Heap.get_kill_ne _ (aA h1 h2)];exact hG.fresh _ _ h1 h2
theorem GRel.lpUpd {B1 F1 D0:Heap}(h:GRel P B1 F1 D0 s env σ) {n:Nat}{b b0:Blk}(hF:F1.get n=some b0) (hB:B1.get n=none):GRel P B1 (F1.upd n b) D0 s env (σ.upd n b):=by
 obtain⟨B,F,pl,tb,dI,hG⟩:=h;have oi:=dI.f.2 _ _ hF;have om:=dI.x _ _ hF hB;refine⟨B,F.upd n b,pl,tb,⟨dI.b,⟨dI.f.1,fun i c hc=>?_⟩,fun i c h1 h2=>?_,⟨dI.d.1,fun i h1 h2=>?_⟩⟩,hG.lpUpd oi om⟩
 ·by_cases e:i=n
  ·subst e;rw[Heap.get_upd_self _ _ (F1.lt hF)] at hc;rw[Heap.get_upd_self _ _ (F.lt oi)];exact hc
  ·rw[Heap.get_upd_ne _ _ e] at hc ⊢;exact dI.f.2 _ _ hc
 ·by_cases e:i=n
  ·subst e;exact om
  ·rw[Heap.get_upd_ne _ _ e] at h1;exact dI.x _ _ h1 h2
 ·have hd:=dI.d.2 i h1 h2;have:i≠n:=by rintro rfl;rw[hG.le.2 _ _ oi] at hd;cases hd
  rw[Heap.get_upd_ne _ _ this];exact hd
theorem GRel.lpKill {B1 F1 D0:Heap}(h:GRel P B1 F1 D0 s env σ) {n:Nat}{b0:Blk}(hF:F1.get n=some b0) (hB:B1.get n=none):GRel P B1 (F1.kill n) D0 s env (σ.kill n):=by
 obtain⟨B,F,pl,tb,dI,hG⟩:=h;have oi:=dI.f.2 _ _ hF;have om:=dI.x _ _ hF hB;refine⟨B,F.kill n,pl,tb,⟨dI.b,⟨dI.f.1,fun i c hc=>?_⟩,fun i c h1 h2=>?_,⟨dI.d.1,fun i h1 h2=>?_⟩⟩,hG.lpKill oi om⟩
 ·by_cases e:i=n
  ·subst e;rw[Heap.get_kill_self] at hc;cases hc
  ·rw[Heap.get_kill_ne _ e] at hc ⊢;exact dI.f.2 _ _ hc
 ·by_cases e:i=n
  ·subst e;exact om
  ·rw[Heap.get_kill_ne _ e] at h1;exact dI.x _ _ h1 h2
 ·have hd:=dI.d.2 i h1 h2;by_cases e:i=n
  ·subst e;exact Heap.get_kill_self _ _
  ·rw[Heap.get_kill_ne _ e];exact hd
theorem GRel.base {B0 F0 B1 F1 D0:Heap}(h:GRel P B1 F1 D0 s env σ) (hb:B0.Le B1) (hf:F0.Le F1) (hx:∀ i b,F0.get i=some b→B0.get i=none→B1.get i=none):GRel P B0 F0 D0 s env σ:=by obtain⟨B,F,pl,tb,dI,hG⟩:=h;exact⟨B,F,pl,tb,⟨hb.trans dI.b,hf.trans dI.f,fun i b h1 h2=>dI.x i b (hf.2 _ _ h1) (hx i b h1 h2),dI.d⟩,hG⟩
theorem Hx (hG:Gam P B F pl tb s env σ) {mp:List (Nat×Option Nat)}:∀ (st:List (Nat×SV)) {e:List SV},gmatch.slots s mp st→SRs P B (M3 pl mp) JY e env→SRs P B (M3 pl mp) JY (st.foldl (fun e p=>e.set p.1 p.2) e) env
 |[],e,_,h=>h
 |(j,v)::r,e,hs,h=>by
  simp only[gmatch.slots] at hs;simp only[List.foldl_cons];refine Hx hG r hs.2 ?_;have:=h.set j (U3 v _ _ hs.1 (hG.env.getD j poison));by_cases hj:j<env.length
  ·rwa [List.getD_eq_getElem?_getD,List.getElem?_eq_getElem hj,Option.getD_some,List.set_getElem_self] at this
  ·rw[List.set_eq_of_length_le (by rw[h.length];omega)];exact h
theorem FU {B:Heap}{pl:Nat→Value}{tb:Nat→Option Bool}:∀ (env:Env),SRs P B pl tb (List.replicate (List.length env) .any) env
 |[]=>by simp[SRs]
 |v::env=>by simp only[List.length_cons,List.replicate_succ,SRs];exact⟨_,_,rfl,by simp[SR],FU env⟩
theorem US {B0 F0 D0:Heap}(hR:GRel P B0 F0 D0 s env σ) {st:List (Nat×SV)}{ow:List (Nat×Src×OB)}(h:gmatch s st ow):GRel P B0 F0 D0 (Zp (List.length env) st ow) env σ:=by
 obtain⟨B,F,pl,tb,hB,hG⟩:=hR;unfold gmatch at h;split at h
 ·rename_i mp lS;obtain⟨h1,h2⟩:=h;have eU:=Pu _ _ _ lS (fun t t' a h=>by cases h);have aO:=LS h2;have ao:∀ t,(Qc (Zp (List.length env) st ow).own t).live=true→Q29 s mp t (Qc (Zp (List.length env) st ow).own t):=fun t hl=>by
   rcases VW (f:=ow) [] t with⟨p,h3,h4,h5⟩|h3
   ·have:=aO p h3;rw[h4,←h5] at this;exact this
   ·simp only[Zp] at hl;rw[h3] at hl;cases hl
  refine⟨B,F,M3 pl mp,JY,hB,hG.bf,hG.le,Hx hG st h1 (FU env),fun t=>?_,fun t i hl hi=>?_,fun t t' i aA hl cA hi cI=>?_,fun _ _=>rfl⟩
  ·cases hl:(Qc (Zp (List.length env) st ow).own t).live with
   |true=>exact(Zb hG (ao t hl)).1
   |false =>
    cases ho:Qc (Zp (List.length env) st ow).own t with
    |dead=>trivial
    |stk l vals =>
     rcases VW (f:=ow) [] t with⟨p,h3,h4,h5⟩|h3
     ·have:=aO p h3;simp only[Zp] at ho;rw[←h5,ho] at this;have h6:=(Zb hG this).1;rw[h4] at h6;exact h6
     ·simp only[Zp] at ho;rw[h3] at ho;cases ho
    |lpf l q u =>
     rcases VW (f:=ow) [] t with⟨p,h3,h4,h5⟩|h3
     ·have:=aO p h3;simp only[Zp] at ho;rw[←h5,ho] at this;have h6:=(Zb hG this).1;rw[h4] at h6;exact h6
     ·simp only[Zp] at ho;rw[h3] at ho;cases ho
    |_=>rw[ho] at hl;cases hl
  ·obtain⟨a,_,h4,h5⟩:=(Zb hG (ao t hl)).2 hl i hi;exact hG.fresh a i h4 h5
  ·obtain⟨a,e1,h4,h5⟩:=(Zb hG (ao t hl)).2 hl i hi;obtain⟨a',e2,gW,q7⟩:=(Zb hG (ao t' cA)).2 cA i cI;by_cases e:a=a'
   ·subst e;exact aA (eU t t' a e1 e2)
   ·exact hG.sep a a' i e h4 gW h5 q7
 ·exact h.elim
theorem Cn {α:Type}{o:Option α}{f:α→Prop}(h:Zg o f):∃ a,f a:=by
 cases o with
 |none=>exact h.elim
 |some a=>exact⟨a,h⟩
theorem COk.nx {C:Cx}(h:COk P C):COk P C.nx:=⟨h.cs,fun f x hx=>(by cases hx),h.it,h.yl,h.iy,fun f j _ x hx=>(by cases hx)⟩
theorem Y1 {S:VSpecs}{Q:Prop}:∀ {ops:List DOper}{env:Env}{hs:List Heap}{σ:Heap}{pend:List (Nat×(Heap→Prop))},Jk S ops env hs σ pend (fun _ _=>Q)→Q
 |[],_,_,_,_,h=>h
 |o::r,env,hs,σ,pend,h=>by
  simp only[Jk] at h;obtain⟨b,h⟩:=Cn h;cases b with
  |true =>
   have h:=h.1 rfl;split at h
   ·obtain⟨v,σ',_,_,h⟩:=h;exact Y1 h
   ·split at h
    ·obtain⟨p,_,h⟩:=Cn h;exact Y1 h
    ·obtain⟨p,h⟩:=Cn h;exact Y1 h
  |false =>
   have h:=h.2 rfl;split at h
   ·exact Y1 h.2
   ·exact Y1 h
theorem Ra {C:Cx}{s:St}{st:List (Nat×SV)}{ow:List (Nat×Src×OB)}{Q:Prop}:∀ (ls:List (List DOper)),Q72 C ls s st ow Q→(∀ l∈ls,XJ C.nx l s 1 0 [] [] fun s'=>Hn s.env.length s' st ow)∧Q
 |[],h=>⟨fun l hl=>(by cases hl),h⟩
 |l::ls,h=>by obtain⟨h1,h2⟩:=h;obtain⟨h3,h4⟩:=Ra ls h2;exact⟨fun l' cA=>(List.mem_cons.1 cA).elim (fun e=>e▸h1) (h3 l'),h4⟩
theorem UB {B0 F0 D0:Heap}{s:St}{env:Env}{σ:Heap}{n:Nat}(hR:GRel P B0 F0 D0 s env σ) {st:List (Nat×SV)}{ow:List (Nat×Src×OB)}(h:Hn n s st ow):GRel P B0 F0 D0 (Zp n st ow) env σ:=by
 unfold Hn at h;cases hb:Nat.beq s.env.length n with
 |false=>rw[hb] at h;exact h.elim
 |true =>
  rw[hb] at h;have hl:env.length=n:=by rw[←Nat.eq_of_beq_eq_true hb];obtain⟨_,_,_,_,_,hG⟩:=hR;exact hG.env.length.symm
  rw[←hl];exact US hR h
theorem Y6 {C:Cx}(aB:COk P C) {B0 F0 D0:Heap}:∀ (aQ:List DSeg) {s:St}{env:Env}{σ:Heap},GRel P B0 F0 D0 s env σ→∀ {K:St→Prop},Cy C aQ s K→∀ {R:Env→Heap→Prop},(∀ s' ae σ',K s'→GRel P B0 F0 D0 s' ae σ'→R ae σ')→Gl (Q3 P) aQ env σ R
 |[],s,env,σ,hR,K,h,R,hK=>hK s env σ h hR
 |.one o::r,s,env,σ,hR,K,h,R,hK=>by refine MT aB [o] hR (K:=fun s'=>Cy C r s' K) h fun s' ae σ' h1 h2=>?_;exact Y6 aB r h2 h1 hK
 |.alts [l]::r,s,env,σ,hR,K,h,R,hK=>by
  simp only[Cy] at h;cases hd:Q5n l with
  |false =>
   rw[hd] at h;simp only[_root_.cond_false] at h;cases hk:l.all (fun o=>o.kind==o.op.kind) with
   |false=>rw[hk] at h;exact h.elim
   |true =>
    rw[hk] at h;simp only[_root_.cond_true] at h;intro ops ho;obtain rfl:=List.mem_singleton.1 ho;obtain⟨B,F,pl,tb,hB,hG⟩:=hR;have one:∀ (j:Nat) (τ:Heap),([σ]:List Heap)[j]?=some τ→τ=σ:=fun j τ ht=>by
     cases j with
     |zero=>simpa using ht.symm
     |succ j=>simp at ht
    exact Qx aB ops (fun o ho=>by simpa using List.all_eq_true.1 hk o ho) hB hG (hl:=1) (chg:=0) (A:=[]) (Rd:=[]) ⟨rfl,fun j τ _ ht=>one j τ ht,(fun c hc=>absurd hc (by simp)),fun j τ q i ht _ _ _=>by rw[one j τ ht]⟩ (pend:=[]) (pd:=[]) (fun c hc=>absurd hc (by simp)) (fun j τ ht _=>by rw[one j τ ht];exact hG.leB) (Nat.zero_le _) (Nat.succ_pos _) h fun s' ae σ' h1 h2=>⟨ae,σ',.refl _ _ _,Y6 aB r h2 h1 hK⟩
  |true =>rw[hd] at h;refine Q1z (l:=l) hd ?_;exact MT aB _ hR h fun s' ae σ' h1 h2=>Y6 aB r h2 h1 hK
 |.alts []::r,s,env,σ,hR,K,h,R,hK=>h.elim
 |.alts (l::l2::ls)::r,s,env,σ,hR,K,h,R,hK=>by
  simp only[Cy] at h;cases hk:(l::l2::ls).all (fun l=>l.all fun o=>o.kind==o.op.kind) with
  |false=>rw[hk] at h;exact h.elim
  |true =>
   rw[hk] at h;simp only[_root_.cond_true] at h;obtain⟨B,F,pl,tb,hB,hG⟩:=hR;have one:∀ (j:Nat) (τ:Heap),([σ]:List Heap)[j]?=some τ→τ=σ:=fun j τ ht=>by
    cases j with
    |zero=>simpa using ht.symm
    |succ j=>simp at ht
   have run:∀ l'∈l::l2::ls,∀ {K':St→Prop},XJ C.nx l' s 1 0 [] [] K'→∀ {R':Env→Heap→Prop},(∀ s' ae σ',K' s'→GRel P B0 F0 D0 s' ae σ'→R' ae σ')→Jk (Q3 P) l' env [σ] σ [] R':=fun l' cA K' h' R' qY =>
    Qv aB.nx rfl l' (fun o ho=>by simpa using List.all_eq_true.1 (List.all_eq_true.1 hk l' cA) o ho) hB hG (hl:=1) (chg:=0) (A:=[]) (Rd:=[]) ⟨rfl,fun j τ _ ht=>one j τ ht,(fun c hc=>absurd hc (by simp)),fun j τ q i ht _ _ _=>by rw[one j τ ht]⟩ (pend:=[]) (pd:=[]) (fun c hc=>absurd hc (by simp)) (fun j τ ht _=>by rw[one j τ ht];exact hG.leB) (Nat.zero_le _) (Nat.succ_pos _) h' qY
   obtain⟨s0,h0,h1⟩:=Y1 (run l List.mem_cons_self h (R':=fun _ _=>∃ s0:St,_) fun s' _ _ h' _=>⟨s',h'⟩);obtain⟨h2,h3⟩:=Ra _ h1;intro ops ho;rcases List.mem_cons.1 ho with rfl|fc
   ·refine Y5 ?_;exact run ops ho h fun s' ae σ' h' q9=>⟨ae,σ',.refl _ _ _,by
     obtain⟨k1,k2⟩:=h';exact Y6 aB r (UB q9 k1) (Ra _ k2).2 hK⟩
   ·refine Y5 ?_;exact run ops ho (h2 ops fc) fun s' ae σ' h' q9=>⟨ae,σ',.refl _ _ _,Y6 aB r (UB q9 h') h3 hK⟩
theorem TI:∀ (l:List Nat) (vs:List SV),(Q7i l vs).map (·.1)=l
 |[],_=>rfl
 |j::js,[]=>by simp[Q7i,TI js []]
 |j::js,v::vs=>by simp[Q7i,TI js vs]
theorem Mv {B:Heap}{pl:Nat→Value}{tb:Nat→Option Bool}:∀ {ps:List Nat}{xs:List SV}{us:List Value}{e:List SV}{env:Env},SRs P B pl tb xs us→SRs P B pl tb e env→SRs P B pl tb (BN e ps xs) (TQ env ps us)
 |[],xs,us,e,env,_,h=>by simpa [BN,TQ] using h
 |p::ps,[],us,e,env,hx,h=>by simp only[SRs] at hx;subst hx;simpa [BN,TQ] using h
 |p::ps,x::xs,us,e,env,hx,h=>by simp only[SRs] at hx;obtain⟨u,mv,rfl,h1,h2⟩:=hx;simp only[BN,TQ];exact Mv h2 (h.set p h1)
def Z2b (F0:Heap):Option Nat→Prop
 |none=>True
 |some i=>∃ env r st pend,F0.get i=some (.obj (.lp env r st pend) true)
theorem Gam.dropLp {B F:Heap}{pl:Nat→Value}{tb:Nat→Option Bool}{s:St}{env:Env}{σ:Heap}(hG:Gam P B F pl tb s env σ) {o:Nat}{l:List SV}{q:LpD}{u:LpS}(ho:Qc s.own o=.lpf l q u) (hl:u.live=true) :
  Gam P B F pl tb ⟨l,oset s.own o .dead,s.nx⟩ q.vals (σ.kill q.i)∧σ.get q.i=some (.obj (.lp q.vals q.r u.st u.pend) true):=by
 have ao:=hG.obj o;rw[ho] at ao;obtain⟨h1,h2,h3⟩:=ao;have j8:(Qc s.own o).live=true:=by rw[ho];exact hl
 have jP:Oid (pl o) q.i:=by rw[h1];rfl
 have hF:=hG.fresh o q.i j8 jP;have lv:∀ d,(Qc (oset s.own o .dead) d).live=true→d≠o∧(Qc s.own d).live=true:=fun d h=>by
  rw[Qs] at h;by_cases e:d=o
  ·rw[if_pos e] at h;cases h
  ·rw[if_neg e] at h;exact⟨e,h⟩
 refine⟨⟨hG.bf,⟨hG.le.1,fun j b hb=>?_⟩,h2,fun d=>?_,fun d i hd hi=>hG.fresh d i (lv d hd).2 hi,fun d d' i e h h'=>hG.sep d d' i e (lv d h).2 (lv d' h').2,hG.free⟩,h3 hl⟩
 ·have e:j≠q.i:=by rintro rfl;rw[hF] at hb;cases hb
  rw[Heap.get_kill_ne _ e];exact hG.le.2 _ _ hb
 ·rw[Qs];by_cases e:d=o
  ·rw[if_pos e];trivial
  ·rw[if_neg e];refine (hG.obj d).mono (.refl _) (fun _ _ h=>h) fun hd i hi=>?_;have:i≠q.i:=by rintro rfl;exact hG.sep d o q.i e hd j8 hi jP
   exact Heap.get_kill_ne _ this
theorem Q2k (s:St) (o:Nat) (b:OB) (j:Nat):Qc (s.make o b).own j=if j=o then b else (Qc s.own j).kill o:=by
 simp only[St.make,Qs];by_cases h:j=o
 ·subst h;simp
 ·simp only[h,if_false,St.kill,U5]
theorem Gam.enterLp {B F:Heap}{pl:Nat→Value}{tb:Nat→Option Bool}{s:St}{env:Env}{σ:Heap}(hG:Gam P B F pl tb s env σ) {o aL:Nat}{l:List SV}{q:LpD}(ho:Qc s.own o=.lpf l q .rdy) (aA:o≠aL)
  {args:List SV}{us:List Value}(aC:SRs P B pl tb args us) (ps:List Nat) :
  Gam P B (F.ins σ q.i hG.le.1) (X5 pl aL poison) tb ⟨BN (SVs.kill aL l) ps (SVs.kill aL args),oset (EF aL env s).own o (.lpf (SVs.kill aL l) q .busy),s.nx⟩ (TQ q.vals ps us) σ:=by
 have q3:Gam P B F (X5 pl aL poison) tb (EF aL env s) env σ:=by refine hG.make aL _ poison hG.le (fun _ _ _ _ _=>rfl) ?_ (fun i hl _=>by cases hl);exact SRs.upd (.refl _) (fun _ _ h=>h) (fun j hj=>by simp[X5,hj]) _ _ hG.env
 have ao:=hG.obj o;rw[ho] at ao;obtain⟨h1,h2,h3⟩:=ao;have j8:(Qc s.own o).live=true:=by rw[ho];rfl
 have pG:X5 pl aL poison o=.pointer (some ⟨q.i,0,none⟩):=by simp[X5,aA,h1]
 have uX:Qc (EF aL env s).own o=.lpf (SVs.kill aL l) q .rdy:=by have:=Q2k s aL (.stk (SVs.kill aL s.env) env) o;unfold EF;rw[this,if_neg aA,ho];rfl
 have oo:(Qc (EF aL env s).own o).live=true:=by rw[uX];rfl
 have jP:Oid (X5 pl aL poison o) q.i:=by rw[pG];rfl
 have hF:=q3.fresh o q.i oo jP;have cG:SRs P B (X5 pl aL poison) tb (SVs.kill aL l) q.vals:=SRs.upd (.refl _) (fun _ _ h=>h) (fun j hj=>by simp[X5,hj]) _ _ h2;have uY:SRs P B (X5 pl aL poison) tb (SVs.kill aL args) us:=SRs.upd (.refl _) (fun _ _ h=>h) (fun j hj=>by simp[X5,hj]) _ _ aC;have lv:∀ d,(Qc (oset (EF aL env s).own o (.lpf (SVs.kill aL l) q .busy)) d).live=true→d≠o∧(Qc (EF aL env s).own d).live=true:=fun d h=>by
  rw[Qs] at h;by_cases e:d=o
  ·rw[if_pos e] at h;cases h
  ·rw[if_neg e] at h;exact⟨e,h⟩
 refine⟨q3.bf.trans (hG.le.ins _),hG.le.ins_le _,Mv uY cG,fun d=>?_,fun d i hd hi=>?_,fun d d' i e h h'=>q3.sep d d' i e (lv d h).2 (lv d' h').2,q3.free⟩
 ·show OR P B _ tb σ _ (Qc (oset _ o _) d);rw[Qs];by_cases e:d=o
  ·subst e;rw[if_pos rfl];exact⟨pG,cG,fun h=>by cases h⟩
  ·rw[if_neg e];exact q3.obj d
 ·obtain⟨e,sP⟩:=lv d hd;have:i≠q.i:=by rintro rfl;exact q3.sep d o q.i e sP oo hi jP
  rw[Heap.ins_ne _ _ _ this];exact q3.fresh d i sP hi
theorem Gam.leaveLp {B F:Heap}{pl:Nat→Value}{tb:Nat→Option Bool}{s:St}{env:Env}{σ:Heap}(hG:Gam P B F pl tb s env σ) {o aL:Nat}{l l2:List SV}{kG:List Value}{q:LpD}{b0:Blk}(hF:F.get q.i=some b0) (hB:B.get q.i=none)
  (h2:Qc s.own aL=.stk l2 kG) (ho:Qc s.own o=.lpf l q .busy) (u:LpS) :
  Gam P B (F.kill q.i) pl tb ⟨l2,oset (oset s.own aL .dead) o (.lpf l q u),s.nx⟩ kG (σ.upd q.i (.obj (.lp q.vals q.r u.st u.pend) true)):=by
 have ao:=hG.obj o;rw[ho] at ao;obtain⟨k1,k2,_⟩:=ao;have hk:=hG.obj aL;rw[h2] at hk;have hi:q.i<σ.n:=σ.lt (hG.le.2 _ _ hF);have aA:∀ {d i},(Qc s.own d).live=true→Oid (pl d) i→i≠q.i:=fun h1 h2 e=>by have:=hG.fresh _ _ h1 h2;subst e;rw[hF] at this;cases this
 have jP:∀ i,Oid (pl o) i→i=q.i:=fun i h=>by rw[k1] at h;exact(osj h).symm
 have hg:∀ d,Qc (oset (oset s.own aL .dead) o (.lpf l q u)) d=if d=o then .lpf l q u else if d=aL then .dead else Qc s.own d:=fun d=>by rw[Qs,Qs]
 have lv:∀ d,d≠o→(Qc (oset (oset s.own aL .dead) o (.lpf l q u)) d).live=true→(Qc s.own d).live=true:=fun d e h=>by
  rw[hg,if_neg e] at h;split at h
  ·cases h
  ·exact h
 refine⟨⟨hG.bf.1,fun j b hb=>?_⟩,⟨hG.le.1,fun j b hb=>?_⟩,hk,fun d=>?_,fun d i hd cI=>?_,fun d d' i e h h' h1 g7=>?_,hG.free⟩
 ·have e:j≠q.i:=by rintro rfl;rw[hB] at hb;cases hb
  rw[Heap.get_kill_ne _ e];exact hG.bf.2 _ _ hb
 ·by_cases e:j=q.i
  ·subst e;rw[Heap.get_kill_self] at hb;cases hb
  ·rw[Heap.get_kill_ne _ e] at hb;rw[Heap.get_upd_ne _ _ e];exact hG.le.2 _ _ hb
 ·show OR P B pl tb _ _ (Qc (oset _ o _) d);rw[hg];by_cases e:d=o
  ·subst e;rw[if_pos rfl];exact⟨k1,k2,fun _=>Heap.get_upd_self _ _ hi⟩
  ·rw[if_neg e];split
   ·trivial
   ·exact(hG.obj d).mono (.refl _) (fun _ _ h=>h) fun hd i hi=>Heap.get_upd_ne _ _ (aA hd hi)
 ·by_cases e:d=o
  ·subst e;rw[jP i cI];exact Heap.get_kill_self _ _
  ·rw[Heap.get_kill_ne _ (aA (lv d e hd) cI)];exact hG.fresh d i (lv d e hd) cI
 ·by_cases e1:d=o
  ·subst e1;have e2:d'≠d:=fun h=>e h.symm;exact aA (lv d' e2 h') g7 (jP i h1)
  ·by_cases e2:d'=o
   ·subst e2;exact aA (lv d e1 h) h1 (jP i g7)
   ·exact hG.sep d d' i e (lv d e1 h) (lv d' e2 h') h1 g7
theorem Bl {C:Cx}(aB:COk P C) {L:List (Nat×LoopAnn)}(vc:VCode):∀ {B0 F0 D0:Heap}(n:Nat) (K:Exit→St→Prop) (s:St) (env:Env) (σ:Heap) (ro:Option Nat) (Q:Exit→Env→Heap→Prop),Z2b F0 ro→GRel P B0 F0 D0 s env σ→gwp C L vc n K s→(∀ e s' ae σ',K e s'→GRel P B0 F0 D0 s' ae σ'→Q e ae σ')→vwp (Q3 P) vc ro Q env σ:=by
 induction vc with
 |skip=>intro B0 F0 D0 n K s env σ ro Q bU hR h hK;exact hK _ _ _ _ h hR
 |region ops=>intro B0 F0 D0 n K s env σ ro Q bU hR h hK;exact MT aB ops hR h fun s' ae σ' h1 h2=>hK _ _ _ _ h1 h2
 |regionD aQ=>intro B0 F0 D0 n K s env σ ro Q bU hR h hK;exact Y6 aB aQ hR h fun s' ae σ' h1 h2=>hK _ _ _ _ h1 h2
 |rangeF g ps a b eX ep =>
  intro B0 F0 D0 n K s env σ ro Q bU hR h hK;simp only[gwp] at h;split at h
  ·rename_i f first dE hg
   split at h
   ·
    rename_i x hx;obtain⟨B,F,pl,tb,hB,hG⟩:=hR;have gO:=hG.evs (Gds.nil (tb:=tb)) g;rw[hg] at gO;simp only[SR] at gO;obtain⟨x',y',bg,lT,oq⟩:=gO;obtain⟨il,my⟩:=aB.iy f x hx;show vwp (Q3 P) (.rangeF g ps a b) ro Q env σ;simp only[vwp,A7,bg];have lU:(Q3 P).it f=some fun i Y args σ K=>Kx P i Y→VCallsTo P f args σ K:=by simp only[Q3];rw[if_pos il]
    rw[lU];refine⟨?_,fun r hY=>?_⟩
    ·cases ro with
     |none=>trivial
     |some i =>obtain⟨e1,r1,st1,q_,hi⟩:=bU;exact⟨e1,r1,st1,q_,hG.le.2 _ _ (hB.f.2 _ _ hi)⟩
    generalize mi:C.off+2000000+n=o at h;generalize fK:100000*(o+1)-1=aL at h;have aj:o≠aL:=by omega
    let q:LpD:=⟨σ.n,env,r⟩;let rdy:Blk:=.obj (.lp env r .ready none) true;let fh:Blk:=.obj (.lp env r .busy none) true;let p0:Value:=.pointer (some ⟨σ.n,0,none⟩);have iL:Gam P B F (X5 pl o p0) tb (Z3i o q s) env (σ.push rdy):=by refine hG.push o (.lpf (SVs.kill o s.env) q .rdy) p0 rdy rfl ⟨rfl,SRs.upd (.refl _) (fun _ _ h=>h) (fun j hj=>by simp[X5,hj]) _ _ hG.env,fun _=>Heap.get_push_self _ _⟩
    have kl:∀ {xs us},SRs P B pl tb xs us→SRs P B (X5 pl o p0) tb (SVs.kill o xs) us:=fun h=>SRs.upd (.refl _) (fun _ _ h=>h) (fun j hj=>by simp[X5,hj]) _ _ h;have aC:SRs P B (X5 pl o p0) tb (SVs.kill o first++(.dd o .yv::SVs.kill o dE)) (x'++(.func (.yield σ.n) #[] #[]::y')):=by refine (kl lT).append ?_;simp only[SRs,SR,DR];exact⟨_,_,rfl,⟨σ.n,by simp[X5,p0],rfl⟩,kl oq⟩
    have uZ:Q43 P o (Q0y o aL ps.length q (fun K' s'=>gwp C L a n (Q3o (fun s3=>gwp C L b n K' s3) fun _ _=>False) s') ps):=by
     intro B F pl tb s ae σ args us K R i hG ha hy pG hK;unfold Q0y at hy;split at hy
     ·rename_i l q' u ho;split at hy
      ·cases hlen:Nat.beq args.length ps.length with
       |false=>rw[hlen] at hy;exact hy.elim
       |true =>
       rw[hlen] at hy;simp only[_root_.cond_true] at hy;obtain⟨rfl,hy⟩:=hy;have ao:=hG.obj o;rw[ho] at ao;have hi:i=q.i:=by have h1:=ao.1;rw[pG] at h1;have:=osj (Value.pointer.inj h1);exact(Addr.mk.inj this).1
       subst hi;have lW:σ.get q.i=some rdy:=ao.2.2 rfl;have j8:(Qc s.own o).live=true:=by rw[ho];rfl
       have mB:F.get q.i=none:=hG.fresh o q.i j8 (by rw[ao.1];rfl);have sQ:B.get q.i=none:=by
        cases hb:B.get q.i with
        |none=>rfl
        |some b=>rw[hG.bf.2 _ _ hb] at mB;cases mB
       have kK:=hG.enterLp ho aj ha ps;have iM:(F.ins σ q.i hG.le.1).get q.i=some rdy:=by rw[Heap.ins_self];exact lW
       have fE:(F.ins σ q.i hG.le.1).n=σ.n:=rfl;have aP:q.i<σ.n:=σ.lt lW;refine hY us σ R ⟨lW,by rw[←ha.length];exact(Nat.eq_of_beq_eq_true hlen),?_⟩;refine eX (B0:=B) (F0:=F.ins σ q.i hG.le.1) (D0:=σ) n _ _ _ σ (some q.i) _ ⟨env,r,_,_,iM⟩ ⟨B,_,_,tb,.of kK.bf (Dead.refl _),kK⟩ (hy ae) fun e s3 rb σ3 h7 h8=>?_;cases e with
       |normal =>
        have jD:σ3.get q.i=some rdy:=by obtain⟨B',F',pl',tb',q1,q2⟩:=h8;exact q2.le.2 _ _ (q1.f.2 _ _ iM)
        refine⟨jD,?_⟩;have h9:=h8.lpUpd (b:=fh) iM sQ;have mD:((F.ins σ q.i hG.le.1).upd q.i fh).get q.i=some fh:=Heap.get_upd_self _ _ (by rw[fE];exact aP);refine ep (B0:=B) (F0:=(F.ins σ q.i hG.le.1).upd q.i fh) (D0:=σ) n _ _ _ _ (some q.i) _ ⟨env,r,_,_,mD⟩ h9 h7 fun e s4 rf σ4 bX fP=>?_;obtain⟨B',F',pl',tb',q1,q2⟩:=fP;have pH:=q1.f.2 _ _ mD;have rh:=q1.x _ _ mD sQ;have ot:σ4.get q.i=some fh:=q2.le.2 _ _ pH;unfold gyK at bX;split at bX
        ·rename_i l2 kG l3 q3 u3 aq ri;split at bX
         ·obtain⟨rfl,rfl,bX⟩:=bX;have base:∀ b,GBase B F σ B' (F'.kill q.i) (σ4.upd q.i b):=fun b=>by
           refine⟨q1.b,⟨?_,fun j c hc=>?_⟩,fun j c h1 h2=>?_,q1.d.trans (Dead.upd _ _ _ (by rw[ot];rfl))⟩
           ·have h1:=q1.f.1;have h2:=hG.le.1;show F.n≤F'.n;have h3:((F.ins σ q.i hG.le.1).upd q.i fh).n=σ.n:=rfl;omega
           ·have e:j≠q.i:=by rintro rfl;rw[mB] at hc;cases hc
            rw[Heap.get_kill_ne _ e];refine q1.f.2 _ _ ?_;rw[Heap.get_upd_ne _ _ e,Heap.ins_ne _ _ _ e];exact hc
           ·have e:j≠q.i:=by rintro rfl;rw[mB] at h1;cases h1
            refine q1.x j c ?_ h2;rw[Heap.get_upd_ne _ _ e,Heap.ins_ne _ _ _ e];exact h1
          refine⟨ot,?_⟩;cases e with
          |normal=>exact hK _ _ B' _ pl' tb' _ _ bX (base _) (q2.leaveLp pH rh aq ri .rdy) (by simp[SR,KC])
          |ret=>exact hK _ _ B' _ pl' tb' _ _ bX (base _) (q2.leaveLp pH rh aq ri .ret) (by simp[SR,KC])
          |exit id=>exact hK _ _ B' _ pl' tb' _ _ bX (base _) (q2.leaveLp pH rh aq ri (.exit id)) (by simp[SR,KC])
          |_=>exact bX.elim
         ·exact bX.elim
        ·exact bX.elim
       |_=>exact h7.elim
      ·exact hy.elim
     ·exact hy.elim
    have aZ:=my B F _ tb _ env (σ.push rdy) o _ _ _ (Q6a o q K) (fun τ=>Q4v Q env σ.n poison τ) iL aC uZ (h q) fun s' B' F' pl' tb' ae σ' hk hb dK=>by
     unfold Q6a at hk;split at hk
     ·rename_i l q' u ho;have fin:∀ {e:Exit},u.live=true→q'=q→K e ⟨l,oset s'.own o .dead,s'.nx⟩→Q e env (σ'.kill σ.n)∧σ'.get σ.n=some (.obj (.lp env r u.st u.pend) true):=fun {e} hu hq u1=>by
       subst hq;obtain⟨g1,g2⟩:=dK.dropLp ho hu;refine⟨hK _ _ _ _ u1 ⟨B',F',pl',tb',⟨hB.b.trans hb.b,hB.f.trans hb.f,fun j c h1 h2=>hb.x j c (hB.f.2 _ _ h1) (hB.x j c h1 h2),hB.d.trans ((Dead.push _ _).trans (hb.d.trans (Dead.kill _ _)))⟩,g1⟩,g2⟩
      cases u with
      |busy=>exact hk.elim
      |rdy =>obtain⟨hq,hk⟩:=hk;obtain⟨k1,k2⟩:=fin rfl hq hk;unfold Q4v;rw[k2];exact⟨(by intro h;cases h),k1⟩
      |ret =>obtain⟨hq,hk⟩:=hk;obtain⟨k1,k2⟩:=fin rfl hq hk;unfold Q4v;rw[k2];exact⟨(by intro h;cases h),k1⟩
      |exit id =>obtain⟨hq,hk⟩:=hk;obtain⟨k1,k2⟩:=fin rfl hq hk;unfold Q4v;rw[k2];exact⟨(by intro h;cases h),k1⟩
     ·exact hk.elim
    refine VCallsTo.mono (R:=fun _ τ=>Q4v Q env σ.n poison τ) (by simpa using aZ) fun v τ h=>h
   split at h
   rotate_left
   ·exact h.elim
   split at h
   ·rename_i it s1 cN A gA rj hA;split at h
    ·rename_i c m ar xs hc;cases fb:Nat.beq ps.length ar with
     |false=>rw[fb] at h;exact h.elim
     |true =>
     rw[fb] at h;simp only[_root_.cond_true] at h;obtain⟨ef,p,d0,fJ,I,u2,sR,sS⟩:=h;have fb:=Nat.eq_of_beq_eq_true fb;have hlen:s.env.length=env.length:=by obtain⟨B,F,pl,tb,_,hG⟩:=hR;exact hG.env.length
     rw[hlen] at sR sS;have oa:=hR;obtain⟨B,F,pl,tb,hB,hG⟩:=hR;have gO:=hG.evs Gds.nil g;rw[hg] at gO;simp only[SR] at gO;obtain⟨x,y,bg,hx,hy⟩:=gO;simp only[SRs] at hx;subst hx;obtain⟨B1,F1,ou,ov,u4,jg⟩:=Hp hG hy rj;obtain⟨il,rk⟩:=aB.it f it gA;obtain⟨ox,rn⟩:=rk B1 cN y c m ar xs u4 hc ef;have u5:GRel P B1 F1 D0 (Zp (List.length env) (A.st p d0) (A.own p d0)) env σ:=US ⟨B1,F1,pl,tb,⟨.refl _,.refl _,fun _ _ _ h=>h,(hB.trans ou).d⟩,ov⟩ fJ;have mE:B1.get σ.n=none:=B1.wf _ ov.leB.1;have u6:F1.get σ.n=none:=F1.wf _ ov.le.1;show vwp (Q3 P) (.rangeF g ps a b) ro Q env σ;simp only[vwp,A7,bg];have lU:(Q3 P).it f=some fun i Y args σ K=>Kx P i Y→VCallsTo P f args σ K:=by simp only[Q3];rw[if_pos il]
     rw[lU];refine⟨?_,fun r hY=>?_⟩
     ·cases ro with
      |none=>trivial
      |some i =>obtain⟨e1,r1,st1,q_,hi⟩:=bU;exact⟨e1,r1,st1,q_,hG.le.2 _ _ (hB.f.2 _ _ hi)⟩
     ·let rdy:Blk:=.obj (.lp env r .ready none) true;let fh:Blk:=.obj (.lp env r .busy none) true;have kL:F1.Le (σ.push rdy):=ov.le.push rdy;let Fr:=F1.ins (σ.push rdy) σ.n kL.1;have iM:Fr.get σ.n=some rdy:=by
       show (F1.ins _ _ _).get σ.n=_;rw[Heap.ins_self,Heap.get_push_self]
      have fE:Fr.n=σ.n+1:=rfl;have u7:F1.Le Fr:=kL.ins σ.n;let J:Nat→Heap→Prop:=fun k τ=>∃ d,I k d∧GRel P B1 Fr D0 (Zp (List.length env) (A.st p d) (A.own p d)) env τ;let E:Heap→Prop:=fun τ=>∃ cd e,τ.get σ.n=some (.obj (.lp env r .done (some cd)) true)∧((cd=.ret∧e=Exit.ret)∨∃ id,cd=.exit id∧e=Exit.exit id)∧Q e env (τ.kill σ.n);have back:∀ {s':St}{τ:Heap},GRel P B1 (Fr.upd σ.n fh) D0 s' env τ→∀ b,GRel P B1 ((Fr.upd σ.n fh).upd σ.n b) D0 s' env (τ.upd σ.n b):=fun h b =>
       h.lpUpd (b0:=fh) (Heap.get_upd_self _ _ (by rw[fE];omega)) mE
      have iN:∀ {Fx:Heap}{b0:Blk}{s':St}{τ:Heap},Fx.get σ.n=some b0→(∀ i,i≠σ.n→Fx.get i=F1.get i)→Fx.n=σ.n+1→GRel P B1 Fx D0 s' env τ→GRel P B0 F0 D0 s' env (τ.kill σ.n):=fun {Fx b0 s' τ} h1 h2 h3 h4=>by
       refine (h4.lpKill h1 mE).base (hB.b.trans ou.b) ⟨?_,fun i b hb=>?_⟩ fun i b k1 k2=>(hB.trans ou).x i b k1 k2
       ·show F0.n≤Fx.n;rw[h3];have:=(hB.trans ou).f.1;have:=ov.le.1;omega
       ·have bC:=(hB.trans ou).f.2 _ _ hb;have e:i≠σ.n:=by rintro rfl;rw[u6] at bC;cases bC
        rw[Heap.get_kill_ne _ e,h2 i e];exact bC
      have jQ:∀ i,i≠σ.n→Fr.get i=F1.get i:=fun i e=>Heap.ins_ne _ _ _ e;have aZ:=rn σ.n _ J E (σ.push rdy) hY (fun k τ ⟨d,_,hd⟩=>?_) (fun k us τ hk ⟨d,rp,hd⟩ eD=>?_) ⟨d0,u2,?_⟩
      ·refine VCallsTo.mono (R:=fun _ τ=>J m τ∨E τ) (by simpa using aZ) fun v τ nB=>?_;unfold Q4v;rcases nB with⟨d,rp,hd⟩|⟨cd,e,h1,h2,h3⟩
       ·have lW:τ.get σ.n=some rdy:=by
         obtain⟨B',F',pl',tb',q1,q2⟩:=hd;exact q2.le.2 _ _ (q1.f.2 _ _ iM)
        rw[lW];exact⟨(by intro h;cases h),hK _ _ _ _ (sS d rp) (iN iM jQ fE hd)⟩
       ·rw[h1];refine⟨(by intro h;cases h),?_⟩;rcases h2 with⟨rfl,rfl⟩|⟨id,rfl,rfl⟩<;>exact h3
      ·obtain⟨B',F',pl',tb',q1,q2⟩:=hd;exact q1.b.trans q2.leB
      ·
       have lW:τ.get σ.n=some rdy:=by obtain⟨B',F',pl',tb',q1,q2⟩:=hd;exact q2.le.2 _ _ (q1.f.2 _ _ iM)
       refine⟨lW,by rw[fb,←(ox k).1,eD.length],?_⟩;have hF:=sR k d hk rp env;have a_:GRel P B1 Fr D0 ⟨BN (EF (2000000+n) env (Zp (List.length env) (A.st p d) (A.own p d))).env ps (xs k),(EF (2000000+n) env (Zp (List.length env) (A.st p d) (A.own p d))).own,0⟩ (TQ env ps us) τ:=by
        obtain⟨B',F',pl',tb',q1,q2⟩:=hd;have q3:Gam P B' F' (X5 pl' (2000000+n) poison) tb' (EF (2000000+n) env (Zp (List.length env) (A.st p d) (A.own p d))) env τ:=by refine q2.make (2000000+n) _ poison q2.le (fun _ _ _ _ _=>rfl) ?_ (fun i hl _=>by cases hl);exact SRs.upd (.refl _) (fun _ _ h=>h) (fun j hj=>by simp[X5,hj]) _ _ q2.env
        refine⟨B',F',X5 pl' (2000000+n) poison,tb',q1,⟨q3.bf,q3.le,Mv ?_ q3.env,q3.obj,q3.fresh,q3.sep,?_⟩⟩
        ·exact SRs.mono q1.b (fun _ _ h=>h) _ _ (Jc _ _ (ox k).2 eD)
        ·exact q3.free
       refine eX (B0:=B1) (F0:=Fr) n _ _ _ τ (some σ.n) _ ⟨env,r,_,_,iM⟩ a_ hF fun e s3 rb σ3 h7 h8=>?_;cases e with
       |normal =>
        have jD:σ3.get σ.n=some rdy:=by obtain⟨B',F',pl',tb',q1,q2⟩:=h8;exact q2.le.2 _ _ (q1.f.2 _ _ iM)
        refine⟨jD,?_⟩;have h9:=h8.lpUpd (b:=fh) iM mE;have mD:(Fr.upd σ.n fh).get σ.n=some fh:=Heap.get_upd_self _ _ (by rw[fE];omega);refine ep (B0:=B1) (F0:=Fr.upd σ.n fh) n _ _ _ _ (some σ.n) _ ⟨env,r,_,_,mD⟩ h9 h7 fun e s4 rf σ4 bX fP=>?_;have ot:σ4.get σ.n=some fh:=by obtain⟨B',F',pl',tb',q1,q2⟩:=fP;exact q2.le.2 _ _ (q1.f.2 _ _ mD)
        have sU:σ.n<σ4.n:=σ4.lt ot;unfold Q0b at bX;split at bX
        ·rename_i l vs iO;obtain⟨rfl,bX⟩:=bX;have cU:GRel P B1 (Fr.upd σ.n fh) D0 ⟨l,s4.own,s4.nx⟩ vs σ4:=by
          obtain⟨B',F',pl',tb',q1,q2⟩:=fP;have:=q2.obj (2000000+n);rw[iO] at this;exact⟨B',F',pl',tb',q1,q2.bf,q2.le,this,q2.obj,q2.fresh,q2.sep,q2.free⟩
         have lX:∀ b,((Fr.upd σ.n fh).upd σ.n b).get σ.n=some b:=fun b=>Heap.get_upd_self _ _ (by show σ.n<Fr.n;rw[fE];omega);have rr:∀ b i,i≠σ.n→((Fr.upd σ.n fh).upd σ.n b).get i=F1.get i:=fun b i e=>by rw[Heap.get_upd_ne _ _ e,Heap.get_upd_ne _ _ e,jQ i e]
         refine⟨ot,?_⟩;cases e with
         |normal =>
          obtain⟨d',lH,pE⟩:=bX;refine .inl ⟨rfl,d',pE,?_⟩;have:=(back (US cU lH) rdy).base (B0:=B1) (F0:=Fr) (.refl _) ⟨Nat.le_refl _,fun i b hb=>?_⟩ fun i b k1 k2=>k2
          ·exact this
          ·by_cases e:i=σ.n
           ·subst e;rw[iM] at hb;rw[lX];exact hb
           ·rw[rr _ _ e,←jQ i e];exact hb
         |ret =>refine .inr ⟨rfl,_,_,Heap.get_upd_self _ _ sU,.inl ⟨rfl,rfl⟩,hK _ _ _ _ bX (iN (lX _) (rr _) (by show Fr.n=_;exact fE) (back cU _))⟩
         |exit id =>refine .inr ⟨rfl,_,_,Heap.get_upd_self _ _ sU,.inr ⟨id,rfl,rfl⟩,hK _ _ _ _ bX (iN (lX _) (rr _) (by show Fr.n=_;exact fE) (back cU _))⟩
         |_=>exact bX.elim
        ·exact bX.elim
       |_=>exact h7.elim
      ·
       obtain⟨B',F',pl',tb',q1,q2⟩:=u5;have hle:F'.Le (σ.push rdy):=q2.le.push rdy;have u9:F'.get σ.n=none:=F'.wf _ q2.le.1;have ao:∀ d i,(Qc (Zp (List.length env) (A.st p d0) (A.own p d0)).own d).live=true→Oid (pl' d) i→i<σ.n:=fun d i h1 h2=>(q2.obj d).id_lt h1 h2;refine⟨B',F'.ins (σ.push rdy) σ.n hle.1,pl',tb',⟨q1.b,Heap.ins_ins q1.f _ _ _,fun i b k1 k2=>?_,q1.d.trans (Dead.push _ _)⟩,⟨q2.bf.trans (hle.ins _),hle.ins_le _,q2.env,fun d=>(q2.obj d).mono (.refl _) (fun _ _ h=>h) fun h1 i h2=>Heap.get_push_lt _ _ (ao d i h1 h2),fun d i h1 h2=>?_,q2.sep,q2.free⟩⟩
       ·by_cases e:i=σ.n
        ·subst e;exact B'.wf _ q2.leB.1
        ·rw[jQ i e] at k1;exact q1.x i b k1 k2
       ·rw[Heap.ins_ne _ _ _ (Nat.ne_of_lt (ao d i h1 h2))];exact q2.fresh d i h1 h2
    ·exact h.elim
   ·exact h.elim
  ·exact h.elim
 |bad=>intro B0 F0 D0 n K s env σ ro Q bU hR h hK;exact h.elim
 |ret=>intro B0 F0 D0 n K s env σ ro Q bU hR h hK;exact hK _ _ _ _ h hR
 |exit id=>intro B0 F0 D0 n K s env σ ro Q bU hR h hK;exact hK _ _ _ _ h hR
 |seq a b eX ep =>
  intro B0 F0 D0 n K s env σ ro Q bU hR h hK;refine eX n _ s env σ ro _ bU hR h fun e s' ae σ' h1 h2=>?_;cases e with
  |normal=>exact ep n K s' ae σ' ro Q bU h2 h1 hK
  |_=>exact hK _ _ _ _ h1 h2
 |cond c a b eX ep =>
  intro B0 F0 D0 n K s env σ ro Q bU hR h hK;simp only[gwp] at h;split at h
  ·rename_i t ht;have oa:=hR;obtain⟨B,F,pl,tb,hB,hG⟩:=hR;have:=MG hG ht;simp only[vwp,this,E6];cases t with
   |true=>exact⟨fun _=>eX n K s env σ ro Q bU oa h hK,fun e=>by cases e⟩
   |false=>exact⟨(fun e=>by cases e),fun _=>ep n K s env σ ro Q bU oa h hK⟩
  split at h
  ·rename_i t ht;obtain⟨B,F,pl,tb,hB,hG⟩:=hR;have:=XR ht (hG.evs Gds.nil c);simp only[vwp,this,E6];split at h
   ·rename_i A hA;obtain⟨p,I,hF,hI⟩:=h;have fin:∀ e s' ae σ',Q5x s.env.length A p I K e s'→GRel P B0 F0 D0 s' ae σ'→Q e ae σ':=fun e s' ae σ' h1 h2=>by
     cases e with
     |normal =>obtain⟨d,h3,h4⟩:=h1;exact hK _ _ _ _ (hI d h4) (UB h2 h3)
     |_=>exact hK _ _ _ _ h1 h2
    exact⟨fun e=>eX n _ s env σ ro Q bU ⟨B,F,pl,tb,hB,hG⟩ (hF.1 e) fin,fun e=>ep n _ s env σ ro Q bU ⟨B,F,pl,tb,hB,hG⟩ (hF.2 e) fin⟩
   exact⟨fun e=>eX n K s env σ ro Q bU ⟨B,F,pl,tb,hB,hG⟩ (h.1 e) hK,fun e=>ep n K s env σ ro Q bU ⟨B,F,pl,tb,hB,hG⟩ (h.2 e) hK⟩
  ·exact h.elim
 |block id b ih =>
  intro B0 F0 D0 n K s env σ ro Q bU hR h hK;refine ih id _ s env σ ro _ bU hR h fun e s' ae σ' h1 h2=>?_;cases e with
  |exit h_ =>
   simp only[Q2t] at h1;simp only[Av];split
   ·rename_i e;rw[if_pos e] at h1;exact hK _ _ _ _ h1 h2
   ·rename_i e;rw[if_neg e] at h1;exact hK _ _ _ _ h1 h2
  |_=>exact hK _ _ _ _ h1 h2
 |loop b ih =>
  intro B0 F0 D0 n K s env σ ro Q bU hR h hK;simp only[gwp] at h;split at h
  ·rename_i A hA;obtain⟨p,d0,h1,I,μ,h2,h3⟩:=h;have hlen:s.env.length=env.length:=by obtain⟨B,F,pl,tb,_,hG⟩:=hR;exact hG.env.length
   have hk:∀ d,(A.st p d).map (·.1)=A.sl:=fun d=>TI _ _;refine⟨A.sl,fun m vs σ'=>∃ d,I d∧μ d=m∧GRel P B0 F0 D0 (Zp s.env.length (A.st p d) (A.own p d)) (XA A.sl vs (List.replicate env.length poison)) σ',μ d0,⟨d0,h2,rfl,?_⟩,fun m vs σ' ⟨d,h4,h5,h6⟩=>?_⟩
   ·have:=P1 hR h1 s.env.length;rw[hk d0,hlen] at this;rw[hlen];exact this
   ·refine ih n _ _ _ σ' ro _ bU h6 (h3 d h4) fun e s' ae aJ h7 h8=>?_;cases e with
    |normal =>
     simp only[Q5r] at h7;cases nN:Z1e s'.own with
     |false=>rw[nN] at h7;exact h7.elim
     |true =>
     rw[nN] at h7;obtain⟨d',h9,bX,fP⟩:=h7;refine⟨μ d',by omega,d',bX,rfl,?_⟩;have:=P1 h8 h9 s.env.length;rw[hk d',hlen] at this;rw[hlen];exact this
    |_=>exact hK _ _ _ _ h7 h8
  ·exact h.elim
end
end Go.V
namespace Go.V
open Go
def AA (s:St):VResult→Option SV
 |.tmp t=>some (s.env.getD t .any)
 |.cell a agg size=>bif Nat.blt 0 size then Q31 s.own agg size (s.env.getD a .any) else none
def Uw (s:St) (rs:List VResult):Option SV :=
 match rs with
 |[r]=>AA s r
 |rs=>(rs.mapM (AA s)).map .tup
def Q4y (mp:List (Nat×Option Nat)) (j:Nat) (a:Option Nat):Option (List (Nat×Option Nat)) :=
 if (QE mp j).isSome then none else match a with
 |some x=>if mp.any fun p=>p.2==some x then none else some (mp++[(j,a)])
 |none=>some (mp++[(j,a)])
mutual
def Q2e:SV→SV→List (Nat×Option Nat)→Option (List (Nat×Option Nat))
 |.lst j,v,mp=>match v with|.lst a=>Q4y mp j (some a)|.nilS=>Q4y mp j none|_=>none
 |.map j,v,mp=>match v with|.map a=>Q4y mp j (some a)|_=>none
 |.dd j w,v,mp=>match w with
  |.out=>(match v with
   |.dd a w'=>(match w' with|.out=>Q4y mp j (some a)|_=>none)
   |.nilS=>Q4y mp j none
   |_=>none)
  |_=>none
 |.box j _,v,mp=>match v with|.box a _=>Q4y mp j (some a)|_=>none
 |.agg l,v,mp=>match v with|.agg l'=>IG l l' mp|_=>none
 |.tup l,v,mp=>match v with|.tup l'=>IG l l' mp|_=>none
 |.any,_,mp=>some mp
 |.val _ _,_,mp=>some mp
 |.nilS,_,mp=>some mp
 |.nilP,_,mp=>some mp
 |.nilM,_,mp=>some mp
 |.nilF,_,mp=>some mp
 |.sub _ _ _ _,_,_|.elp _ _ _ _,_,_|.grd _ _,_,_|.cp _ _,_,_|.fn _ _ _,_,_|.rop _ _ _ _,_,_|.pf _ _ _ _,_,_|.bid _ _,_,_=>none
def IG:List SV→List SV→List (Nat×Option Nat)→Option (List (Nat×Option Nat))
 |[],_,mp=>some mp
 |s::ss,l,mp=>match l with
  |v::vs=>match Q2e s v mp with|some mp=>IG ss vs mp|none=>none
  |[]=>none
end
def Q4o (s:St) (mp:List (Nat×Option Nat)):Nat→List OB→Prop
 |_,[]=>True
 |j,b::r=>Q29 s mp j b∧Q4o s mp (j+1) r
def WE (rs:List VResult) (v:SV) (bs:List OB):Exit→St→Prop:=fun e s =>
 let fin:=match Uw s rs with
  |some r=>(match Q2e v r [] with
   |some mp=>TC mp v r∧Q4o s mp 0 bs
   |none=>False)
  |none=>False
 match e with
 |.normal=>fin
 |.ret=>fin
 |_=>False
section
variable {P:Program}{B F:Heap}{pl:Nat→Value}{tb:Nat→Option Bool}{s:St}{env:Env}{σ:Heap}
theorem Tu (hG:Gam P B F pl tb s env σ) {r:VResult}{v:SV}(h:AA s r=some v):∃ u,JJ env σ r=some u∧SR P B pl tb v u:=by
 cases r with
 |tmp t=>obtain rfl:=osj h;exact⟨_,rfl,hG.env.getD t undef⟩
 |cell a agg size =>
  simp only[AA] at h;cases hb:Nat.blt 0 size with
  |false=>rw[hb] at h;cases h
  |true =>rw[hb] at h;obtain⟨i,o,c,e,wr,t,u,h1,h2,h3,h4⟩:=TW hG.leB hG.obj (by simpa [Nat.blt_eq] using hb) h (hG.env.getD a undef);refine⟨u,?_,h4⟩;simp only[JJ,Q8,Q4,h1,h2,h3];rfl
theorem Vw (hG:Gam P B F pl tb s env σ) {rs:List VResult}{v:SV}(h:Uw s rs=some v):∃ u,JT env σ rs=some u∧SR P B pl tb v u:=by
 have all:∀ (rs:List VResult) (l:List SV),rs.mapM (AA s)=some l→∃ us,rs.mapM (JJ env σ)=some us∧SRs P B pl tb l us:=by
  intro rs;induction rs with
  |nil=>intro l h;simp at h;subst h;exact⟨[],rfl,rfl⟩
  |cons r rs ih =>
   intro l h;rw[List.mapM_cons] at h;cases h1:AA s r with
   |none=>simp[h1] at h
   |some a =>
    cases h2:rs.mapM (AA s) with
    |none=>simp[h1,h2] at h
    |some l' =>simp[h1,h2] at h;subst h;obtain⟨u,h3,h4⟩:=Tu hG h1;obtain⟨us,h5,h6⟩:=ih l' h2;exact⟨u::us,by rw[List.mapM_cons];simp[h3,h5],by simp only[SRs];exact⟨u,us,rfl,h4,h6⟩⟩
 have tup:(rs.mapM (AA s)).map SV.tup=some v→∃ u,(rs.mapM (JJ env σ)).map (fun vs=>Value.tuple vs.toArray)=some u∧SR P B pl tb v u:=fun h=>by simp only[Option.map_eq_some_iff] at h;obtain⟨l,h1,rfl⟩:=h;obtain⟨us,h2,h3⟩:=all rs l h1;exact⟨.tuple us.toArray,by rw[h2];rfl,by simp only[SR];exact⟨us,rfl,h3⟩⟩
 match rs,h,tup with
 |[r],h,_=>exact Tu hG h
 |[],h,tup=>exact tup h
 |_::_::_,h,tup=>exact tup h
theorem G3 {mp b6:List (Nat×Option Nat)}{j:Nat}{a:Option Nat}(h:Q4y mp j a=some b6) (hi:Inj mp):Inj b6:=by
 unfold Q4y at h;split at h
 ·cases h
 ·split at h
  ·rename_i x;split at h
   ·cases h
   ·rename_i hc;obtain rfl:=osj h;have cU:∀ d,QE mp d≠some (some x):=fun d hd=>by
     obtain⟨p,h1,h2,h3⟩:=Au hd;exact hc (List.any_eq_true.2 ⟨p,h1,by rw[h3];simp⟩)
    intro t1 t2 a' h1 h2;rw[Vs] at h1 h2;split at h1
    ·rename_i y1 e1;split at h2
     ·rename_i y2 e2;obtain rfl:=osj h1;obtain rfl:=osj h2;exact hi t1 t2 a' e1 e2
     ·split at h2
      ·obtain rfl:=osj (osj h2);obtain rfl:=osj h1;exact absurd e1 (cU t1)
      ·cases h2
    ·split at h1
     ·obtain rfl:=osj (osj h1);split at h2
      ·rename_i y2 e2;obtain rfl:=osj h2;exact absurd e2 (cU t2)
      ·split at h2
       ·omega
       ·cases h2
     ·cases h1
  ·obtain rfl:=osj h;intro t1 t2 a' h1 h2;rw[Vs] at h1 h2;split at h1
   ·rename_i y1 e1;split at h2
    ·rename_i y2 e2;obtain rfl:=osj h1;obtain rfl:=osj h2;exact hi t1 t2 a' e1 e2
    ·split at h2<;>cases h2
   ·split at h1<;>cases h1
mutual
theorem Ip:∀ (v r:SV) (mp b6:List (Nat×Option Nat)),Q2e v r mp=some b6→Inj mp→Inj b6
 |.lst j,r,mp,b6,h,hi=>by
  simp only[Q2e] at h;split at h
  ·exact G3 h hi
  ·exact G3 h hi
  ·cases h
 |.map j,r,mp,b6,h,hi=>by
  simp only[Q2e] at h;split at h
  ·exact G3 h hi
  ·cases h
 |.dd j w,r,mp,b6,h,hi=>by
  simp only[Q2e] at h;split at h
  ·split at h
   ·split at h
    ·exact G3 h hi
    ·cases h
   ·exact G3 h hi
   ·cases h
  ·cases h
 |.box j _,r,mp,b6,h,hi=>by
  simp only[Q2e] at h;split at h
  ·exact G3 h hi
  ·cases h
 |.agg l,r,mp,b6,h,hi=>by
  simp only[Q2e] at h;split at h
  ·exact T3 l _ mp b6 h hi
  ·cases h
 |.tup l,r,mp,b6,h,hi=>by
  simp only[Q2e] at h;split at h
  ·exact T3 l _ mp b6 h hi
  ·cases h
 |.any,r,mp,b6,h,hi|.val _ _,r,mp,b6,h,hi|.nilS,r,mp,b6,h,hi|.nilP,r,mp,b6,h,hi|.nilM,r,mp,b6,h,hi|.nilF,r,mp,b6,h,hi=>by simp only[Q2e] at h;obtain rfl:=osj h;exact hi
 |.sub _ _ _ _,r,mp,b6,h,hi|.elp _ _ _ _,r,mp,b6,h,hi|.grd _ _,r,mp,b6,h,hi|.cp _ _,r,mp,b6,h,hi|.fn _ _ _,r,mp,b6,h,hi|.rop _ _ _ _,r,mp,b6,h,hi|.pf _ _ _ _,r,mp,b6,h,hi|.bid _ _,r,mp,b6,h,hi=>by cases h
theorem T3:∀ (v r:List SV) (mp b6:List (Nat×Option Nat)),IG v r mp=some b6→Inj mp→Inj b6
 |[],r,mp,b6,h,hi=>by simp only[IG] at h;obtain rfl:=osj h;exact hi
 |s::ss,[],mp,b6,h,hi=>by cases h
 |s::ss,r::rs,mp,b6,h,hi=>by
  simp only[IG] at h;split at h
  ·rename_i sV h1;exact T3 ss rs sV b6 h (Ip s r mp sV h1 hi)
  ·cases h
end
theorem Eb {mp:List (Nat×Option Nat)}:∀ (bs:List OB) (n:Nat),Q4o s mp n bs→∀ j b,bs[j]?=some b→Q29 s mp (n+j) b
 |[],n,_,j,b,hj=>by simp at hj
 |b0::r,n,h,j,b,hj=>by
  obtain⟨h1,h2⟩:=h;cases j with
  |zero=>simp at hj;subst hj;exact h1
  |succ j =>
   have:=Eb r (n+1) h2 j b (by simpa using hj)
   rwa [Nat.add_assoc,Nat.add_comm 1 j] at this
mutual
theorem I4 {n:Nat}{π:Nat→Nat}:∀ (v:SV) (u:Value),v.ret 0=true→SR P B pl tb v u→Ren n π u u
 |.val k x,u,h,hs=>by
  simp only[SR] at hs;cases k with
  |i ik=>simp only[KC] at hs;obtain rfl:=(List.cons.inj hs).1;exact .plain _ rfl
  |bo=>simp only[KC] at hs;obtain rfl:=(List.cons.inj hs).1;exact .plain _ rfl
  |st=>simp only[KC] at hs;obtain rfl:=(List.cons.inj hs).1;exact .plain _ rfl
  |list k=>cases h
  |pair a b =>have h1:=KC.length hs;have h2:=a.size_pos;have h3:=b.size_pos;simp only[Kind.size,List.length_singleton] at h1;omega
 |.nilS,u,_,hs|.nilP,u,_,hs|.nilM,u,_,hs|.nilF,u,_,hs=>by simp only[SR] at hs;subst hs;exact .plain _ rfl
 |.lst j,u,h,_|.box j _,u,h,_|.map j,u,h,_=>by simp[SV.ret,Nat.blt_eq] at h
 |.dd j w,u,h,_=>by cases w<;>simp[SV.ret,Nat.blt_eq] at h
 |.agg l,u,h,hs=>by simp only[SR] at hs;obtain⟨cs,rfl,h2⟩:=hs;have:=Tg (n:=n) (π:=π) l cs h h2;exact .agg _ _ rfl fun i h3 _=>this _ (by simp)
 |.tup l,u,h,hs=>by simp only[SR] at hs;obtain⟨cs,rfl,h2⟩:=hs;have:=Tg (n:=n) (π:=π) l cs h h2;exact .tuple _ _ rfl fun i h3 _=>this _ (by simp)
 |.any,_,h,_|.bid _ _,_,h,_|.grd _ _,_,h,_|.sub _ _ _ _,_,h,_|.elp _ _ _ _,_,h,_|.rop _ _ _ _,_,h,_|.cp _ _,_,h,_|.fn _ _ _,_,h,_|.pf _ _ _ _,_,h,_=>by cases h
theorem Tg {n:Nat}{π:Nat→Nat}:∀ (v:List SV) (u:List Value),SVs.ret 0 v=true→SRs P B pl tb v u→∀ x∈u,Ren n π x x
 |[],u,_,hs=>by simp only[SRs] at hs;subst hs;intro x hx;cases hx
 |s::ss,u,h,hs=>by
  simp only[SVs.ret,Bool.and_eq_true] at h;simp only[SRs] at hs;obtain⟨x,y,rfl,h1,h2⟩:=hs;intro z hz;rcases List.mem_cons.1 hz with rfl|hz
  ·exact I4 s z h.1 h1
  ·exact Tg ss y h.2 h2 z hz
end
theorem OC (exact:Bool) {σ0:Heap}{sf:St}{lY:Env}{σf:Heap}(hR:GRel P σ0 σ0 σ0 sf lY σf) {rs:List VResult}{v:SV}{bs:List OB}{e:Exit}(hv:v.ret bs.length=true) (hb:bs.all OB.ret=true) (h:WE rs v bs e sf) (hx:exact=true→bs.all OB.isL=true∧Vx v=true) :
  Z14 σ0 rs (fun u σ'=>if exact then u=VQ (SF σ0 bs) v∧σ'=Su σ0 bs else Ret P σ0 v bs u σ') e lY σf:=by
 have main:(match Uw sf rs with
  |some r=>(match Q2e v r [] with
   |some mp=>TC mp v r∧Q4o sf mp 0 bs
   |none=>False)
  |none=>False)→Zg (JT lY σf rs) fun u=>∃ v' σ',DropTo σ0 u σf v' σ'∧(if exact then v'=VQ (SF σ0 bs) v∧σ'=Su σ0 bs else Ret P σ0 v bs v' σ'):=fun h=>by
  split at h
  ·rename_i r hr;split at h
   ·rename_i mp lS;obtain⟨h1,h2⟩:=h;obtain⟨B,F,pl,tb,⟨hB,hF,_,hd⟩,hG⟩:=hR;obtain⟨u,h3,h4⟩:=Vw hG hr;have jr:=U3 v r u h1 h4;have eU:=Ip v r [] mp lS (fun t t' a h=>by cases h);have ao:∀ j b,bs[j]?=some b→Q29 sf mp j b:=fun j b hj=>by have:=Eb bs 0 h2 j b hj;rwa [Nat.zero_add] at this
    rw[h3];have hle:σ0.Le σf:=hF.trans hG.le;have hA:Agree σ0 σf:=fun i hi=>by
     cases hg:σ0.get i with
     |none=>exact hd.2 i hi hg
     |some b=>exact hle.2 i b hg
    have aX:∀ j b,bs[j]?=some b→OR P hNil (M3 pl mp) JY σf (M3 pl mp j) b∧∀ i,Oid (M3 pl mp j) i→σ0.get i=none∧σ0.n≤i:=fun j b hj=>by
     obtain⟨k1,k2⟩:=Zb hG (ao j b hj);have dG:=List.all_eq_true.1 hb b (List.mem_of_getElem? hj);have av:b.live=true:=by cases b<;>first|rfl|cases dG
     refine⟨k1.retd dG fun _ _=>rfl,fun i hi=>?_⟩;obtain⟨a,e1,e2,e3⟩:=k2 av i hi;have mE:=hG.fresh a i e2 e3;have hn:σ0.get i=none:=by
      cases hg:σ0.get i with
      |none=>rfl
      |some b=>rw[hF.2 i b hg] at mE;cases mE
     refine⟨hn,Nat.le_of_not_lt fun ah=>?_⟩;have bD:=hd.2 i ah hn;have ao:=hG.obj a;cases ho:Qc sf.own a with
     |dead=>rw[ho] at e2;cases e2
     |lst ty k xs nl =>
      rw[ho] at ao;rcases ao with⟨_,_,h2⟩|⟨_,i',cap,c,t,h2,_,h3,_⟩
      ·rw[h2] at e3;cases e3
      ·rw[h2] at e3;obtain rfl:=osj e3;rw[h3] at bD;cases bD
     |cells l u=>rw[ho] at ao;obtain⟨i',c,e,t,h2,h3,_⟩:=ao;rw[h2] at e3;obtain rfl:=osj e3;rw[h3] at bD;cases bD
     |mapE kk vk m key n=>rw[ho] at ao;obtain⟨i',es,cl,r,e,h2,h3,_⟩:=ao;rw[h2] at e3;obtain rfl:=osj e3;rw[h3] at bD;cases bD
     |map kk vk m=>rw[ho] at ao;obtain⟨i',es,cl,h2,h3,_⟩:=ao;rw[h2] at e3;obtain rfl:=osj e3;rw[h3] at bD;cases bD
     |stk l vals=>rw[ho] at e2;cases e2
     |lpf l q s=>rw[ho] at ao e2;obtain⟨h2,_,h3⟩:=ao;rw[h2] at e3;obtain rfl:=osj e3;have h3:=h3 e2;rw[bD] at h3;cases h3
     |iter kk vk m dn=>rw[ho] at ao;obtain⟨j',i',es,cl,wr,seen,h2,h3,_⟩:=ao;rw[h2] at e3;obtain rfl:=osj e3;rw[h3] at bD;cases bD
     |deep ty q k xs nl hh =>rw[ho] at ao;obtain⟨is,_,d2,d3,_⟩:=DP.open ao;obtain⟨c,e,t,h⟩:=d2.cells i ((d3 i).1 e3);rw[h] at bD;cases bD
    have fC:∀ j j' i,j<bs.length→j'<bs.length→j≠j'→Oid (M3 pl mp j) i→Oid (M3 pl mp j') i→False:=fun j j' i hj dx aA hi cI=>by
     have bC:=List.getElem?_eq_getElem hj;have cf:=List.getElem?_eq_getElem dx;have r1:=List.all_eq_true.1 hb _ (List.getElem_mem hj);have r2:=List.all_eq_true.1 hb _ (List.getElem_mem dx);have l1:(bs[j]).live=true:=by cases pg:bs[j]<;>first|rfl|(rw[pg] at r1;cases r1)
     have l2:(bs[j']).live=true:=by cases pg:bs[j']<;>first|rfl|(rw[pg] at r2;cases r2)
     obtain⟨a,e1,e2,e3⟩:=(Zb hG (ao j _ bC)).2 l1 i hi;obtain⟨a',u_,mw,vd⟩:=(Zb hG (ao j' _ cf)).2 l2 i cI;by_cases e:a=a'
     ·subst e;exact aA (eU j j' a e1 u_)
     ·exact hG.sep a a' i e e2 mw e3 vd
    cases hex:exact with
    |true =>obtain⟨hl,cJ⟩:=hx hex;have iP:=IQ (P:=P) hA hle.1 hv cJ hb hl (pl:=M3 pl mp) (u:=u) (fun j b hj=>⟨(aX j b hj).1,fun i hi=>((aX j b hj).2 i (Hd hi)).2⟩) (fun j j' i a b c d e=>fC j j' i a b c (Hd d) (Hd e)) (jr.retd (fun j hj=>rfl) _ _ hv);exact⟨_,_,iP,by simp⟩
    |false =>
     simp only[Bool.false_eq_true,if_false];by_cases cq:bs=[]
     ·subst cq;refine⟨u,σ0,.rename (fun i=>i) (Nat.le_refl _) (fun i hi=>⟨rfl,(hA i hi).symm,.inl (hA i hi)⟩) (fun i k1 k2=>by omega) (fun _ _ _ _ _ _ h=>h) (I4 v u hv jr),?_⟩;exact⟨⟨Heap.Le.refl _,Dead.refl _⟩,fun _=>rfl,XX,(fun j b hj=>by simp at hj),(fun j j' i hj=>by simp at hj),jr.retd (fun j hj=>by simp at hj) _ _ hv⟩
     ·exact⟨u,σf,.refl _ _ _,⟨hle,hd⟩,fun e=>absurd e cq,M3 pl mp,aX,fC,jr.retd (fun j hj=>rfl) _ _ hv⟩
   ·exact h.elim
  ·exact h.elim
 cases e with
 |normal=>exact main h
 |ret=>exact main h
 |_=>exact h.elim
def Qp (nt:Nat) (args:List SV):St:=⟨args++List.replicate (nt-args.length) .any,[],0⟩
theorem IJ {args:List SV}{vs:List Value}(h:SRs P σ XX JY args vs) (nt:Nat):GRel P σ σ σ (Qp nt args) (vs++List.replicate (nt-vs.length) undef) σ:=by
 have ve:∀ n,SRs P σ XX JY (List.replicate n .any) (List.replicate n undef):=by
  intro n;induction n with
  |zero=>simp[SRs]
  |succ n ih=>simp only[List.replicate_succ,SRs];exact⟨_,_,rfl,by simp[SR],ih⟩
 refine⟨σ,σ,XX,JY,⟨Heap.Le.refl _,Heap.Le.refl _,(fun i b h1 h2=>by rw[h2] at h1;cases h1),Dead.refl _⟩,Heap.Le.refl _,Heap.Le.refl _,?_,fun d=>trivial,(fun d i hl=>by cases hl),(fun d d' i _ hl=>by cases hl),fun _ _=>rfl⟩;have:=h.length;simp only[Qp,this];exact h.append (ve _)
theorem Fun.okC {f:Nat}{vc:VCode}{rs:List VResult}{nt:Nat}(h:Fun P f vc rs nt) (hm:P.follows .mixedOrders=true) {sp:CSp}
  (hb:∀ ap,Q58 P ap→∀ args c v bs,sp ap args=some (c,v,bs)→c→∃ (C:Cx) (L:List (Nat×LoopAnn)) (cB:List SV),(∀ σ vs,SRs P σ XX JY args vs→SRs P σ XX JY cB vs)∧COk P C∧gwp C L vc 0 (WE rs v bs) (Qp nt cB)):OkC P f sp:=by
 intro ap eZ σ args vs c v bs aC gH hv cq hc;obtain⟨C,L,cB,h1,h2,h3⟩:=hb ap eZ args c v bs gH hc;have main:∀ exact:Bool,(exact=true→bs.all OB.isL=true∧Vx v=true)→VCalled P f vs σ fun u σ'=>if exact then u=VQ (SF σ bs) v∧σ'=Su σ bs else Ret P σ v bs u σ':=fun exact hx=>by refine h.calls hm S3 ?_;exact Bl h2 vc 0 _ _ _ σ none _ trivial (IJ (h1 σ vs aC) nt) h3 fun e s' ae σ' k1 k2=>OC exact k2 hv cq k1 hx
 refine⟨(main false fun e=>by cases e).mono fun u σ' hr=>by simpa using hr,fun hl cJ=>(main true fun _=>⟨hl,cJ⟩).mono fun u σ' hr=>by simpa using hr⟩
theorem OkC.true {f:Nat}{sp:CSp}(h:OkC P f sp) (he:XC P f) {σ:Heap}{args:List SV}{vs:List Value}(ha:SRs P σ XX JY args vs) {c:Prop}(hs:sp (fun _ _=>none) args=some (c,.val .bo true,[])) (hc:c) :
  VCallsTo P f vs σ fun v _=>v=.bool true:=by
 have:=(h (fun _ _=>none) (fun _ _ _ _ _ _ _ _ _ h=>by cases h) σ args vs c _ [] ha hs rfl rfl hc).1;intro ρ w aw hH hL;rcases this ρ w aw hH hL with⟨_,h2⟩|⟨c',_,h2⟩
 ·refine h2.mono fun e w' ⟨c',h3,h4⟩=>⟨c',h3,h4.mono fun u σ' hr=>?_⟩;have:=(hr.flat rfl).2;simpa only [SR,KC,List.cons.injEq,and_true] using this
 ·have:=h2 w (Like.refl ρ w);rw[Mr he aw w] at this;cases this
end
end Go.V
namespace Go.V
open Go
mutual
inductive AP:Type→Type 1 where
 |k (k:Kind):AP k.T
 |agg {D:Type}(l:AL D):AP D
 |ptr {D:Type}(l:AL D):AP D
 |fn (ks:List Kind) (r:Kind):AP ((AT ks→Prop)×(AT ks→r.T))
 |nilS:AP Unit
 |any:AP Unit
inductive AL:Type→Type 1 where
 |nil:AL Unit
 |one {D:Type}(a:AP D):AL D
 |cons {D E:Type}(a:AP D) (r:AL E):AL (D×E)
end
def Ly:(ks:List Kind)→AT ks→List SV
 |[],_=>[]
 |[k],x=>[EK k x]
 |k::k'::ks,x=>EK k x.1::Ly (k'::ks) x.2
abbrev Ap:=SV→List SV→Option (Prop×SV)
def Q4l (ap:Ap) (f:SV) (ks:List Kind) (r:Kind) (x:AT ks):Prop:=match ap f (Ly ks x) with
 |some (c,v)=>(match gap.asV r v with|some _=>c|none=>False)
 |none=>False
def fnP (ap:Ap) (f:SV) (ks:List Kind) (r:Kind) (x:AT ks):r.T:=match ap f (Ly ks x) with
 |some (_,v)=>(match gap.asV r v with|some y=>y|none=>r.dflt)
 |none=>r.dflt
mutual
def AP.dec (ap:Ap):{D:Type}→(p:AP D)→SV→Option D
 |_,.k k,v=>match k with
  |.list k=>view [] k v
  |.i ik=>S_ (.i ik) [v]
  |.bo=>S_ .bo [v]
  |.st=>S_ .st [v]
  |.pair _ _=>none
 |_,.agg l,v=>match v with|.agg vs=>AL.dec ap l vs|_=>none
 |_,.nilS,v=>match v with|.nilS=>some ()|_=>none
 |_,.any,_=>some ()
 |_,.ptr l,v=>match v with|.cp vs 0=>AL.dec ap l vs|_=>none
 |_,.fn ks r,v=>match v with
  |.fn g a b=>some (Q4l ap (.fn g a b) ks r,fnP ap (.fn g a b) ks r)
  |.pf sW r' cX p=>some (Q4l ap (.pf sW r' cX p) ks r,fnP ap (.pf sW r' cX p) ks r)
  |_=>none
def AL.dec (ap:Ap):{D:Type}→(l:AL D)→List SV→Option D
 |_,.nil,vs=>match vs with|[]=>some ()|_=>none
 |_,.one a,vs=>match vs with|[v]=>AP.dec ap a v|_=>none
 |_,.cons a r,vs=>match vs with
  |v::vs=>(match AP.dec ap a v,AL.dec ap r vs with|some x,some y=>some (x,y)|_,_=>none)
  |[]=>none
end
mutual
def AP.can:{D:Type}→(p:AP D)→D→SV
 |_,.k k,x=>.val k x
 |_,.agg l,x=>.agg (AL.can l x)
 |_,.nilS,_=>.nilS
 |_,.any,_=>.any
 |_,.ptr l,x=>.cp (AL.can l x) 0
 |_,.fn ks r,x=>.pf ks r x.1 x.2
def AL.can:{D:Type}→(l:AL D)→D→List SV
 |_,.nil,_=>[]
 |_,.one a,x=>[AP.can a x]
 |_,.cons a r,x=>AP.can a x.1::AL.can r x.2
end
def W8 {D:Type}(l:AL D) (pre:D→Prop) (res:D→SV) (obs:D→List OB):CSp:=fun ap args=>match AL.dec ap l args with
 |some d=>some (pre d,res d,obs d)
 |none=>none
section
variable {P:Program}{σ:Heap}
theorem D3:∀ {ks:List Kind}{x:AT ks}{vs:List Value},SN σ ks x vs→SRs P σ XX JY (Ly ks x) vs
 |[],x,vs,h=>by simp only[SN] at h;subst h;simp[Ly,SRs]
 |[k],x,vs,h=>by obtain⟨v,rfl,h1⟩:=h;simp only[Ly,SRs];exact⟨v,[],rfl,JO h1,rfl⟩
 |k::k'::ks,x,vs,h=>by obtain⟨v,c_,rfl,h1,h2⟩:=h;simp only[Ly,SRs];exact⟨v,c_,rfl,JO h1,D3 h2⟩
theorem Iq {ap:Ap}(eZ:Q58 P ap) {f:SV}{v:Value}(hf:SR P σ XX JY f v) (hv:∃ g a b,v=.func (.func g) a b) (ks:List Kind) (r:Kind):SR P σ XX JY (.pf ks r (Q4l ap f ks r) (fnP ap f ks r)) v:=by
 obtain⟨g,a,b,rfl⟩:=hv;simp only[SR];refine⟨g,a,b,rfl,fun x hd τ vs hle cH=>?_⟩;unfold Q4l at hd;split at hd
 ·rename_i c u oy;split at hd
  ·rename_i y hy;obtain⟨h1,g',a',b',h2,h3⟩:=eZ τ f (Ly ks x) c u (.func (.func g) a b) vs (SR.mono hle (fun _ _ h=>h) _ _ hf) (D3 cH) oy hd;obtain⟨rfl,rfl,rfl⟩:=(by simpa using h2:g=g'∧a=a'∧b=b');have hp:fnP ap f ks r x=y:=by simp[fnP,oy,hy]
   rw[hp];exact h3.mono fun u' σ' hu=>⟨hu.1,(Tx hy hu.2).vcall (F_ _)⟩
  ·exact hd.elim
 ·exact hd.elim
mutual
theorem AP.dec_sound {ap:Ap}(eZ:Q58 P ap):∀ {D:Type}(p:AP D) {v:SV}{x:D}{u:Value},AP.dec ap p v=some x→SR P σ XX JY v u→SR P σ XX JY (AP.can p x) u
 |_,.k k,v,x,u,h,hs=>by
  have one:SRs P σ XX JY [v] [u]:=by simp only[SRs];exact⟨u,[],rfl,hs,rfl⟩
  simp only[AP.can,SR];cases k with
  |list k =>have:=WZ (own:=[]) (Heap.Le.refl σ) (fun d=>(trivial:OR P σ XX JY σ (XX d) .dead)) (show view [] k v=some x from h) hs;exact⟨u,rfl,this⟩
  |i ik=>exact QS (k:=.i ik) h one
  |bo=>exact QS (k:=.bo) h one
  |st=>exact QS (k:=.st) h one
  |pair a b=>cases h
 |_,.agg l,v,x,u,h,hs=>by
  simp only[AP.dec] at h;split at h
  ·simp only[SR] at hs;obtain⟨cs,rfl,hs⟩:=hs;simp only[AP.can,SR];exact⟨cs,rfl,AL.dec_sound eZ l h hs⟩
  ·cases h
 |_,.any,v,x,u,h,hs=>by simp only[AP.can,SR]
 |_,.nilS,v,x,u,h,hs=>by
  simp only[AP.dec] at h;split at h
  ·simp only[AP.can];exact hs
  ·cases h
 |_,.ptr l,v,x,u,h,hs=>by
  simp only[AP.dec] at h;split at h
  ·simp only[SR] at hs;obtain⟨b,c,e,wr,t,h1,rfl,h3⟩:=hs;simp only[AP.can,SR];exact⟨b,c,e,wr,t,h1,rfl,AL.dec_sound eZ l h h3⟩
  ·cases h
 |_,.fn ks r,v,x,u,h,hs=>by
  simp only[AP.dec] at h;split at h
  ·obtain rfl:=osj h;exact Iq eZ hs (by simp only[SR] at hs;obtain⟨x,y,rfl,_⟩:=hs;exact⟨_,_,_,rfl⟩) ks r
  ·obtain rfl:=osj h;exact Iq eZ hs (by simp only[SR] at hs;obtain⟨g,x,y,rfl,_⟩:=hs;exact⟨_,_,_,rfl⟩) ks r
  ·cases h
theorem AL.dec_sound {ap:Ap}(eZ:Q58 P ap):∀ {D:Type}(l:AL D) {vs:List SV}{x:D}{us:List Value},AL.dec ap l vs=some x→SRs P σ XX JY vs us→SRs P σ XX JY (AL.can l x) us
 |_,.nil,vs,x,us,h,hs=>by
  simp only[AL.dec] at h;split at h
  ·exact hs
  ·cases h
 |_,.one a,vs,x,us,h,hs=>by
  simp only[AL.dec] at h;split at h
  ·obtain⟨u,rfl,h1⟩:=hs.one;simp only[AL.can,SRs];exact⟨u,[],rfl,AP.dec_sound eZ a h h1,rfl⟩
  ·cases h
 |_,.cons a r,vs,x,us,h,hs=>by
  simp only[AL.dec] at h;split at h
  ·rename_i v c_;split at h
   ·rename_i y z h1 h2;obtain rfl:=osj h;simp only[SRs] at hs;obtain⟨u,mv,rfl,h3,h4⟩:=hs;simp only[AL.can,SRs];exact⟨u,mv,rfl,AP.dec_sound eZ a h1 h3,AL.dec_sound eZ r h2 h4⟩
   ·cases h
  ·cases h
end
theorem CsOk.nil:CsOk P []:=fun f sp h=>by cases h
theorem CsOk.cons {f:Nat}{sp:CSp}{cs:List (Nat×CSp)}(h:OkC P f sp) (t:CsOk P cs):CsOk P ((f,sp)::cs):=fun g vf hg=>by
 simp only[QE] at hg;cases hb:Nat.beq f g with
 |true=>rw[hb] at hg;obtain rfl:=Nat.eq_of_beq_eq_true hb;obtain rfl:=osj hg;exact h
 |false=>rw[hb] at hg;exact t g vf hg
theorem Z0f {f:Nat}{vc:VCode}{rs:List VResult}{nt:Nat}(h:Fun P f vc rs nt) (hm:P.follows .mixedOrders=true) {D:Type}{l:AL D}{pre:D→Prop}{res:D→SV}{obs:D→List OB}
  {C:Cx}(aB:COk P C) (L:D→List (Nat×LoopAnn)) (hb:∀ d,pre d→gwp C (L d) vc 0 (WE rs (res d) (obs d)) (Qp nt (AL.can l d))):OkC P f (W8 l pre res obs):=by
 refine h.okC hm fun ap eZ args c v bs hs hc=>?_;unfold W8 at hs;split at hs
 ·rename_i d hd;obtain⟨rfl,rfl,rfl⟩:=(by simpa using hs:pre d=c∧res d=v∧obs d=bs);exact⟨C,L d,AL.can l d,fun σ vs hv=>AL.dec_sound eZ l hd hv,aB,hb d hc⟩
 ·cases hs
theorem Qz {f:Nat}{vc:VCode}{rs:List VResult}{nt:Nat}(h:Fun P f vc rs nt) (hm:P.follows .mixedOrders=true) {D:Type}{l:AL D}{pre:D→Prop}{res:D→SV}{obs:D→List OB}
  {C:Cx}(aB:COk P C) {L:D→List (Nat×LoopAnn)}{V:D→Prop}(hq:∀ d,gwp C (L d) vc 0 (WE rs (res d) (obs d)) (Qp nt (AL.can l d))=V d) (hb:∀ d,pre d→V d):OkC P f (W8 l pre res obs) :=
 Z0f h hm aB L fun d hp=>(hq d).mpr (hb d hp)
end
end Go.V
namespace Go.V
open Go
def Z2d (key:Nat) (vals:List Value) (rs:List VResult) (K:SV→St→Prop):Exit→St→Prop:=fun e s =>
 let fin:=match Uw s rs,Qc s.own key with
  |some r,.stk l vs=>vs=vals∧K r ⟨l,s.own,s.nx⟩
  |_,_=>False
 match e with
 |.normal=>fin
 |.ret=>fin
 |_=>False
def Q75:XSp:=fun _ args s K=>match args with
 |[v]=>K v s
 |_=>False
def Q21 (C:Cx) (L:List Value→List (Nat×LoopAnn)) (vc:VCode) (rs:List VResult) (nt:Nat):XSp:=fun d args s K =>
 ∀ vals,gwp {C with off:=100000*(d+1)} (L vals) vc 0 (Z2d (100000*(d+1)-1) vals rs K) ⟨SVs.kill (100000*(d+1)-1) args++List.replicate (nt-args.length) .any,(EF (100000*(d+1)-1) vals s).own,s.nx⟩
def Z35 (C:Cx) (L:List (Nat×LoopAnn)) (vc:VCode) (nt:Nat):Q7a:=fun o args y s K =>
 gwp {C with off:=100000*(o+1),yl:=[y]} L vc 0 (fun e s'=>match e with|.normal=>K s'|.ret=>K s'|_=>False) ⟨args++List.replicate (nt-args.length) .any,s.own,s.nx⟩
section
variable {P:Program}
theorem C4 {B:Heap}{pl:Nat→Value}{tb:Nat→Option Bool}:∀ n,SRs P B pl tb (List.replicate n .any) (List.replicate n undef)
 |0=>by simp[SRs]
 |n+1=>by simp only[List.replicate_succ,SRs];exact⟨_,_,rfl,by simp[SR],C4 n⟩
theorem Is {f:Nat}(h:∀ (v:Value) (σ:Heap) (K:Value→Heap→Prop),K v σ→VCalled P f [v] σ K):XOk P f Q75:=by
 intro B F pl tb s env σ d args vs K R hG ha hx hK
 match args,ha,hx with
 |[v],ha,hx =>simp only[SRs] at ha;obtain⟨u,_,rfl,h1,rfl⟩:=ha;exact h u σ R (hK v s B F pl tb u σ hx (.of hG.bf (.refl _)) hG h1)
 |[],_,hx=>exact hx.elim
 |_::_::_,_,hx=>exact hx.elim
theorem VI {f:Nat}{vc:VCode}{rs:List VResult}{nt:Nat}(h:Fun P f vc rs nt) (hm:P.follows .mixedOrders=true) {C:Cx}(aB:COk P C) (L:List Value→List (Nat×LoopAnn)):XOk P f (Q21 C L vc rs nt):=by
 intro B F pl tb s env σ d args vs K R hG ha hx hK;have hx:=hx env;refine h.calls hm S3 ?_;have q3:Gam P B F (X5 pl (100000*(d+1)-1) poison) tb (EF (100000*(d+1)-1) env s) env σ:=by refine hG.make _ _ poison hG.le (fun _ _ _ _ _=>rfl) ?_ (fun i hl _=>by cases hl);exact SRs.upd (.refl _) (fun _ _ h=>h) (fun j hj=>by simp[X5,hj]) _ _ hG.env
 have lZ:COk P {C with off:=100000*(d+1)}:=⟨aB.cs,aB.xs,aB.it,aB.yl,aB.iy,aB.xf⟩;have aC:=SRs.upd (P:=P) (Heap.Le.refl B) (fun _ _ h=>h) (pl':=X5 pl (100000*(d+1)-1) poison) (tb':=tb) (o:=100000*(d+1)-1) (fun j hj=>by simp[X5,hj]) _ _ ha;have a_:GRel P B F σ ⟨SVs.kill (100000*(d+1)-1) args++List.replicate (nt-args.length) .any,(EF (100000*(d+1)-1) env s).own,s.nx⟩ (vs++List.replicate (nt-vs.length) undef) σ:=by refine⟨B,F,_,tb,.of hG.bf (.refl _),⟨q3.bf,q3.le,?_,q3.obj,q3.fresh,q3.sep,q3.free⟩⟩;rw[ha.length];exact aC.append (C4 _)
 refine Bl lZ vc 0 _ _ _ σ none _ trivial a_ hx fun e s' ae σ' h1 h2=>?_
 ·have main:(match Uw s' rs,Qc s'.own (100000*(d+1)-1) with
   |some r,.stk l vs=>vs=env∧K r ⟨l,s'.own,s'.nx⟩
   |_,_=>False)→Zg (JT ae σ' rs) fun v=>∃ v' aJ,DropTo σ v σ' v' aJ∧R v' aJ:=fun h=>by
   obtain⟨B',F',pl',tb',k1,k2⟩:=h2;split at h
   ·rename_i r l c_ hr iO;obtain⟨rfl,h⟩:=h;obtain⟨u,h3,h4⟩:=Vw k2 hr;rw[h3];have ao:=k2.obj (100000*(d+1)-1);rw[iO] at ao;exact⟨u,σ',.refl _ _ _,hK r _ B' F' pl' tb' u σ' h k1 ⟨k2.bf,k2.le,ao,k2.obj,k2.fresh,k2.sep,k2.free⟩ h4⟩
   ·exact h.elim
  cases e with
  |normal=>exact main h1
  |ret=>exact main h1
  |_=>exact h1.elim
theorem Q74 {f:Nat}{vc:VCode}{nt:Nat}(h:Fun P f vc [] nt) (hm:P.follows .mixedOrders=true) {C:Cx}(aB:COk P C) (L:List (Nat×LoopAnn)):Q7j P f (Z35 C L vc nt):=by
 refine⟨h.enterable,fun B F pl tb s env σ o args vs y K R hG ha hy hx hK=>h.callsTo hm S3 ?_⟩;have lZ:COk P {C with off:=100000*(o+1),yl:=[(o,y)]}:=⟨aB.cs,aB.xs,aB.it,fun o' y' h'=>by
  simp only[QE] at h';cases hb:Nat.beq o o' with
  |true=>rw[hb] at h';obtain rfl:=Nat.eq_of_beq_eq_true hb;obtain rfl:=osj h';exact hy
  |false=>rw[hb] at h';exact(by cases h'),aB.iy,aB.xf⟩
 have a_:GRel P B F σ ⟨args++List.replicate (nt-args.length) .any,s.own,s.nx⟩ (vs++List.replicate (nt-vs.length) undef) σ:=by refine⟨B,F,pl,tb,.of hG.bf (Dead.refl _),⟨hG.bf,hG.le,?_,hG.obj,hG.fresh,hG.sep,hG.free⟩⟩;rw[ha.length];exact ha.append (C4 _)
 refine Bl lZ vc 0 _ _ _ σ none _ trivial a_ hx fun e s' ae σ' h1 h2=>?_;have main:K s'→Zg (JT ae σ' []) fun v=>∃ v' aJ,DropTo σ v σ' v' aJ∧R aJ:=fun h=>by obtain⟨B',F',pl',tb',k1,k2⟩:=h2;exact⟨_,σ',.refl _ _ _,hK s' B' F' pl' tb' ae σ' h k1 k2⟩
 cases e with
 |normal=>exact main h1
 |ret=>exact main h1
 |_=>exact h1.elim
end
end Go.V
namespace Go.V
open Go
def Z1x:SV→Option Nat
 |.lst o=>some o
 |.box o off=>bif Nat.beq off 0 then some o else none
 |_=>none
def lsv:OB→SV
 |.lst _ _ _ _=>.lst 0
 |_=>.box 0 0
def Z19:SV→OB→Bool
 |.lst _,.lst _ _ _ _=>true
 |.box _ _,.cells _ _=>true
 |_,_=>false
abbrev LSp:=Ap→OB→List SV→Option (Prop×SV×OB)
def Fq (ap:Ap) (sp:LSp):XSp:=fun _ args s K =>
 match args with
 |a::args=>(match Z1x a with
  |some o=>bif (Qc s.own o).ret&&Z19 a (Qc s.own o) then (match sp ap (Qc s.own o) (Sw (oset s.own o .dead) args) with
    |some (c,v,b)=>bif v.ret 0&&b.ret then c∧K v ⟨s.env,oset s.own o b,s.nx⟩ else False
    |none=>False) else False
  |none=>False)
 |[]=>False
def N1 (nt:Nat) (a0:SV) (b:OB) (vals:List Value) (args:List SV):St:=⟨a0::(args++List.replicate (nt-(args.length+1)) .any),[(0,b),(4000000,.stk [a0] vals)],0⟩
def OZ (vals:List Value) (rs:List VResult) (v:SV) (b:OB) (a0:SV):Exit→St→Prop:=fun e s =>
 let fin:=match Uw s rs,Qc s.own 4000000 with
  |some r,.stk l vs=>vs=vals∧Gb [(0,some 0)] [a0] l∧TC [] v r∧Q29 s [(0,some 0)] 0 b
  |_,_=>False
 match e with
 |.normal=>fin
 |.ret=>fin
 |_=>False
section
variable {P:Program}
theorem Heap.Le.kill' {B σ:Heap}(h:B.Le σ) {i:Nat}(hi:B.get i=none):B.Le (σ.kill i):=⟨h.1,fun j b hb=>by
 have:j≠i:=by rintro rfl;rw[hi] at hb;cases hb
 rw[Heap.get_kill_ne _ this];exact h.2 _ _ hb⟩
theorem Heap.kill_le (σ:Heap) (i:Nat):(σ.kill i).Le σ:=⟨Nat.le_refl _,fun j b hb=>by
 by_cases e:j=i
 ·subst e;rw[Heap.get_kill_self] at hb;cases hb
 ·rwa [Heap.get_kill_ne _ e] at hb⟩
def CD (σ:Heap) (p:Value):Heap:=match oid p with|some i=>σ.kill i|none=>σ
theorem Q4p (σ:Heap) (p:Value):(CD σ p).Le σ:=by
 unfold CD;split
 ·exact Heap.kill_le _ _
 ·exact .refl _
theorem FT {B σ:Heap}{p:Value}(h:B.Le σ) (hi:∀ i,oid p=some i→B.get i=none):B.Le (CD σ p):=by
 unfold CD;split
 ·rename_i i e;exact h.kill' (hi i e)
 ·exact h
theorem Oh {σ:Heap}{p:Value}{i:Nat}(h:oid p=some i):(CD σ p).get i=none:=by unfold CD;rw[h];exact Heap.get_kill_self _ _
theorem A6 {σ:Heap}{p:Value}{i:Nat}(h:oid p≠some i):(CD σ p).get i=σ.get i:=by
 unfold CD;split
 ·rename_i j e;exact Heap.get_kill_ne _ (by rintro rfl;exact h e)
 ·rfl
theorem Q66 {p:Value}{i:Nat}(hp:∀ l,p≠.tuple l) (h:Oid p i):oid p=some i:=by cases p<;>first|exact h|exact absurd rfl (hp _)
theorem OB.ret_live {b:OB}(h:b.ret=true):b.live=true:=by cases b<;>first|rfl|cases h
theorem Q3y {o:Nat}{b:OB}(h:Z19 (.lst o) b=true):lsv b=.lst 0:=by cases b<;>first|rfl|cases h
theorem Q3j {o off:Nat}{b:OB}(h:Z19 (.box o off) b=true):lsv b=.box 0 0:=by cases b<;>first|rfl|cases h
theorem Q4u {f:Nat}{vc:VCode}{rs:List VResult}{nt:Nat}(h:Fun P f vc rs nt) (hm:P.follows .mixedOrders=true) {sp:LSp}{ap:Ap}
  (hb:∀ b args c v b',sp ap b args=some (c,v,b')→c→∃ (C:Cx) (L:List Value→List (Nat×LoopAnn)) (cB:List SV),SVs.pure cB=true∧(∀ σ vs,SRs P σ XX JY args vs→SRs P σ XX JY cB vs)∧COk P C∧∀ vals,gwp C (L vals) vc 0 (OZ vals rs v b' (lsv b)) (N1 nt (lsv b) b vals cB)):XOk P f (Fq ap sp):=by
 intro B F pl tb s env σ d args vs K R hG ha hx hK;unfold Fq at hx;split at hx
 ·rename_i a args;split at hx
  ·rename_i o aU;cases lL:((Qc s.own o).ret&&Z19 a (Qc s.own o)) with
   |false=>rw[lL] at hx;exact hx.elim
   |true =>
   rw[lL] at hx;simp only[_root_.cond_true] at hx;simp only[Bool.and_eq_true] at lL;obtain⟨mC,ft⟩:=lL;split at hx
   ·rename_i c v b' gH;cases dC:(v.ret 0&&b'.ret) with
    |false=>rw[dC] at hx;exact hx.elim
    |true =>
    rw[dC] at hx;obtain⟨hc,hx⟩:=hx;simp only[Bool.and_eq_true] at dC;simp only[SRs] at ha;obtain⟨u,us,rfl,kM,eD⟩:=ha;have av:=OB.ret_live mC;have ao:=hG.obj o;have bk:∀ i,oid (pl o)=some i→F.get i=none:=fun i hi=>hG.fresh o i av (Hd hi);have ru:∀ i,oid (pl o)=some i→B.get i=none:=fun i hi=>by
     cases hg:B.get i with
     |none=>rfl
     |some b=>have:=hG.bf.2 _ _ hg;rw[bk i hi] at this;cases this
    have dL:∀ l,pl o≠.tuple l:=fun l he=>by
     unfold Z1x at aU;split at aU
     ·obtain rfl:=osj aU;simp only[SR] at kM;obtain⟨rfl,_,_,_,hs⟩:=kM;rw[he] at hs;cases hs
     ·rename_i o' off;cases bq:Nat.beq off 0 with
      |false=>rw[bq] at aU;cases aU
      |true =>rw[bq] at aU;obtain rfl:=osj aU;simp only[SR] at kM;obtain⟨_,h,_⟩:=kM;rw[he] at h;cases h
     ·cases aU
    have l4:∀ (B:Heap) (pl':Nat→Value) (tb':Nat→Option Bool),(SR P B pl' tb' (lsv (Qc s.own o)) u↔pl' 0=pl o):=fun B pl' tb'=>by
     unfold Z1x at aU;split at aU
     ·obtain rfl:=osj aU;simp only[SR] at kM;rw[Q3y ft];simp only[SR];obtain⟨rfl,hs⟩:=kM;exact⟨fun h=>h.1.symm,fun h=>⟨h.symm,hs⟩⟩
     ·rename_i o' off;cases bq:Nat.beq off 0 with
      |false=>rw[bq] at aU;cases aU
      |true =>
       rw[bq] at aU;obtain rfl:=osj aU;obtain rfl:=Nat.eq_of_beq_eq_true bq;simp only[SR] at kM;rw[Q3j ft];simp only[SR];obtain⟨i,h1,rfl⟩:=kM;rw[h1];constructor
       ·rintro⟨i',h2,h3⟩;rw[h2];simpa using h3.symm
       ·intro h2;exact⟨i,h2,rfl⟩
     ·cases aU
    obtain⟨C,L,cB,oz,rv,aB,hg⟩:=hb _ _ c v b' gH hc;have hg:=hg [u];let σc:=CD σ (pl o);have vg:B.Le σc:=FT hG.leB ru;have vh:F.Le σc:=FT hG.le bk;have aC:SRs P σc XX JY cB us:=by
     refine rv σc us (Ub (own:=oset s.own o .dead) vg (pl:=pl) (tb:=tb) (fun d=>?_) eD);rw[Qs];by_cases e:d=o
     ·rw[if_pos e];trivial
     ·rw[if_neg e];exact(hG.obj d).mono (.refl _) (fun _ _ h=>h) fun hl i hi=>A6 fun nk=>hG.sep d o i e hl av hi (Hd nk)
    let ry:Nat→Value:=fun j=>if j=0 then pl o else poison
    have a_:GRel P σc σc σ (N1 nt (lsv (Qc s.own o)) (Qc s.own o) [u] cB) (u::us++List.replicate (nt-(u::us).length) undef) σ:=by
     refine⟨σc,σc,ry,JY,⟨.refl _,.refl _,fun _ _ _ h=>h,.refl _⟩,.refl _,Q4p _ _,?_,fun j=>?_,fun j i h1 h2=>?_,fun j j' i aA h1 h2 h3 h4=>?_,fun _ _=>rfl⟩
     ·simp only[N1,SRs,List.cons_append];refine⟨u,_,rfl,(l4 _ _ _).2 (by simp[ry]),?_⟩;rw[aC.length,List.length_cons];refine SRs.append ?_ (C4 _);exact Jc _ _ oz aC
     ·simp only[N1,Qc];by_cases e0:j=0
      ·subst e0;simp only[Nat.beq_refl,_root_.cond_true];exact ao.retd mC fun i _=>rfl
      ·rw[JL (fun e=>e0 e.symm),cond_false];by_cases e1:j=4000000
       ·subst e1;simp only[Nat.beq_refl,_root_.cond_true];exact⟨u,[],rfl,(l4 _ _ _).2 (by simp[ry]),rfl⟩
       ·rw[JL (fun e=>e1 e.symm),cond_false];trivial
     ·simp only[N1,Qc] at h1;by_cases e0:j=0
      ·subst e0;exact Oh (Q66 dL h2)
      ·rw[JL (fun e=>e0 e.symm),cond_false] at h1;by_cases e1:j=4000000
       ·subst e1;cases h1
       ·rw[JL (fun e=>e1 e.symm),cond_false] at h1;cases h1
     ·have z:∀ j,(Qc (N1 nt (lsv (Qc s.own o)) (Qc s.own o) [u] cB).own j).live=true→j=0:=fun j h1=>by
       simp only[N1,Qc] at h1;by_cases e0:j=0
       ·exact e0
       ·rw[JL (fun e=>e0 e.symm),cond_false] at h1;by_cases e1:j=4000000
        ·subst e1;cases h1
        ·rw[JL (fun e=>e1 e.symm),cond_false] at h1;cases h1
      exact aA ((z j h1).trans (z j' h2).symm)
    refine h.calls hm S3 ?_;refine Bl aB vc 0 _ _ _ σ none _ trivial a_ hg fun e s' ae σ' h1 h2=>?_
    have main:(match Uw s' rs,Qc s'.own 4000000 with
     |some r,.stk l vs=>vs=[u]∧Gb [(0,some 0)] [lsv (Qc s.own o)] l∧TC [] v r∧Q29 s' [(0,some 0)] 0 b'
     |_,_=>False)→Zg (JT ae σ' rs) fun v=>∃ v' aJ,DropTo σ v σ' v' aJ∧R v' aJ:=fun h=>by
     obtain⟨B',F',pl',tb',k1,k2⟩:=h2;split at h
     ·rename_i r l c_ hr iO;obtain⟨rfl,m1,m2,m3⟩:=h;obtain⟨w,h3,h4⟩:=Vw k2 hr;rw[h3];have kN:=k2.obj 4000000;rw[iO] at kN;have rz:pl' 0=pl o:=by
       have:=ZF [lsv (Qc s.own o)] l [u] m1 kN;simp only[SRs] at this;obtain⟨u',_,cD,h5,_⟩:=this;obtain rfl:u=u':=(List.cons.inj cD).1;have:=(l4 _ _ _).1 h5;simpa [M3,QE] using this
      have oA:=(Zb k2 m3).1;have lS:M3 pl' [(0,some 0)] 0=pl o:=by simpa [M3,QE] using rz
      rw[lS] at oA;have ew:=(U3 v r w m2 h4).retd (B':=B) (pl':=pl) (tb':=tb) (n:=0) (fun j hj=>by omega) _ _ dC.1;have hle:σc.Le σ':=k1.f.trans k2.le;refine⟨w,σ',.refl _ _ _,hK v _ B F pl tb w σ' hx (.of hG.bf k1.d) ⟨hG.bf,vh.trans hle,hG.env,fun d=>?_,fun d i q1 q2=>?_,fun d d' i aA q1 q2 q3 q4=>?_,hG.free⟩ ew⟩
      ·simp only[Qs];by_cases e:d=o
       ·subst e;rw[if_pos rfl];exact oA.retd dC.2 fun _ _=>rfl
       ·rw[if_neg e];refine (hG.obj d).mono (.refl _) (fun _ _ h=>h) fun hl i hi=>?_;have ah:=(hG.obj d).id_lt hl hi;cases hg:σ.get i with
        |none=>exact k1.d.2 i ah hg
        |some bb=>exact hle.2 _ _ (by rw[A6 fun nk=>hG.sep d o i e hl av hi (Hd nk)];exact hg)
      ·simp only[Qs] at q1;by_cases e:d=o
       ·subst e;exact hG.fresh d i av q2
       ·rw[if_neg e] at q1;exact hG.fresh d i q1 q2
      ·have lv:∀ d,(Qc (oset s.own o b') d).live=true→(Qc s.own d).live=true:=fun d h=>by
        rw[Qs] at h;by_cases e:d=o
        ·subst e;exact av
        ·rwa [if_neg e] at h
       exact hG.sep d d' i aA (lv d q1) (lv d' q2) q3 q4
     ·exact h.elim
    cases e with
    |normal=>exact main h1
    |ret=>exact main h1
    |_=>exact h1.elim
   ·exact hx.elim
  ·exact hx.elim
 ·exact hx.elim
mutual
theorem AP.can_pure:∀ {D:Type}(p:AP D) (x:D),(AP.can p x).pure=true
 |_,.k k,x=>rfl
 |_,.agg l,x=>by simp only[AP.can,SV.pure];exact AL.can_pure l x
 |_,.nilS,x=>rfl
 |_,.any,x=>rfl
 |_,.ptr l,x=>by simp only[AP.can,SV.pure];exact AL.can_pure l x
 |_,.fn ks r,x=>rfl
theorem AL.can_pure:∀ {D:Type}(l:AL D) (x:D),SVs.pure (AL.can l x)=true
 |_,.nil,x=>rfl
 |_,.one a,x=>by simp only[AL.can,SVs.pure,AP.can_pure a x];rfl
 |_,.cons a r,x=>by simp only[AL.can,SVs.pure,AP.can_pure a x.1,AL.can_pure r x.2];rfl
end
def OE (ty:Nat) (k:Kind) {D:Type}(l:AL D) (pre:List k.T→Bool→D→Prop) (res:List k.T→Bool→D→SV) (post:List k.T→Bool→D→List k.T):LSp:=fun ap b args=>match b with
 |.lst jq _k' xs nl=>if jq=ty then (match UM xs k,AL.dec ap l args with
  |some xs,some d=>some (pre xs nl d,res xs nl d,.lst ty k (post xs nl d) nl)
  |_,_=>none) else none
 |_=>none
theorem Py {f:Nat}{vc:VCode}{rs:List VResult}{nt:Nat}(h:Fun P f vc rs nt) (hm:P.follows .mixedOrders=true) {ap:Ap}(eZ:Q58 P ap) {ty:Nat}{k:Kind}{D:Type}{l:AL D}{pre:List k.T→Bool→D→Prop}{res:List k.T→Bool→D→SV}{post:List k.T→Bool→D→List k.T}
  {C:Cx}(aB:COk P C) {L:List k.T→Bool→D→List Value→List (Nat×LoopAnn)}{V:List k.T→Bool→D→Prop}
  (hq:∀ xs nl d,(∀ vals,gwp C (L xs nl d vals) vc 0 (OZ vals rs (res xs nl d) (.lst ty k (post xs nl d) nl) (.lst 0)) (N1 nt (.lst 0) (.lst ty k xs nl) vals (AL.can l d)))=V xs nl d)
  (hb:∀ xs nl d,pre xs nl d→V xs nl d):XOk P f (Fq ap (OE ty k l pre res post)):=by
 refine Q4u h hm fun b args c v b' hs hc=>?_;unfold OE at hs;split at hs
 ·rename_i jq k' xs nl;split at hs
  ·rename_i e;subst e;split at hs
   ·rename_i ys d h1 h2;obtain⟨rfl,rfl,rfl⟩:=(by simpa using hs:pre ys nl d=c∧res ys nl d=v∧OB.lst jq k (post ys nl d) nl=b');unfold UM at h1;split at h1
    ·rename_i e;subst e;obtain rfl:=osj h1;exact⟨C,L xs nl d,AL.can l d,AL.can_pure l d,fun σ vs hv=>AL.dec_sound eZ l h2 hv,aB,(hq xs nl d).mpr (hb xs nl d hc)⟩
    ·cases h1
   ·cases hs
  ·cases hs
 ·cases hs
end
end Go.V
namespace Go.V
open Go
abbrev lI {α:Type}(l:List α):Int:=(l.length:Int)
abbrev gD {α:Type}(l:List α) (i:Int) (d:α):α:=l.getD i.toNat d
abbrev sT {α:Type}(l:List α) (i:Int) (x:α):List α:=l.set i.toNat x
abbrev I64 (x:Int):Prop:=InK .i64 x
theorem QM (x:Int):InK .i64 x↔-9223372036854775808≤x∧x≤9223372036854775807:=by simp[InK,IntKind.min,IntKind.max,IntKind.bits,IntKind.signed]
theorem Q0u (x:Int):InK .u8 x↔0≤x∧x≤255:=by simp[InK,IntKind.min,IntKind.max,IntKind.bits,IntKind.signed]
theorem Q63 (x:Int):InK .u16 x↔0≤x∧x≤65535:=by simp[InK,IntKind.min,IntKind.max,IntKind.bits,IntKind.signed]
theorem TT (x:Int):InK .u64 x↔0≤x∧x≤18446744073709551615:=by simp[InK,IntKind.min,IntKind.max,IntKind.bits,IntKind.signed]
theorem LoopP.count {F:Int→(Int→Prop)→Prop}(n:Nat) (J:Nat→Prop) (h0:J 0) (hr:∀ k:Nat,k≤n→J k→∀ q:Int→Prop,(k<n→J (k+1)→q ((k:Int)+1))→F k q):LoopP F 0:=by refine⟨fun d=>∃ k:Nat,d=k∧k≤n∧J k,fun d=>n-d.toNat,⟨0,rfl,Nat.zero_le _,h0⟩,fun d ⟨k,hd,hk,hJ⟩=>?_⟩;subst hd;refine hr k hk hJ _ fun ah oB=>⟨⟨k+1,by simp,ah,oB⟩,?_⟩;simp;omega
theorem LoopP.count2 {X:Type}{F:X×Int→(X×Int→Prop)→Prop}(n:Nat) (J:Nat→X→Prop) {x0:X}(h0:J 0 x0) (hr:∀ (k:Nat) (x:X),k≤n→J k x→∀ q:X×Int→Prop,(∀ x',k<n→J (k+1) x'→q (x',(k:Int)+1))→F (x,(k:Int)) q):LoopP F (x0,0):=by refine⟨fun d=>∃ k:Nat,d.2=k∧k≤n∧J k d.1,fun d=>n-d.2.toNat,⟨0,rfl,Nat.zero_le _,h0⟩,fun ⟨x,d⟩ ⟨k,hd,hk,hJ⟩=>?_⟩;simp only at hd hJ;subst hd;refine hr k x hk hJ _ fun x' ah oB=>⟨⟨k+1,by simp,ah,oB⟩,?_⟩;simp;omega
theorem Qa {α:Type}{l:List α}{k:Nat}{d:α}(h:k<l.length):l.getD k d=l[k]:=by simp[List.getD_eq_getElem?_getD,List.getElem?_eq_getElem h]
theorem Qu {α:Type}{l:List α}{k:Nat}(h:k<l.length):l.take (k+1)=l.take k++[l[k]]:=by rw[List.take_succ_eq_append_getElem h]
end Go.V
namespace Go.V
open Go
def Q5i (agg:Bool) (sz:Nat):VCode :=
 .seq (.region [
  ⟨(some 4),.load false 1 (.tmp 1),none⟩,
  ⟨(some 5),.len (.tmp 4),none⟩,
  ⟨(some 6),.arith .sub (.tmp 5) (.const (.int .i64 (1))),none⟩,
  ⟨(some 3),.move (.tmp 6),none⟩])
 (.block 0 (.loop (.seq (.seq (.region [
    ⟨(some 7),.move (.tmp 3),none⟩,
    ⟨(some 8),.cmp .geq (.tmp 7) (.const (.int .i64 (0))),none⟩])
   (.cond (.tmp 8) (.skip)
    (.exit 0)))
   (.seq (.block 1 (.seq (.region [
     ⟨(some 11),.move (.tmp 0),none⟩,
     ⟨(some 12),.move (.tmp 3),none⟩,
     ⟨(some 13),.load false 1 (.tmp 1),none⟩,
     ⟨(some 14),.move (.tmp 3),none⟩,
     ⟨(some 15),.indexAddr sz (.tmp 13) (.tmp 14),none⟩,
     ⟨(some 16),.load agg sz (.tmp 15),none⟩,
     ⟨(some 17),.callV (.tmp 11) [.tmp 12,.tmp 16],none⟩,
     ⟨(some 18),.un .not (.tmp 17),none⟩])
    (.cond (.tmp 18) (.ret)
     (.skip))))
   (.region [
    ⟨(some 9),.move (.tmp 3),none⟩,
    ⟨(some 10),.arith .sub (.tmp 9) (.const (.int .i64 (1))),none⟩,
    ⟨(some 3),.move (.tmp 10),none⟩])))))
def Z1l (k:Kind):ISp:=fun args=>match args with
 |[.cp l 0]=>(match l with
  |[.val (.list _k') l]=>(match UM l k with
   |some l=>some (l.length<4611686018427387904,l.length,2,fun j=>[.val (.i .i64) ((l.length:Int)-1-j),EK k (l.getD (l.length-1-j) k.dflt)])
   |none=>none)
  |_=>none)
 |_=>none
section
variable {P:Program}
theorem Q03:∀ (k:Kind) (x:k.T),(EK k x).pure=true
 |.i _,_|.bo,_|.st,_|.list _,_=>rfl
 |.pair a b,x=>by
  have app:∀ l m:List SV,SVs.pure l=true→SVs.pure m=true→SVs.pure (l++m)=true:=by
   intro l m hl hm;induction l with
   |nil=>exact hm
   |cons s l ih =>simp only[SVs.pure,Bool.and_eq_true,List.cons_append] at hl ⊢;exact⟨hl.1,ih hl.2⟩
  have cells:∀ (k:Kind) (x:k.T),SVs.pure (U_ k x)=true:=by
   intro k;induction k with
   |pair a b eX ep=>intro x;exact app _ _ (eX x.1) (ep x.2)
   |_=>intro x;rfl
  simp only[EK,SV.pure];exact cells (.pair a b) x
theorem st1 {S:VSpecs}{d:Nat}{op:VOp}{rest:List VOper}{env:Env}{σ:Heap}{K:Env→Heap→Prop}{v:Value}(hv:∀ K',vop S op env σ K'=Zg (Q8 op (Q4 env) σ) fun p=>K' p.1 p.2) (h:Q8 op (Q4 env) σ=some (v,σ)) (hr:BX S rest (env.set d v) σ K):BX S (⟨some d,op,none⟩::rest) env σ K:=by show Zg (some true) _;refine⟨fun _=>?_,fun e=>by cases e⟩;rw[hv,h];exact hr
theorem Q6b {B τ:Heap}(hle:B.Le τ) {k:Kind}{l:List k.T}{x:Value}(hs:SlRel B k.size (fun x c=>KC B k x c) l x) {n:Nat}(hn:n<l.length) :
  ∃ i o cap c e wr t w,x=.slice (some ⟨i,o,none⟩) l.length cap∧τ.get i=some (.cells c e wr t)∧Xy (!k.one) k.size c (o+n*k.size)=some w∧KV B k l[n] w:=by
 rcases hs with⟨rfl,_⟩|⟨i,o,cap,c,e,wr,t,h1,h2,h3,h4,h5,h6⟩
 ·simp at hn
 ·have hmul:n*k.size+k.size≤l.length*k.size:=by
   have:=Nat.mul_le_mul_right k.size (show n+1≤l.length from hn)
   rwa [Nat.add_mul,Nat.one_mul] at this
  have ff:=h6.at (n:=k.size) (fun x c hx=>KC.length hx) hn;have e1:(((c.drop o).take (l.length*k.size)).drop (n*k.size)).take k.size=(c.drop (o+n*k.size)).take k.size:=by rw[List.drop_take,List.drop_drop,List.take_take,Nat.min_eq_left (by omega)]
  rw[e1] at ff;have hlen:=KC.length ff;cases bz:k.one with
  |true =>
   have aE:=Kind.one_size bz;rw[aE] at ff hlen hmul h5 ⊢;have ah:o+n*1<c.length:=by omega
   refine⟨i,o,cap,c,e,wr,t,c[o+n*1],h1,hle.2 _ _ h3,?_,.inl ⟨bz,?_⟩⟩
   ·simp[Xy]
   ·have:(c.drop (o+n*1)).take 1=[c[o+n*1]]:=by
     rw[List.drop_eq_getElem_cons ah];rfl
    rw[this] at ff;exact ff
  |false =>refine⟨i,o,cap,c,e,wr,t,_,h1,hle.2 _ _ h3,?_,.inr ⟨bz,_,rfl,ff⟩⟩;simp only[Xy,Bool.not_false,if_true];rw[if_pos (by omega)]
theorem VYields.mono {i:Nat}{args:List Value}{σ:Heap}{R R':Value→Heap→Prop}(h:VYields P i args σ R) (hr:∀ v σ',R v σ'→R' v σ'):VYields P i args σ R':=by intro ρ w aw hH hL;obtain⟨p,h1,fn,tmps,eI,body,h2,h3⟩:=h ρ w aw hH hL;exact⟨p,h1,fn,tmps,eI,body,h2,h3.mono fun e w' ⟨c,he,hg⟩=>⟨c,he,hg.mono hr⟩⟩
set_option maxHeartbeats 4000000 in
theorem Q3g {B τ:Heap}{k:Kind}{l1:List k.T}{x:Value}{i b j:Nat}{Y:TA}{J:Nat→Heap→Prop}{E:Heap→Prop}(hY:Kx P i Y)
  (pI:∀ (env:Env) (j:Nat),Q4 env (.tmp j)=.pointer (some ⟨b,0,none⟩)→Q8 (.load false 1 (.tmp j)) (Q4 env) τ=some (x,τ)) (gM:SlRel B k.size (fun x c=>KC B k x c) l1 x) (jR:B.Le τ) (jM:j≤l1.length) (hc:l1.length<4611686018427387904)
  (dV:j<l1.length→∀ us,SRs P B XX JY [.val (.i .i64) ((l1.length:Int)-1-j),EK k (l1[l1.length-1-j]?.getD k.dflt)] us→Y us τ fun v τ'=>(v=.bool true∧J (j+1) τ')∨(v=.bool false∧E τ'))
  {Q:Exit→Env→Heap→Prop}(vi:J l1.length τ→∀ env,Q .normal env τ) (vj:∀ τ,E τ→∀ env,Q .ret env τ) (hJ:J j τ) {n:Nat}(ec:n=l1.length-j) (len:Nat) (hlen:len=19) :
  vwp (Q3 P) (.seq (.seq (.region [
    ⟨(some 7),.move (.tmp 3),none⟩,
    ⟨(some 8),.cmp .geq (.tmp 7) (.const (.int .i64 (0))),none⟩])
   (.cond (.tmp 8) (.skip)
    (.exit 0)))
   (.seq (.block 1 (.seq (.region [
     ⟨(some 11),.move (.tmp 0),none⟩,
     ⟨(some 12),.move (.tmp 3),none⟩,
     ⟨(some 13),.load false 1 (.tmp 1),none⟩,
     ⟨(some 14),.move (.tmp 3),none⟩,
     ⟨(some 15),.indexAddr k.size (.tmp 13) (.tmp 14),none⟩,
     ⟨(some 16),.load (!k.one) k.size (.tmp 15),none⟩,
     ⟨(some 17),.callV (.tmp 11) [.tmp 12,.tmp 16],none⟩,
     ⟨(some 18),.un .not (.tmp 17),none⟩])
    (.cond (.tmp 18) (.ret)
     (.skip))))
   (.region [
    ⟨(some 9),.move (.tmp 3),none⟩,
    ⟨(some 10),.arith .sub (.tmp 9) (.const (.int .i64 (1))),none⟩,
    ⟨(some 3),.move (.tmp 10),none⟩]))) none (fun e ae aJ=>match e with
   |.normal=>∃ n',n'<n∧∃ j,j≤l1.length∧n'=l1.length-j∧B5 [0,1,3] ae=[.func (.yield i) #[] #[],.pointer (some ⟨b,0,none⟩),.int .i64 ((l1.length:Int)-1-j)]∧J j aJ
   |e=>Av 0 Q e ae aJ) (XA [0,1,3] [.func (.yield i) #[] #[],.pointer (some ⟨b,0,none⟩),.int .i64 ((l1.length:Int)-1-j)] (List.replicate len poison)) τ:=by
 subst hlen;show BX _ _ [.func (.yield i) #[] #[],.pointer (some ⟨b,0,none⟩),poison,.int .i64 ((l1.length:Int)-1-j),poison,poison,poison,poison,poison,poison,poison,poison,poison,poison,poison,poison,poison,poison,poison] _ _;refine st1 (fun _=>rfl) rfl ?_;refine st1 (v:=.bool (decide ((0:Int)≤(l1.length:Int)-1-j))) (fun _=>rfl) rfl ?_;show E6 (.bool _) _ _;refine⟨fun bg=>?_,fun ah=>?_⟩
 ·have bg:(0:Int)≤(l1.length:Int)-1-j:=by simpa using bg
  have jh:l1.length-1-j<l1.length:=by omega
  obtain⟨i',o',au,c',e',j_,t',w,q1,q2,q3,q4⟩:=Q6b jR gM jh;show BX _ _ _ _ _;refine st1 (fun _=>rfl) rfl ?_;refine st1 (fun _=>rfl) rfl ?_;refine st1 (fun _=>rfl) (pI _ _ rfl) ?_;refine st1 (fun _=>rfl) rfl ?_;refine st1 (v:=.pointer (some ⟨i',o'+(l1.length-1-j)*k.size,none⟩)) (fun _=>rfl) ?_ ?_
  ·rw[q1];show (if 0≤(l1.length:Int)-1-j∧(l1.length:Int)-1-j<l1.length then some (Value.pointer (some ⟨i',o'+((l1.length:Int)-1-j).toNat*k.size,none⟩),τ) else none)=_;rw[if_pos ⟨bg,by omega⟩];have:((l1.length:Int)-1-j).toNat=l1.length-1-j:=by omega
   rw[this]
  refine st1 (v:=w) (fun _=>rfl) ?_ ?_
  ·show (match τ.get i' with|some (.cells c _ _ _)=>(match Xy (!k.one) k.size c (o'+(l1.length-1-j)*k.size) with|some v=>some (v,τ)|none=>none)|_=>none)=_;rw[q2];simp only[q3]
  show Zg (some true) _;refine⟨fun _=>?_,fun e=>by cases e⟩;show VYields P i [.int .i64 ((l1.length:Int)-1-j),w] τ _;refine VYields.mono (hY _ _ _ (dV (by omega) [.int .i64 ((l1.length:Int)-1-j),w] ?_)) ?_
  ·simp only[SRs];refine⟨_,_,rfl,rfl,w,[],rfl,?_,rfl⟩;rw[List.getElem?_eq_getElem jh];exact JO q4
  ·rintro v τ' (⟨rfl,oB⟩|⟨rfl,hE⟩)
   ·show BX _ _ _ _ _;refine st1 (v:=.bool false) (fun _=>rfl) rfl ?_;show E6 (.bool false) _ _;refine⟨(fun e=>by cases e),fun _=>?_⟩;show BX _ _ _ _ _;refine st1 (fun _=>rfl) rfl ?_;refine st1 (v:=.int .i64 ((l1.length:Int)-1-(j+1:Nat))) (fun _=>rfl) ?_ ?_
    ·show (if IntKind.i64=IntKind.i64 then some (Value.int .i64 (IntKind.i64.wrap ((l1.length:Int)-1-j-1)),τ') else none)=_;rw[if_pos rfl,A8 (by omega)];simp only[Option.some.injEq,Prod.mk.injEq,Value.int.injEq,true_and,and_true];omega
    refine st1 (fun _=>rfl) rfl ?_;exact⟨l1.length-(j+1),by omega,j+1,by omega,rfl,rfl,oB⟩
   ·show BX _ _ _ _ _;refine st1 (v:=.bool true) (fun _=>rfl) rfl ?_;show E6 (.bool true) _ _;refine⟨fun _=>?_,fun e=>by cases e⟩;exact vj _ hE _
 ·have ah:¬ (0:Int)≤(l1.length:Int)-1-j:=by simpa using ah
  have hj:j=l1.length:=by omega
  subst hj;exact vi hJ _
theorem Z1u {f:Nat}{k:Kind}(h:Fun P f (Q5i (!k.one) k.size) [] 19) (hm:P.follows .mixedOrders=true):Q7f P f (Z1l k):=by
 refine⟨h.enterable,fun B args vs c m ar xs hs gA hc=>?_⟩;unfold Z1l at gA;split at gA
 ·rename_i l0;split at gA
  ·rename_i k' l1;split at gA
   ·rename_i l hl;unfold UM at hl;split at hl
    ·rename_i e;subst e;obtain rfl:=osj hl;obtain⟨rfl,rfl,rfl,rfl⟩:=(by simpa using gA:(l1.length<4611686018427387904)=c∧l1.length=m∧2=ar∧_=xs);refine⟨fun j=>⟨rfl,by simp only[SVs.pure,SV.pure,Q03];rfl⟩,fun i Y J E τ0 hY hle dV h0=>?_⟩;simp only[SRs,SR] at hs;obtain⟨cap,_,rfl,⟨b,cc,e,wr,t,hb,rfl,x,_,rfl,⟨y,hy,gM⟩,rfl⟩,rfl⟩:=hs;obtain rfl:x=y:=by simpa using hy
     have cell:∀ τ,B.Le τ→τ.get b=some (.cells [x] e wr t):=fun τ hτ=>hτ.2 _ _ hb;obtain⟨xa,vl,bh⟩:=SlRel.len gM;have fH:∀ (env:Env) (σ:Heap) (j:Nat),Q4 env (.tmp j)=x→Q8 (.len (.tmp j)) (Q4 env) σ=some (.int .i64 l1.length,σ):=fun env σ j hj=>by simp only[Q8,hj,bh]
     refine h.callsTo hm S3 ?_;have pI:∀ (env:Env) (σ:Heap) (j:Nat),B.Le σ→Q4 env (.tmp j)=.pointer (some ⟨b,0,none⟩)→Q8 (.load false 1 (.tmp j)) (Q4 env) σ=some (x,σ):=fun env σ j hσ hj=>by simp only[Q8,hj,cell σ hσ,Xy];rfl
     have rB:=hle 0 τ0 h0;show BX _ _ _ _ _;refine st1 (fun _=>rfl) (pI _ _ _ rB rfl) ?_;refine st1 (fun _=>rfl) (fH _ _ _ rfl) ?_;refine st1 (v:=.int .i64 ((l1.length:Int)-1)) (fun _=>rfl) ?_ ?_
     ·show (if IntKind.i64=IntKind.i64 then some (Value.int .i64 (IntKind.i64.wrap ((l1.length:Int)-1)),τ0) else none)=_;rw[if_pos rfl,A8 (by omega)]
     refine st1 (v:=.int .i64 ((l1.length:Int)-1)) (fun _=>rfl) rfl ?_;show Z0d _ _ _ _;refine⟨[0,1,3],fun n vs τ=>∃ j,j≤l1.length∧n=l1.length-j∧vs=[.func (.yield i) #[] #[],.pointer (some ⟨b,0,none⟩),.int .i64 ((l1.length:Int)-1-j)]∧J j τ,l1.length,⟨0,Nat.zero_le _,rfl,?_,h0⟩,fun n vs τ ⟨j,jM,ec,vn,hJ⟩=>?_⟩
     ·simp[B5]
     ·subst vn;have jR:=hle j τ hJ;refine Q3g (J:=J) (E:=E) hY (fun env jj h=>pI _ _ _ jR h) gM jR jM hc (fun ah us eD=>dV j us τ ah hJ eD) ?_ ?_ hJ ec _ rfl
      ·exact fun hJ env=>⟨_,_,.refl _ _ _,.inl hJ⟩
      ·exact fun τ hE env=>⟨_,_,.refl _ _ _,.inr hE⟩
    ·cases hl
   ·cases gA
  ·cases gA
 ·cases gA
theorem YlOk.nil:∀ o y,QE ([]:List (Nat×YSp)) o=some y→Q43 P o y:=fun o y h=>by cases h
theorem IysOk.nil:∀ f x,QE ([]:List (Nat×Q7a)) f=some x→Q7j P f x:=fun f x h=>by cases h
theorem IysOk.cons {f:Nat}{x:Q7a}{l:List (Nat×Q7a)}(h:Q7j P f x) (t:∀ g y,QE l g=some y→Q7j P g y):∀ g y,QE ((f,x)::l) g=some y→Q7j P g y:=fun g y hg=>by
 simp only[QE] at hg;cases hb:Nat.beq f g with
 |true=>rw[hb] at hg;obtain rfl:=Nat.eq_of_beq_eq_true hb;obtain rfl:=osj hg;exact h
 |false=>rw[hb] at hg;exact t g y hg
theorem XsOk.nil:∀ f x,QE ([]:List (Nat×XSp)) f=some x→XOk P f x:=fun f x h=>by cases h
theorem XsOk.cons {f:Nat}{x:XSp}{l:List (Nat×XSp)}(h:XOk P f x) (t:∀ g y,QE l g=some y→XOk P g y):∀ g y,QE ((f,x)::l) g=some y→XOk P g y:=fun g y hg=>by
 simp only[QE] at hg;cases hb:Nat.beq f g with
 |true=>rw[hb] at hg;obtain rfl:=Nat.eq_of_beq_eq_true hb;obtain rfl:=osj hg;exact h
 |false=>rw[hb] at hg;exact t g y hg
theorem ItsOk.nil:∀ f x,QE ([]:List (Nat×ISp)) f=some x→Q7f P f x:=fun f x h=>by cases h
theorem ItsOk.cons {f:Nat}{x:ISp}{l:List (Nat×ISp)}(h:Q7f P f x) (t:∀ g y,QE l g=some y→Q7f P g y):∀ g y,QE ((f,x)::l) g=some y→Q7f P g y:=fun g y hg=>by
 simp only[QE] at hg;cases hb:Nat.beq f g with
 |true=>rw[hb] at hg;obtain rfl:=Nat.eq_of_beq_eq_true hb;obtain rfl:=osj hg;exact h
 |false=>rw[hb] at hg;exact t g y hg
def Q5a:Ap:=fun _ _=>none
theorem Q26:Q58 P Q5a:=fun _ _ _ _ _ _ _ _ _ h=>by cases h
end
end Go.V
namespace Go.Proofs.Tryz
open Go Go.V Go.Proofs
theorem Q5z:Fun Tryz.prog 52 (Q5i false 1) [] 19:=⟨Tryz.f52,Tryz.func52,by kernel_rfl,by kernel_rfl,rfl,rfl⟩
end Go.Proofs.Tryz
namespace Go.V
open Go
section
variable {P:Program}
theorem XfOk.nil {xs:List (Nat×XSp)}:∀ f j,QE ([]:List (Nat×Nat)) f=some j→∀ x,QE xs f=some x→Z3r P f x j:=fun f j h=>by cases h
end
end Go.V
namespace Go.V
open Go
def callV (ap:Ap) (sp:CSp):XSp:=fun d args s K =>
 let s1:=(⟨s.env++args,s.own,s.nx⟩:St).frzs (H2 args);let a1:=s1.env.drop s.env.length
 bif SVs.pure a1 then (match sp ap a1 with
  |some (c,v,bs)=>bif v.ret bs.length&&bs.all OB.isL then c∧K (v.ren d 500000) ((⟨s1.env.take s.env.length,s1.own,s1.nx⟩:St).makes d 500000 0 bs) else False
  |none=>False) else False
end Go.V
namespace Go.V
open Go
theorem IX {x:Nat}(h:x<9223372036854775808):IntKind.wrap .i64 (x:Int)=x:=by
 have e:((x:Int) % (18446744073709551616:Int))=x:=by omega
 have:¬ ((x:Int)≥9223372036854775808):=by omega
 show (if (true&&decide ((x:Int) % (18446744073709551616:Int)≥9223372036854775808))=true then (x:Int) % (18446744073709551616:Int)-18446744073709551616 else (x:Int) % (18446744073709551616:Int))=x;simp only[e,this,decide_false,Bool.and_false,Bool.false_eq_true,if_false]
theorem Q4g {x y:Nat}(h:x<9223372036854775808):x &&& y<9223372036854775808:=Nat.lt_of_le_of_lt Nat.and_le_left h
theorem A4 (x:Nat):BitVec.ofInt 64 (x:Int)=BitVec.ofNat 64 x:=by apply BitVec.eq_of_toNat_eq;simp
theorem Td {x:Nat}(h:x<9223372036854775808):(BitVec.ofInt 64 (x:Int)).toNat=x:=by rw[A4,BitVec.toNat_ofNat,Nat.mod_eq_of_lt (by omega)]
theorem I0 {x y:Nat}(hx:x<9223372036854775808) (hy:y<9223372036854775808):Q9 .and .i64 x y=((x &&& y:Nat):Int):=by
 have e:(BitVec.ofInt 64 (x:Int) &&& BitVec.ofInt 64 (y:Int)).toNat=x &&& y:=by rw[BitVec.toNat_and,Td hx,Td hy]
 show IntKind.wrap .i64 ((BitVec.ofInt 64 (x:Int) &&& BitVec.ofInt 64 (y:Int)).toNat:Int)=_;rw[e,IX (Q4g hx)]
theorem Q6k {x i:Nat}(hi:i≤64):Qy .i64 x i=((x >>> i:Nat):Int):=by have:Nat.min i 64=i:=Nat.min_eq_left hi;simp only[Qy,Int.toNat_natCast,IntKind.bits,this];rw[Nat.shiftRight_eq_div_pow,Int.fdiv_eq_ediv_of_nonneg _ (Int.le_of_lt (Int.pow_pos (by omega)))];norm_cast
theorem Q65 {x i:Nat}(hi:i≤64):JC .i64 x i=((x <<< i:Nat):Int):=by have:Nat.min i 64=i:=Nat.min_eq_left hi;simp only[JC,Int.toNat_natCast,IntKind.bits,this,Nat.shiftLeft_eq];norm_cast
theorem Q6v {x i:Nat}(hx:x<9223372036854775808) (hi:i≤64):(Q9 .and .i64 (Qy .i64 x i) 1==1)=x.testBit i:=by have h1:x >>> i<9223372036854775808:=Nat.lt_of_le_of_lt (by rw[Nat.shiftRight_eq_div_pow];exact Nat.div_le_self _ _) hx;rw[Q6k hi,show (1:Int)=((1:Nat):Int) from rfl,I0 h1 (by omega),Nat.testBit];rw[Bool.eq_iff_iff];simp only[beq_iff_eq,bne_iff_ne,ne_eq];rw[Nat.and_comm,Nat.one_and_eq_mod_two];omega
end Go.V
set_option linter.unusedVariables false
namespace Go.Proofs.Tryz
open Go Go.V Go.Proofs
abbrev q4 {A B C D E:Type}(x:A×B×C×D×E):E:=x.2.2.2.2
def inI (n a b:Int):Bool:=decide (a≤n)&&decide (n≤b)
def ZC (hk:Int) (lw:List Int):Int:=if !inI hk 1 24 then 2 else if 96<lw.length then 5 else if lw.length=0 then 7 else if lw.any (fun x=>!inI x 0 (hk-1)) then 2 else 0
def ZS (hk:Int) (lw l:List Int):Int:=if ZC hk lw≠0 then ZC hk lw else if l.length≠lw.length then 4 else if l.any (fun x=>!inI x (-1) (lw.length-1)) then 2 else 0
def isRight (lw l:List Int) (w:Int):Bool:=let e:=l.getD w.toNat 0;e != -1&&lw.getD e.toNat 0==lw.getD w.toNat 0
def stays (lw l:List Int) (w:Nat):Bool:=isRight lw l w&&(List.range l.length).all fun k=>decide (k≤w)||(l.getD k 0 != l.getD w 0||!isRight lw l k)
def Vh (lw l:List Int) (n:Nat):List Int:=((List.range n).filter fun w=>!stays lw l w).map fun (w:Nat)=>(w:Int)
def Ql (lw l:List Int):List Int:=Vh lw l l.length
def V3 (lw l:List Int):List Int:=(List.range l.length).map fun w=>if stays lw l w then l.getD w 0 else -1
def Q60 (lw a:List Int) (w:Int) (e:Nat):Bool:=lw.getD e 0==lw.getD w.toNat 0&&!(a.contains (e:Int))
def step (lw:List Int) (a:List Int) (w:Int):List Int:=match (List.range lw.length).find? (Q60 lw a w) with
 |some e=>a.set w.toNat e
 |none=>a
def JS (lw l:List Int):List Int:=(Ql lw l).foldl (step lw) (V3 lw l)
def rdW (hk:Int) (lw l:List Int):List Int:=if ZS hk lw l=0 then Ql lw l else []
def rdA (hk:Int) (lw l:List Int):List Int:=if ZS hk lw l=0 then JS lw l else []
def Z13 (hk:Int) (lw l:List Int):Bool:=decide (ZS hk lw l≠0)||(Ql lw l).isEmpty
def Z0z (hk:Int) (lw l:List Int):Bool:=decide (ZS hk lw l≠0)
def Q2z (l:List Int) (p:Int→Bool):Int:=match l.findIdx? p with|some i=>(i:Int)|none=>-1
def Q1d {α:Type}(l:List α) (p:α→Bool):Int:=match l.findIdx? p with|some i=>(i:Int)|none=>-1
def u8s (l:List Int):Prop:=∀ x∈l,0≤x∧x≤255
def Z3m (l:List Int):Prop:=∀ x∈l,0≤x∧x≤65535
def bOk (h8:Int) (ws rs ds:List Int):Prop:=0≤h8∧h8≤255∧u8s ws∧Z3m rs∧u8s ds
def hkN (m h8:Int):Int:=1+Int.tmod h8 m
def QJ (hk:Int) (cap:Nat) (ws:List Int):List Int:=if ws=[] then [0] else (ws.take cap).map fun x=>Int.tmod x hk
def Jl (hk:Int) (cap:Nat) (rs:List Int):List Int:=if rs=[] then [21 % 2 ^ hk.toNat] else (rs.take cap).map fun x=>x % 2 ^ hk.toNat
def VN (ds:List Int) (n:Nat):List Int:=(List.range n).map fun w=>if w<ds.length then (if Int.tmod (ds.getD w 0) 16=15 then -1 else if ds.getD w 0≥80 then Int.tmod (ds.getD w 0) n else w) else w
def Dt (b:Bool):Int:=if b then 120 else 46
def Ka (lw:List Int) (row:Int):List UInt8:=lw.map fun k=>if row.toNat.testBit k.toNat then 120 else 46
def Zi (hd:Int) (rows:List Int):Int:=if !inI hd 1 24 then 2 else if 60<rows.length then 5 else if rows.length=0 then 7 else if rows.any (fun x=>!inI x 0 (2 ^ hd.toNat-1)) then 2 else 0
def Ze (hk:Int) (lw:List Int) (hd:Int) (rows:List Int):Int:=if ZC hk lw≠0 then ZC hk lw else if Zi hd rows≠0 then Zi hd rows else if hd≠hk then 4 else 0
def Qk (hk:Int) (lw:List Int) (hd:Int) (rows:List Int):List (List UInt8):=if Ze hk lw hd rows=0 then rows.map (Ka lw) else []
def PH (l:List Int) (pick:List UInt8):List UInt8:=l.map fun e=>if e=-1 then 46 else pick.getD e.toNat 0
def YL (hk:Int) (lw l:List Int) (hd:Int) (rows:List Int):Int:=if ZS hk lw l≠0 then ZS hk lw l else Ze hk lw hd rows
def Ge (hk:Int) (lw l:List Int) (hd:Int) (rows:List Int):List (List UInt8):=if YL hk lw l hd rows=0 then rows.map fun r=>PH l (Ka lw r) else []
theorem TO {hk:Int}{lw l:List Int}(h:ZS hk lw l=0):l.length=lw.length∧lw.length≠0∧∀ x∈l,-1≤x∧x<lw.length:=by
 unfold ZS at h;split at h
 ·contradiction
 ·rename_i ht;split at h
  ·cases h
  ·rename_i hl;split at h
   ·cases h
   ·rename_i ha;have ht:ZC hk lw=0:=by simpa using ht
    refine⟨by simpa using hl,fun h0=>?_,fun x hx=>?_⟩
    ·unfold ZC at ht;split at ht
     ·cases ht
     ·split at ht
      ·cases ht
      ·first|omega|(rw[if_pos h0] at ht;omega)
    ·have:=List.any_eq_false.1 (Bool.eq_false_iff.2 ha) x hx;simp[inI] at this;omega
def Wb (lw l:List Int) (j:Nat):List Int:=((List.range' (l.length-j) j).filter fun w=>!stays lw l w).map fun (w:Nat)=>(w:Int)
theorem EV {hk:Int}{lw:List Int}(h:ZC hk lw=0):1≤hk∧hk≤24∧lw.length≤96∧lw.length≠0∧∀ x∈lw,0≤x∧x<hk:=by
 unfold ZC at h;split at h
 ·cases h
 ·rename_i h1;split at h
  ·cases h
  ·rename_i h2;split at h
   ·cases h
   ·rename_i h3;split at h
    ·cases h
    ·rename_i h4;have h1:1≤hk∧hk≤24:=by simpa [inI] using h1
     refine⟨h1.1,h1.2,by omega,h3,fun x hx=>?_⟩;have h5:∀ x∈lw,inI x 0 (hk-1)=true:=by simpa using h4
     have:=h5 x hx;simp only[inI,Bool.and_eq_true,decide_eq_true_eq] at this;omega
theorem Q14 {α:Type}{l:List α}{p:α→Bool}{k:Nat}(hk:k<l.length) (h:p l[k]=true) (hJ:(l.take k).any p=false):Q1d l p=k:=by
 have:l.findIdx? p=some k:=by rw[List.findIdx?_eq_some_iff_getElem];refine⟨hk,h,fun j hj=>?_⟩;have hn:=List.any_eq_false.1 hJ l[j] (List.mem_take_iff_getElem.2 ⟨j,by omega,rfl⟩);simpa using hn
 simp[Q1d,this]
theorem Er {α:Type}{l:List α}{p:α→Bool}(hJ:l.any p=false):Q1d l p=-1:=by
 have:l.findIdx? p=none:=by rw[List.findIdx?_eq_none_iff];intro x hx;have:=List.any_eq_false.1 hJ x hx;simpa using this
 simp[Q1d,this]
theorem Q39 {α:Type}(l:List α) (p:α→Bool):(decide (Q1d l p≥0))=l.any p:=by
 cases h:l.any p with
 |false=>rw[Er h];rfl
 |true =>
  have:(l.findIdx? p).isSome=true:=by rw[List.findIdx?_isSome,h]
  obtain⟨i,hi⟩:=Option.isSome_iff_exists.1 this;have e:Q1d l p=(i:Int):=by simp[Q1d,hi]
  rw[e];exact decide_eq_true (Int.natCast_nonneg i)
def rowAt (rows:List Int) (p:Int):Nat:=(rows.getD (p.toNat % rows.length) 0).toNat
def SZ:Nat→Nat→Nat
 |0,_=>0
 |h+1,n=>2*SZ h n+(n / 2 ^ h) % 2
theorem Q0l:∀ h n,SZ h n<2 ^ h
 |0,_=>by simp[SZ]
 |h+1,n=>by have:=Q0l h n;have h2:(n / 2 ^ h) % 2<2:=Nat.mod_lt _ (by omega);simp only[SZ];rw[Nat.pow_succ];omega
theorem Pv:∀ h n i,(SZ h n).testBit i=(decide (i<h)&&n.testBit (h-1-i))
 |0,n,i=>by simp[SZ]
 |h+1,n,0=>by simp only[SZ];rw[Nat.testBit_zero,Nat.testBit_eq_decide_div_mod_eq];simp
 |h+1,n,i+1=>by have h2:(n / 2 ^ h) % 2<2:=Nat.mod_lt _ (by omega);simp only[SZ];rw[Nat.testBit_succ,show (2*SZ h n+n / 2 ^ h % 2) / 2=SZ h n by omega,Pv h n i];rw[show h+1-1-(i+1)=h-1-i by omega];congr 1;rw[decide_eq_decide];omega
def Uh (s m x:Nat):Nat:=((x >>> s) &&& m) ||| ((x &&& m) <<< s)
theorem Q4i (s m x i:Nat):(Uh s m x).testBit i=((x.testBit (s+i)&&m.testBit i)||(decide (s≤i)&&(x.testBit (i-s)&&m.testBit (i-s)))):=by unfold Uh;rw[Nat.testBit_or,Nat.testBit_and,Nat.testBit_shiftRight,Nat.testBit_shiftLeft,Nat.testBit_and]
def Ug (s i:Nat):Nat:=if i / s % 2=0 then i+s else i-s
def Z25 (s m:Nat):Bool:=(List.range 64).all fun i=>m.testBit i==(i / s % 2==0)
theorem AE {s m x i:Nat}(hs:s=1∨s=2∨s=4∨s=8∨s=16∨s=32) (hm:Z25 s m=true) (hx:x<2 ^ 64) (hi:i<64):(Uh s m x).testBit i=x.testBit (Ug s i):=by
 have rC:∀ j,j<64→m.testBit j=(j / s % 2==0):=fun j hj=>by have:=List.all_eq_true.1 hm j (List.mem_range.2 hj);simpa using this
 have hb:∀ j,64≤j→x.testBit j=false:=fun j hj=>Nat.testBit_lt_two_pow (Nat.lt_of_lt_of_le hx (Nat.pow_le_pow_right (by omega) hj));rw[Q4i,rC i hi];unfold Ug;by_cases h0:i / s % 2=0
 ·rw[if_pos h0,h0];simp only[beq_self_eq_true,Bool.and_true];have hz:(decide (s≤i)&&(x.testBit (i-s)&&m.testBit (i-s)))=false:=by
   by_cases h1:s≤i
   ·rw[rC (i-s) (by omega)];have:¬ ((i-s) / s % 2=0):=by rcases hs with rfl|rfl|rfl|rfl|rfl|rfl<;>omega
    simp[this]
   ·simp[h1]
  rw[hz,Bool.or_false,Nat.add_comm]
 ·rw[if_neg h0];have h1:s≤i:=by rcases hs with rfl|rfl|rfl|rfl|rfl|rfl<;>omega
  have h2:(i-s) / s % 2=0:=by rcases hs with rfl|rfl|rfl|rfl|rfl|rfl<;>omega
  rw[rC (i-s) (by omega),h2];simp[h0,h1]
theorem MF {s m x:Nat}(hs:s=1∨s=2∨s=4∨s=8∨s=16∨s=32) (hx:x<2 ^ 64) (hm:m<2 ^ (64-s)):Uh s m x<2 ^ 64:=by
 unfold Uh;refine Nat.or_lt_two_pow ?_ ?_
 ·exact Nat.lt_of_le_of_lt Nat.and_le_left (Nat.lt_of_le_of_lt (by rw[Nat.shiftRight_eq_div_pow];exact Nat.div_le_self _ _) hx)
 ·have h1:x &&& m<2 ^ (64-s):=Nat.lt_of_le_of_lt Nat.and_le_right hm;rw[Nat.shiftLeft_eq];have h2:2 ^ 64=2 ^ (64-s)*2 ^ s:=by rw[←Nat.pow_add];congr 1;omega
  rw[h2];exact Nat.mul_lt_mul_of_pos_right h1 (Nat.two_pow_pos s)
def Z0t (x:Nat):Nat:=Uh 4 1085102592571150095 (Uh 2 3689348814741910323 (Uh 1 6148914691236517205 x))
def Q40 (x:Nat):Nat:=(Uh 16 281470681808895 (Uh 8 71777214294589695 x)) >>> 32 ||| ((Uh 16 281470681808895 (Uh 8 71777214294589695 x)) <<< 32) % 2 ^ 64
theorem FW {x i:Nat}(hx:x<2 ^ 64) (hi:i<64):(Z0t x).testBit i=x.testBit (Ug 1 (Ug 2 (Ug 4 i)))∧Z0t x<2 ^ 64:=by
 have b1:Uh 1 6148914691236517205 x<2 ^ 64:=MF (.inl rfl) hx (by decide);have b2:Uh 2 3689348814741910323 (Uh 1 6148914691236517205 x)<2 ^ 64:=MF (.inr (.inl rfl)) b1 (by decide);have b3:=MF (s:=4) (m:=1085102592571150095) (by omega) b2 (by decide);refine⟨?_,b3⟩;unfold Z0t;have e4:Ug 4 i<64:=by unfold Ug;split<;>omega
 have e2:Ug 2 (Ug 4 i)<64:=by generalize Ug 4 i=j at e4;unfold Ug;split<;>omega
 rw[AE (by omega) (by decide) b2 hi,AE (by omega) (by decide) b1 e4,AE (by omega) (by decide) hx e2]
theorem Q4j {x i:Nat}(hx:x<2 ^ 64) (hi:i<64):(Q40 x).testBit i=x.testBit (Ug 8 (Ug 16 (Ug 32 i))):=by
 have b1:Uh 8 71777214294589695 x<2 ^ 64:=MF (by omega) hx (by decide);have b2:Uh 16 281470681808895 (Uh 8 71777214294589695 x)<2 ^ 64:=MF (by omega) b1 (by decide);have vp:(Q40 x).testBit i=(Uh 16 281470681808895 (Uh 8 71777214294589695 x)).testBit (Ug 32 i):=by
  unfold Q40;generalize Uh 16 281470681808895 (Uh 8 71777214294589695 x)=y at b2;rw[Nat.testBit_or,Nat.testBit_shiftRight,Nat.testBit_mod_two_pow,Nat.testBit_shiftLeft];unfold Ug;by_cases h:i / 32 % 2=0
  ·rw[if_pos h,Nat.add_comm];have:¬ 32≤i:=by omega
   simp[this]
  ·rw[if_neg h];have h1:32≤i:=by omega
   have h2:y.testBit (32+i)=false:=Nat.testBit_lt_two_pow (Nat.lt_of_lt_of_le b2 (Nat.pow_le_pow_right (by omega) (by omega)));rw[h2];simp[h1,hi]
 have pJ:Ug 32 i<64:=by unfold Ug;split<;>omega
 have oC:Ug 16 (Ug 32 i)<64:=by generalize Ug 32 i=j at pJ;unfold Ug;split<;>omega
 rw[vp,AE (by omega) (by decide) b1 pJ,AE (by omega) (by decide) hx oC]
theorem Q78 {x:Nat}(hx:x<2 ^ 64):Q40 x<2 ^ 64:=by unfold Q40;have b1:Uh 8 71777214294589695 x<2 ^ 64:=MF (by omega) hx (by decide);have b2:Uh 16 281470681808895 (Uh 8 71777214294589695 x)<2 ^ 64:=MF (by omega) b1 (by decide);refine Nat.or_lt_two_pow (Nat.lt_of_le_of_lt (by rw[Nat.shiftRight_eq_div_pow];exact Nat.div_le_self _ _) b2) (Nat.mod_lt _ (by decide))
theorem Q6g:∀ i,i<64→Ug 1 (Ug 2 (Ug 4 (Ug 8 (Ug 16 (Ug 32 i)))))=63-i:=by decide
theorem Z2f {x:Nat}(hx:x<2 ^ 64):Q40 (Z0t x)=SZ 64 x:=by
 refine Nat.eq_of_testBit_eq fun i=>?_;have h8:=(FW (i:=0) hx (by omega)).2;rw[Pv];by_cases hi:i<64
 ·rw[Q4j h8 hi];have pJ:Ug 32 i<64:=by unfold Ug;split<;>omega
  have oC:Ug 16 (Ug 32 i)<64:=by generalize Ug 32 i=j at pJ;unfold Ug;split<;>omega
  have e8:Ug 8 (Ug 16 (Ug 32 i))<64:=by generalize Ug 16 (Ug 32 i)=j at oC;unfold Ug;split<;>omega
  rw[(FW hx e8).1,Q6g i hi];simp[hi]
 ·rw[Nat.testBit_lt_two_pow (Nat.lt_of_lt_of_le (Q78 h8) (Nat.pow_le_pow_right (by omega) (by omega)))];simp[hi]
theorem IF {f n:Nat}(hf:f≤64) (hn:n<2 ^ f):SZ 64 n >>> (64-f)=SZ f n:=by
 refine Nat.eq_of_testBit_eq fun i=>?_;rw[Nat.testBit_shiftRight,Pv,Pv];by_cases hi:i<f
 ·rw[decide_eq_true hi,decide_eq_true (show 64-f+i<64 by omega),Bool.true_and,Bool.true_and];congr 1;omega
 ·rw[decide_eq_false hi,decide_eq_false (show ¬ 64-f+i<64 by omega)];rfl
theorem Q4b {x:Nat}(hx:x<2 ^ 64):(BitVec.ofInt 64 (x:Int)).toNat=x:=by rw[A4,BitVec.toNat_ofNat,Nat.mod_eq_of_lt hx]
theorem Q70 (x:Nat):IntKind.wrap .u64 (x:Int)=((x % 2 ^ 64:Nat):Int):=by show (x:Int) % 18446744073709551616=_;omega
theorem Z42 {a b:Nat}(ha:a<2 ^ 64) (hb:b<2 ^ 64):Q9 .and .u64 (a:Int) (b:Int)=((a &&& b:Nat):Int):=by
 have e:(BitVec.ofInt 64 (a:Int) &&& BitVec.ofInt 64 (b:Int)).toNat=a &&& b:=by rw[BitVec.toNat_and,Q4b ha,Q4b hb]
 show IntKind.wrap .u64 ((BitVec.ofInt 64 (a:Int) &&& BitVec.ofInt 64 (b:Int)).toNat:Int)=_;rw[e,Q70,Nat.mod_eq_of_lt (Nat.lt_of_le_of_lt Nat.and_le_left ha)]
theorem orU {a b:Nat}(ha:a<2 ^ 64) (hb:b<2 ^ 64):Q9 .or .u64 (a:Int) (b:Int)=((a ||| b:Nat):Int):=by
 have e:(BitVec.ofInt 64 (a:Int) ||| BitVec.ofInt 64 (b:Int)).toNat=a ||| b:=by rw[BitVec.toNat_or,Q4b ha,Q4b hb]
 show IntKind.wrap .u64 ((BitVec.ofInt 64 (a:Int) ||| BitVec.ofInt 64 (b:Int)).toNat:Int)=_;rw[e,Q70,Nat.mod_eq_of_lt (Nat.or_lt_two_pow ha hb)]
theorem Z1w {x i:Nat}(hi:i≤64):Qy .u64 (x:Int) (i:Int)=((x >>> i:Nat):Int):=by have:Nat.min i 64=i:=Nat.min_eq_left hi;simp only[Qy,Int.toNat_natCast,IntKind.bits,this];rw[Nat.shiftRight_eq_div_pow,Int.fdiv_eq_ediv_of_nonneg _ (Int.le_of_lt (Int.pow_pos (by omega)))];norm_cast
theorem Z32 {x i:Nat}(hi:i≤64):JC .u64 (x:Int) (i:Int)=((x <<< i:Nat):Int):=by have:Nat.min i 64=i:=Nat.min_eq_left hi;simp only[JC,Int.toNat_natCast,IntKind.bits,this,Nat.shiftLeft_eq];norm_cast
theorem Q9e {s m x:Nat}(hs:s=1∨s=2∨s=4∨s=8∨s=16∨s=32) (hx:x<2 ^ 64) (hm:m<2 ^ (64-s)) :
  Q9 .or .u64 (Q9 .and .u64 (Qy .u64 (x:Int) (s:Int)) (m:Int)) (JC .u64 (Q9 .and .u64 (x:Int) (m:Int)) (s:Int))=((Uh s m x:Nat):Int)∧InK .u64 (JC .u64 (Q9 .and .u64 (x:Int) (m:Int)) (s:Int))∧Uh s m x<2 ^ 64:=by
 have oD:m<2 ^ 64:=Nat.lt_of_lt_of_le hm (Nat.pow_le_pow_right (by omega) (by omega));have bh:x >>> s<2 ^ 64:=Nat.lt_of_le_of_lt (by rw[Nat.shiftRight_eq_div_pow];exact Nat.div_le_self _ _) hx;have hl:(x &&& m) <<< s<2 ^ 64:=by
  have h1:x &&& m<2 ^ (64-s):=Nat.lt_of_le_of_lt Nat.and_le_right hm;rw[Nat.shiftLeft_eq];have h2:2 ^ 64=2 ^ (64-s)*2 ^ s:=by rw[←Nat.pow_add];congr 1;omega
  rw[h2];exact Nat.mul_lt_mul_of_pos_right h1 (Nat.two_pow_pos s)
 rw[Z1w (by omega),Z42 bh oD,Z42 hx oD,Z32 (by omega),orU (Nat.lt_of_le_of_lt Nat.and_le_left bh) hl];refine⟨rfl,?_,MF hs hx hm⟩;rw[TT];generalize (x &&& m) <<< s=z at hl;omega
theorem sw1 {x:Nat}(hx:x<2 ^ 64):Q9 .or .u64 (Q9 .and .u64 (Qy .u64 (x:Int) 1) 6148914691236517205) (JC .u64 (Q9 .and .u64 (x:Int) 6148914691236517205) 1)=((Uh 1 6148914691236517205 x:Nat):Int)∧InK .u64 (JC .u64 (Q9 .and .u64 (x:Int) 6148914691236517205) 1)∧Uh 1 6148914691236517205 x<2 ^ 64:=Q9e (s:=1) (m:=6148914691236517205) (by omega) hx (by decide)
theorem sw2 {x:Nat}(hx:x<2 ^ 64):Q9 .or .u64 (Q9 .and .u64 (Qy .u64 (x:Int) 2) 3689348814741910323) (JC .u64 (Q9 .and .u64 (x:Int) 3689348814741910323) 2)=((Uh 2 3689348814741910323 x:Nat):Int)∧InK .u64 (JC .u64 (Q9 .and .u64 (x:Int) 3689348814741910323) 2)∧Uh 2 3689348814741910323 x<2 ^ 64:=Q9e (s:=2) (m:=3689348814741910323) (by omega) hx (by decide)
theorem sw4 {x:Nat}(hx:x<2 ^ 64):Q9 .or .u64 (Q9 .and .u64 (Qy .u64 (x:Int) 4) 1085102592571150095) (JC .u64 (Q9 .and .u64 (x:Int) 1085102592571150095) 4)=((Uh 4 1085102592571150095 x:Nat):Int)∧InK .u64 (JC .u64 (Q9 .and .u64 (x:Int) 1085102592571150095) 4)∧Uh 4 1085102592571150095 x<2 ^ 64:=Q9e (s:=4) (m:=1085102592571150095) (by omega) hx (by decide)
theorem sw8 {x:Nat}(hx:x<2 ^ 64):Q9 .or .u64 (Q9 .and .u64 (Qy .u64 (x:Int) 8) 71777214294589695) (JC .u64 (Q9 .and .u64 (x:Int) 71777214294589695) 8)=((Uh 8 71777214294589695 x:Nat):Int)∧InK .u64 (JC .u64 (Q9 .and .u64 (x:Int) 71777214294589695) 8)∧Uh 8 71777214294589695 x<2 ^ 64:=Q9e (s:=8) (m:=71777214294589695) (by omega) hx (by decide)
theorem Z47 {x:Nat}(hx:x<2 ^ 64):Q9 .or .u64 (Q9 .and .u64 (Qy .u64 (x:Int) 16) 281470681808895) (JC .u64 (Q9 .and .u64 (x:Int) 281470681808895) 16)=((Uh 16 281470681808895 x:Nat):Int)∧InK .u64 (JC .u64 (Q9 .and .u64 (x:Int) 281470681808895) 16)∧Uh 16 281470681808895 x<2 ^ 64:=Q9e (s:=16) (m:=281470681808895) (by omega) hx (by decide)
theorem Z45 {x:Nat}(hx:x<2 ^ 64):Q9 .or .u64 (Qy .u64 (x:Int) 32) (IntKind.wrap .u64 (JC .u64 (x:Int) 32))=((x >>> 32 ||| (x <<< 32) % 2 ^ 64:Nat):Int):=by have h1:Qy .u64 (x:Int) 32=((x >>> 32:Nat):Int):=Z1w (i:=32) (by omega);have h2:JC .u64 (x:Int) 32=((x <<< 32:Nat):Int):=Z32 (i:=32) (by omega);rw[h1,h2,Q70,orU (Nat.lt_of_le_of_lt (by rw[Nat.shiftRight_eq_div_pow];exact Nat.div_le_self _ _) hx) (Nat.mod_lt _ (by decide))]
abbrev K6:=Int×Int×Bool
def W_:K6:=(0,(0,false))
def ZT (hk:Int) (c:K6):Bool:=inI c.1 (-1) 59&&inI c.2.1 0 (2 ^ hk.toNat-1)
def Js (hk:Int) (cs:List K6):Int:=if !inI hk 1 24 then 3 else if 60<cs.length then 5 else if cs=[]∨(cs.any fun c=>!ZT hk c)=true then 2 else 0
def Q8p (f row:Int):Int:=((SZ f.toNat row.toNat:Nat):Int)
def DA (hk:Int) (c:K6):Int:=if c.2.2 then Q8p hk c.2.1 else c.2.1
def W3 (hk:Int) (rows:List Int):Int:=if !inI hk 1 24 then 2 else if 60<rows.length then 5 else if rows=[] then 7 else if (rows.any fun r=>!inI r 0 (2 ^ hk.toNat-1))=true then 2 else 0
def Rx (rows:List Int):List K6:=(List.range rows.length).map fun (i:Nat)=>((i:Int),(rows.getD i 0,false))
def Dn (hk:Int) (rows:List Int):Int:=if W3 hk rows=0 then hk else 0
def T4 (hk:Int) (rows:List Int):List K6:=if W3 hk rows=0 then Rx rows else []
def atK (n a:Int) (st:List Int):Nat→Int
 |0=>a
 |k+1=>Int.tmod (atK n a st k+st.getD k 0) n
def RN (hk:Int) (cs:List K6) (a:Int) (st:List Int) (k:Nat):List Int:=(List.range k).map fun i=>DA hk (cs.getD (atK cs.length a st i).toNat W_)
def Zd (hk:Int) (cs:List K6) (a:Int) (st:List Int):Int:=if Js hk cs≠0 then Js hk cs else if !inI a 0 ((cs.length:Int)-1) then 7 else if 60<st.length then 5 else if (st.any fun s=>!inI s 0 2)=true then 2 else 0
def Yf (hk:Int) (cs:List K6) (a:Int) (st:List Int):List Int:=if Zd hk cs a st=0 then RN hk cs a st st.length else []
def Wp (hk:Int) (cs:List K6) (a:Int) (st:List Int):Int:=if Zd hk cs a st=0 then atK cs.length a st st.length else 0
theorem SQ {n a b:Int}(h:(!inI n a b)=false):a≤n∧n≤b:=by unfold inI at h;simp at h;omega
theorem Z49 {k:Nat}(h:k≤62):JC .i64 1 (k:Int)=((2 ^ k:Nat):Int):=by have:=Q65 (x:=1) (i:=k) (by omega);rw[Nat.shiftLeft_eq,Nat.one_mul] at this;exact this
theorem FV (k:Nat):(2:Int) ^ k=((2 ^ k:Nat):Int):=by simp
theorem Q9n {k:Nat}(h:k≤24):0<2 ^ k∧2 ^ k≤16777216:=⟨Nat.two_pow_pos k,Nat.pow_le_pow_right (n:=2) (by omega) h⟩
theorem OS {f:Int}{c:K6}(h:ZT f c=true):0≤c.2.1∧c.2.1<2 ^ f.toNat:=by unfold ZT inI at h;simp only[Bool.and_eq_true,decide_eq_true_eq] at h;omega
theorem Q38 {hk:Int}{cs:List K6}(h1:(!inI hk 1 24)=false) (h2:cs.length≤60) (h3:(!(!cs.isEmpty&&!(cs.any fun c=>!ZT hk c)))=true):Js hk cs=2:=by unfold Js;rw[if_neg (by rw[h1];decide),if_neg (by omega),if_pos];simp only[Bool.not_and,Bool.not_not,Bool.or_eq_true,List.isEmpty_iff] at h3;exact h3
theorem Q0m {hk:Int}{cs:List K6}(h1:(!inI hk 1 24)=false) (h2:cs.length≤60) (h3:(!(!cs.isEmpty&&!(cs.any fun c=>!ZT hk c)))=false):Js hk cs=0∧cs≠[]∧∀ c∈cs,ZT hk c=true:=by
 simp only[Bool.not_and,Bool.not_not,Bool.or_eq_false_iff] at h3;have aA:cs≠[]:=fun e=>by rw[e] at h3;cases h3.1
 refine⟨?_,aA,fun c hc=>?_⟩
 ·unfold Js;rw[if_neg (by rw[h1];decide),if_neg (by omega),if_neg];rintro (h|h)
  ·exact aA h
  ·rw[h3.2] at h;cases h
 ·have:=List.any_eq_false.1 h3.2 c hc;simpa using this
def Q6e (rows:List Int) (k:Nat):List K6:=(List.range k).map fun (i:Nat)=>((i:Int),(rows.getD i 0,false))
theorem Q0d (rows:List Int) (k:Nat):Q6e rows (k+1)=Q6e rows k++[((k:Int),(rows.getD k 0,false))]:=by unfold Q6e;rw[List.range_succ,List.map_append];rfl
theorem Q3z (rows:List Int) (k:Nat):(Q6e rows k).length=k:=by simp[Q6e]
theorem Cg {hk:Int}{rows:List Int}{e:Int}(h:W3 hk rows=e) (h0:e≠0):(0=Dn hk rows∧e=W3 hk rows)∧T4 hk rows=[]∧(T4 hk rows).isEmpty=true:=by
 have h1:W3 hk rows≠0:=by omega
 have h2:T4 hk rows=[]:=by unfold T4;rw[if_neg h1]
 have h3:Dn hk rows=0:=by unfold Dn;rw[if_neg h1]
 rw[h2,h3];exact⟨⟨rfl,h.symm⟩,rfl,rfl⟩
theorem V_ {hk a:Int}{cs:List K6}{st:List Int}{e:Int}(h:Zd hk cs a st=e) (h0:e≠0):(0=Wp hk cs a st∧e=Zd hk cs a st)∧Yf hk cs a st=[]∧(Yf hk cs a st).isEmpty=true:=by
 have h1:Zd hk cs a st≠0:=by omega
 have h2:Yf hk cs a st=[]:=by unfold Yf;rw[if_neg h1]
 have h3:Wp hk cs a st=0:=by unfold Wp;rw[if_neg h1]
 rw[h2,h3];exact⟨⟨rfl,h.symm⟩,rfl,rfl⟩
theorem Oa (hk:Int) (cs:List K6) (a:Int) (st:List Int) (k:Nat):RN hk cs a st (k+1)=RN hk cs a st k++[DA hk (cs.getD (atK cs.length a st k).toNat W_)]:=by unfold RN;rw[List.range_succ,List.map_append];rfl
theorem Ed (hk:Int) (cs:List K6) (a:Int) (st:List Int) (k:Nat):(RN hk cs a st k).length=k:=by simp[RN]
theorem Q5k {n:Nat}{a:Int}{st:List Int}(hn:0<n) (h0:0≤a) (h1:a<n) (hs:∀ s∈st,0≤s):∀ k,0≤atK n a st k∧atK n a st k<n
 |0=>⟨h0,h1⟩
 |k+1=>by
  have ih:=Q5k hn h0 h1 hs k;have hg:0≤st.getD k 0:=by
   rw[List.getD_eq_getElem?_getD];cases h:st[k]? with
   |none=>exact Int.le_refl _
   |some x=>exact hs x (List.mem_of_getElem? h)
  simp only[atK];rw[Int.tmod_eq_emod_of_nonneg (by omega)];exact⟨Int.emod_nonneg _ (by omega),Int.emod_lt_of_pos _ (by omega)⟩
theorem CW {hk:Int}{cs:List K6}(h:Js hk cs=0):(1≤hk∧hk≤24)∧cs.length≤60∧cs≠[]∧∀ c∈cs,ZT hk c=true:=by
 unfold Js at h;split at h
 ·cases h
 ·rename_i h1;have h1:(!inI hk 1 24)=false:=by simpa using h1
  split at h
  ·cases h
  ·split at h
   ·cases h
   ·rename_i h2 h3;refine⟨SQ h1,by omega,fun e=>h3 (.inl e),fun c hc=>?_⟩;cases aq:ZT hk c with
    |true=>rfl
    |false=>exact(h3 (.inr (List.any_eq_true.2 ⟨c,hc,by rw[aq];rfl⟩))).elim
def AY (a b:Int):Int:=if a<b then -1 else if b<a then 1 else 0
def Q3q:XSp:=fun _ _ _ _=>False
theorem Lt {P:Program}{f:Nat}:XOk P f Q3q:=fun _ _ _ _ _ _ _ _ _ _ _ _ _ _ hx _=>hx.elim
def len8T:List UInt8:=[0,1,2,2,3,3,3,3,4,4,4,4,4,4,4,4,5,5,5,5,5,5,5,5,5,5,5,5,5,5,5,5,6,6,6,6,6,6,6,6,6,6,6,6,6,6,6,6,6,6,6,6,6,6,6,6,6,6,6,6,6,6,6,6,7,7,7,7,7,7,7,7,7,7,7,7,7,7,7,7,7,7,7,7,7,7,7,7,7,7,7,7,7,7,7,7,7,7,7,7,7,7,7,7,7,7,7,7,7,7,7,7,7,7,7,7,7,7,7,7,7,7,7,7,7,7,7,7,8,8,8,8,8,8,8,8,8,8,8,8,8,8,8,8,8,8,8,8,8,8,8,8,8,8,8,8,8,8,8,8,8,8,8,8,8,8,8,8,8,8,8,8,8,8,8,8,8,8,8,8,8,8,8,8,8,8,8,8,8,8,8,8,8,8,8,8,8,8,8,8,8,8,8,8,8,8,8,8,8,8,8,8,8,8,8,8,8,8,8,8,8,8,8,8,8,8,8,8,8,8,8,8,8,8,8,8,8,8,8,8,8,8,8,8,8,8,8,8,8,8,8,8,8,8,8,8]
def L9 (x:Int):Int:=((UInt8.toNat (List.getD len8T (Int.toNat x) 0):Nat):Int)
def EE {α:Type}[Inhabited α] (lt:α→α→Bool) (a:Nat):Nat→List α→List α
 |0,xs=>xs
 |j+1,xs=>if a<j+1∧lt (xs.getD (j+1) default) (xs.getD j default)=true then EE lt a j ((xs.set (j+1) (xs.getD j default)).set j (xs.getD (j+1) default)) else xs
def Q2y {α:Type}[Inhabited α] (lt:α→α→Bool) (a:Nat):Nat→List α→List α
 |0,xs=>xs
 |n+1,xs=>EE lt a (a+1+n) (Q2y lt a n xs)
def TJ {α:Type}[Inhabited α] (f:α×α→Int) (xs:List α) (a b:Nat):List α:=Q2y (fun x y=>decide (f (x,y)<0)) a (b-a-1) xs
section
variable {α:Type}[Inhabited α] {lt:α→α→Bool}
theorem At {xs:List α}{j:Nat}(h:j+1<xs.length):((xs.set (j+1) (xs.getD j default)).set j (xs.getD (j+1) default)).Perm xs:=by rw[Qa (show j<xs.length by omega),Qa h];exact List.set_set_perm h (by omega)
theorem E7 {a:Nat}:∀ j {xs:List α},j<xs.length→(EE lt a j xs).Perm xs
 |0,_,_=>.refl _
 |j+1,xs,h=>by
  unfold EE;split
  ·exact(E7 j (by simp;omega)).trans (At h)
  ·exact .refl _
theorem DM {a:Nat}{xs:List α}:∀ n,a+n<xs.length∨n=0→(Q2y lt a n xs).Perm xs
 |0,_=>.refl _
 |n+1,h=>by have ih:=DM (a:=a) (xs:=xs) n (by omega);unfold Q2y;exact(E7 _ (by rw[ih.length_eq];omega)).trans ih
theorem T6 {f:α×α→Int}{xs:List α}{a b:Nat}(h:b≤xs.length):(TJ f xs a b).Perm xs:=DM _ (by omega)
theorem Q27 {a j:Nat}{xs:List α}(hj:a<j) (h:lt (xs.getD j default) (xs.getD (j-1) default)=true):EE lt a j xs=EE lt a (j-1) ((xs.set j (xs.getD (j-1) default)).set (j-1) (xs.getD j default)):=by obtain⟨k,rfl⟩:∃ k,j=k+1:=⟨j-1,by omega⟩;rw[Nat.add_sub_cancel] at h ⊢;rw[EE,if_pos ⟨hj,h⟩]
theorem Q17 {a j:Nat}{xs:List α}(h:¬ (a<j∧lt (xs.getD j default) (xs.getD (j-1) default)=true)):EE lt a j xs=xs:=by
 cases j with
 |zero=>rfl
 |succ k=>rw[Nat.add_sub_cancel] at h;rw[EE,if_neg h]
theorem Ie {xs:List α}{j q:Nat}(h:j+1<xs.length):((xs.set (j+1) (xs.getD j default)).set j (xs.getD (j+1) default)).getD q default=if q=j then xs.getD (j+1) default else if q=j+1 then xs.getD j default else xs.getD q default:=by
 simp only[List.getD_eq_getElem?_getD,List.getElem?_set,List.length_set];by_cases h1:j=q
 ·subst h1;rw[if_pos rfl,if_pos (by omega),if_pos rfl];rfl
 ·rw[if_neg h1,if_neg (show ¬ q=j from fun e=>h1 e.symm)];by_cases h2:j+1=q
  ·subst h2;rw[if_pos rfl,if_pos h,if_pos rfl];rfl
  ·rw[if_neg h2,if_neg (show ¬ q=j+1 from fun e=>h2 e.symm)]
def Q5c (lt:α→α→Bool) (i:Nat) (xs:List α):Prop:=∀ p q,p<q→q≤i→lt (xs.getD q default) (xs.getD p default)=false
theorem Ac (has:∀ x y,lt x y=true→lt y x=false) (l5:∀ x y z,lt y x=false→lt z y=false→lt z x=false) {i:Nat}:∀ j {xs:List α},j≤i→i<xs.length→(∀ p q,p<q→q≤i→q≠j→lt (xs.getD q default) (xs.getD p default)=false)→Q5c lt i (EE lt 0 j xs)
 |0,xs,_,_,h=>fun p q h1 h2=>by rw[EE];exact h p q h1 h2 (by omega)
 |j+1,xs,hj,hi,h=>by
  rw[EE];split
  ·rename_i hc;refine Ac has l5 j (by omega) (by simp;exact hi) fun p q h1 h2 h3=>?_;rw[Ie (by omega),Ie (by omega),if_neg h3];by_cases hq:q=j+1
   ·rw[if_pos hq];by_cases hp:p=j
    ·rw[if_pos hp];exact has _ _ hc.2
    ·rw[if_neg hp,if_neg (by omega)];exact h p j (by omega) (by omega) (by omega)
   ·rw[if_neg hq];by_cases hp:p=j
    ·rw[if_pos hp];exact h (j+1) q (by omega) h2 (by omega)
    ·rw[if_neg hp];by_cases eQ:p=j+1
     ·rw[if_pos eQ];exact h j q (by omega) h2 (by omega)
     ·rw[if_neg eQ];exact h p q h1 h2 (by omega)
  ·rename_i hc;have hc:lt (xs.getD (j+1) default) (xs.getD j default)=false:=by
    cases h5:lt (xs.getD (j+1) default) (xs.getD j default) with
    |false=>rfl
    |true=>exact(hc ⟨by omega,h5⟩).elim
   intro p q h1 h2;by_cases hq:q=j+1
   ·subst hq;by_cases hp:p=j
    ·subst hp;exact hc
    ·exact l5 _ _ _ (h p j (by omega) (by omega) (by omega)) hc
   ·exact h p q h1 h2 hq
theorem E9 (has:∀ x y,lt x y=true→lt y x=false) (l5:∀ x y z,lt y x=false→lt z y=false→lt z x=false) {xs:List α}:∀ n,n<xs.length→Q5c lt n (Q2y lt 0 n xs)
 |0,_=>fun p q h1 h2=>by omega
 |n+1,h=>by have ih:=E9 has l5 (xs:=xs) n (by omega);have hp:=DM (lt:=lt) (a:=0) (xs:=xs) n (by omega);unfold Q2y;rw[show 0+1+n=n+1 by omega];exact Ac has l5 (n+1) (Nat.le_refl _) (by rw[hp.length_eq];omega) fun p q h1 h2 h3=>ih p q h1 (by omega)
theorem Q07 {f:α×α→Int}(has:∀ x y,f (x,y)<0→¬ f (y,x)<0) (l5:∀ x y z,¬ f (y,x)<0→¬ f (z,y)<0→¬ f (z,x)<0) (xs:List α):(TJ f xs 0 xs.length).Pairwise fun x y=>¬ f (y,x)<0:=by
 cases hx:xs with
 |nil=>exact List.Pairwise.nil
 |cons x0 t =>
  have hlen:0<xs.length:=by rw[hx];simp
  rw[←hx];have h:=E9 (lt:=fun x y=>decide (f (x,y)<0)) (fun x y h=>by simpa using has x y (by simpa using h)) (fun x y z h1 h2=>by simpa using l5 x y z (by simpa using h1) (by simpa using h2)) (xs:=xs) (xs.length-0-1) (by omega);have hl:=(T6 (f:=f) (a:=0) (Nat.le_refl xs.length)).length_eq;refine List.pairwise_iff_getElem.2 fun p q hp hq vq=>?_;have:=h p q vq (by omega);have dk:(Q2y (fun x y=>decide (f (x,y)<0)) 0 (xs.length-0-1) xs).getD q default=(TJ f xs 0 xs.length)[q]:=Qa hq;have br:(Q2y (fun x y=>decide (f (x,y)<0)) 0 (xs.length-0-1) xs).getD p default=(TJ f xs 0 xs.length)[p]:=Qa hp;rw[dk,br] at this;simpa using this
end
theorem Q6s {a j:Nat}{α:Type}[Inhabited α] {f:α×α→Int}{ys T:List α}(e:EE (fun x y=>decide (f (x,y)<0)) a j ys=T) (h:¬ (a<j∧f (ys.getD j default,ys.getD (j-1) default)<0)):ys=T:=by rw[←e,Q17];intro hh;exact h ⟨hh.1,by simpa using hh.2⟩
theorem Q42 {a j:Nat}{α:Type}[Inhabited α] {f:α×α→Int}{ys T:List α}(e:EE (fun x y=>decide (f (x,y)<0)) a j ys=T) (hj:a<j) (h:f (ys.getD j default,ys.getD (j-1) default)<0):EE (fun x y=>decide (f (x,y)<0)) a (j-1) ((ys.set j (ys.getD (j-1) default)).set (j-1) (ys.getD j default))=T:=by rw[←e,Q27 hj (by simpa using h)]
theorem OK {α:Type}[Inhabited α] {xs:List α}{j:Nat}(h0:0<j) (h:j<xs.length):((xs.set j (xs.getD (j-1) default)).set (j-1) (xs.getD j default)).Perm xs:=by obtain⟨k,rfl⟩:∃ k,j=k+1:=⟨j-1,by omega⟩;exact At h
end Go.Proofs.Tryz
set_option linter.unusedVariables false
namespace Go.Proofs.Tryz
open Go Go.V Go.Proofs
def Wo:AL (List Int):=(.one (.k (.list (.i .i64))))
def U0 (d:List Int):Prop:=d≠[]∧d.length≤110
def W7 (d:List Int):SV:=.lst 0
def W4 (d:List Int):List OB:=[.lst 3 (.i .i64) d false]
def JR:CSp:=W8 Wo U0 W7 W4
def Zv (l:List Int):Prop :=
 (l≠[])∧(false=true →
  (True∧((l=[]∧false=true)∧True))) ∧
 (false=false →
  (((List.length ([]:List Int))+(List.length l))*8≤70368744177664)∧(True∧(((([]:List Int)++l)=l∧((List.isEmpty l)&&false)=false)∧True)))
def Wk:Cx:=⟨[(3,(.i .i64))],[],8,[],0,[],[],[],[],false,[],[],[],[]⟩
def Uq (l:List Int):List (Nat×LoopAnn):=[]
set_option maxRecDepth 100000 in
theorem Um (d:List Int):gwp (Wk) (Uq d) c32 0 (WE [.tmp 2] (W7 d) (W4 d)) (Qp 8 (AL.can Wo d))=Zv d:=by kernel_rfl
abbrev UI:Prop:=OkC Tryz.prog 32 JR
theorem UW (h:∀ (l:List Int),(l≠[]∧l.length≤110)→Zv l):OkC Tryz.prog 32 JR :=
 Qz Q84 mixed (C:=Wk) (V:=fun (d:List Int)=>Zv d) ⟨.nil,XsOk.nil,ItsOk.nil,YlOk.nil,IysOk.nil,XfOk.nil⟩ (Um) fun d hp=>h d hp
theorem UD:UI:=UW fun l h=>by simp[Zv,h.1];omega
def Xp:Cx:=⟨[],[],4,[],0,[],[],[],[],false,[],[],[],[]⟩
def XF:XSp:=Q21 Xp (fun _=>[]) c33 [.tmp 2] 4
theorem Kh:XOk Tryz.prog 33 XF:=VI Q96 mixed (C:=Xp) ⟨.nil,XsOk.nil,ItsOk.nil,YlOk.nil,IysOk.nil,XfOk.nil⟩ _
def YV:AL ((Int×List Int×List Int)×Int):=(.cons (.agg (.cons (.k (.i .i64)) (.cons (.k (.list (.i .i64))) (.one (.k (.list (.i .i64))))))) (.one (.k (.i .i64))))
def MN (d:(Int×List Int×List Int)×Int):Prop:=0≤d.2∧d.2<d.1.2.2.length∧d.1.2.2.length≤d.1.2.1.length∧∀ x∈d.1.2.2,-1≤x∧x<d.1.2.1.length
def Yw (d:(Int×List Int×List Int)×Int):SV:=.val .bo (isRight d.1.2.1 d.1.2.2 d.2)
def Yt (d:(Int×List Int×List Int)×Int):List OB:=[]
def XW:CSp:=W8 YV MN Yw Yt
def Jj (hk:Int) (lw:List Int) (l:List Int) (w:Int):Prop :=
 (0≤w)∧(w<(List.length l))∧(((gD l w 0) != (-1:Int))=true→0≤(gD l w 0))∧(((gD l w 0) != (-1:Int))=true→(gD l w 0)<(List.length lw))∧(((gD l w 0) != (-1:Int))=true→0≤w)∧(((gD l w 0) != (-1:Int))=true→w<(List.length lw))∧((((gD l w 0) != (-1:Int))&&((gD lw (gD l w 0) 0)==(gD lw w 0)))=(isRight lw l w)∧(True))
def YW:Cx:=⟨[],[],28,[],0,[],[],[],[],false,[],[],[],[]⟩
def Gg (hk:Int) (lw:List Int) (l:List Int) (w:Int):List (Nat×LoopAnn):=[]
set_option maxRecDepth 100000 in
theorem Gi (d:(Int×List Int×List Int)×Int):gwp (YW) (Gg d.1.1 d.1.2.1 d.1.2.2 d.2) c34 0 (WE [.tmp 4] (Yw d) (Yt d)) (Qp 28 (AL.can YV d))=Jj d.1.1 d.1.2.1 d.1.2.2 d.2:=by kernel_rfl
abbrev G9:Prop:=OkC Tryz.prog 34 XW
theorem Gk (h:∀ (hk:Int) (lw:List Int) (l:List Int) (w:Int),(0≤w∧w<l.length∧l.length≤lw.length∧∀ x∈l,-1≤x∧x<lw.length)→Jj hk lw l w):OkC Tryz.prog 34 XW :=
 Qz Q8f mixed (C:=YW) (V:=fun (d:(Int×List Int×List Int)×Int)=>Jj d.1.1 d.1.2.1 d.1.2.2 d.2) ⟨.nil,XsOk.nil,ItsOk.nil,YlOk.nil,IysOk.nil,XfOk.nil⟩ (Gi) fun d hp=>h d.1.1 d.1.2.1 d.1.2.2 d.2 hp
theorem Gh:G9:=Gk fun hk lw l w h=>by
 obtain⟨h1,h2,h3,h4⟩:=h;obtain⟨n,rfl⟩:=Int.eq_ofNat_of_zero_le h1;have hn:n<l.length:=by omega
 have:=h4 _ (List.getElem_mem hn);unfold Jj;(try delta lI gD sT I64);simp only[and_true,bne_iff_ne,ne_eq,Int.toNat_natCast,Int.ofNat_lt,Qa hn];refine⟨by omega,by omega,fun h=>by omega,fun h=>by omega,fun _=>by omega,fun _=>by omega,?_⟩;simp only[isRight,Int.toNat_natCast,Qa hn]
def Xa:AL (List Int×((Int→Prop)×(Int→Bool))):=(.cons (.k (.list (.i .i64))) (.one (.fn [(.i .i64)] .bo)))
def YZ (d:List Int×((Int→Prop)×(Int→Bool))):Prop:=d.1.length≤1000000∧∀ x∈d.1,d.2.1 x
def JW (d:List Int×((Int→Prop)×(Int→Bool))):SV:=.val (.i .i64) (Q2z d.1 d.2.2)
def JX (d:List Int×((Int→Prop)×(Int→Bool))):List OB:=[]
def ZU:CSp:=W8 Xa YZ JW JX
def Za (l:List Int) (p:(Int→Prop)×(Int→Bool)):Prop :=
 ∃ (e2:Unit) (d20:Int),((l=l∧(SV.pf [(.i .i64)] .bo p.1 p.2=SV.pf [(.i .i64)] .bo p.1 p.2)∧(lI l)=(lI l)∧(0:Int)=d20∧True)∧(True)) ∧
 LoopP (fun (d2:Int) (q2:(Int)→Prop) =>
  ((decide (d2<(lI l)))=true →
   (0≤d2)∧(d2<(List.length l))∧(p.1 (gD l d2 0))∧((p.2 (gD l d2 0))=true →
    (d2=(Q2z l p.2)∧(True))) ∧
   ((p.2 (gD l d2 0))=false →
    (I64 (d2+(1:Int)))∧(∃ d3:Int,((l=l∧(SV.pf [(.i .i64)] .bo p.1 p.2=SV.pf [(.i .i64)] .bo p.1 p.2)∧(lI l)=(lI l)∧(d2+(1:Int))=d3∧True)∧(True))∧q2 d3))) ∧
  ((decide (d2<(lI l)))=false →
   ((-1:Int)=(Q2z l p.2)∧(True)))) d20
def Xe:Cx:=⟨[],[],19,[],0,[],[],[],[],false,[],[],[],[]⟩
def Kq (l:List Int) (p:(Int→Prop)×(Int→Bool)):List (Nat×LoopAnn):=[(0,⟨Unit,Int,[0,1,7,8],fun e x=>[.val (.list (.i .i64)) l,.pf [(.i .i64)] .bo p.1 p.2,.val (.i .i64) (((List.length l):Nat):Int),.val (.i .i64) x],fun e x=>[]⟩)]
set_option maxRecDepth 100000 in
theorem KG (d:List Int×((Int→Prop)×(Int→Bool))):gwp (Xe) (Kq d.1 d.2) c77 0 (WE [.tmp 4] (JW d) (JX d)) (Qp 19 (AL.can Xa d))=Za d.1 d.2:=by kernel_rfl
abbrev KA:Prop:=OkC Tryz.prog 77 ZU
theorem Ku (h:∀ (l:List Int) (p:(Int→Prop)×(Int→Bool)),(l.length≤1000000∧∀ x∈l,p.1 x)→Za l p):OkC Tryz.prog 77 ZU :=
 Qz Q9x mixed (C:=Xe) (V:=fun (d:List Int×((Int→Prop)×(Int→Bool)))=>Za d.1 d.2) ⟨.nil,XsOk.nil,ItsOk.nil,YlOk.nil,IysOk.nil,XfOk.nil⟩ (KG) fun d hp=>h d.1 d.2 hp
theorem Q2s {l:List Int}{p:Int→Bool}{k:Nat}(hk:k<l.length) (h:p l[k]=true) (hJ:(l.take k).any p=false):Q2z l p=k:=by
 have:l.findIdx? p=some k:=by rw[List.findIdx?_eq_some_iff_getElem];refine⟨hk,h,fun j hj=>?_⟩;have hn:=List.any_eq_false.1 hJ l[j] (List.mem_take_iff_getElem.2 ⟨j,by omega,rfl⟩);simpa using hn
 simp[Q2z,this]
theorem Q2n {l:List Int}{p:Int→Bool}(hJ:l.any p=false):Q2z l p=-1:=by
 have:l.findIdx? p=none:=by rw[List.findIdx?_eq_none_iff];intro x hx;have:=List.any_eq_false.1 hJ x hx;simpa using this
 simp[Q2z,this]
theorem EO (l:List Int) (p:Int→Bool):decide (Q2z l p≥0)=l.any p:=by
 unfold Q2z;cases h:l.findIdx? p with
 |none =>
  have:=List.findIdx?_eq_none_iff.1 h;have:l.any p=false:=by rw[List.any_eq_false];intro x hx;simp[this x hx]
  rw[this];rfl
 |some i =>obtain⟨h1,h2,_⟩:=List.findIdx?_eq_some_iff_getElem.1 h;rw[List.any_eq_true.2 ⟨l[i],List.getElem_mem h1,h2⟩];simp
theorem KK:KA:=Ku fun l p hp=>by
 unfold Za;(try delta lI gD sT I64);simp only[true_and,and_true,exists_eq_left',exists_const,decide_eq_true_eq,decide_eq_false_iff_not];refine LoopP.count l.length (fun k=>(l.take k).any p.2=false) (by simp) fun k bE hJ q hq=>?_;simp only[Int.toNat_natCast,Int.ofNat_lt,QM];refine⟨fun ah=>?_,fun bg=>?_⟩
 ·rw[Qa ah];refine⟨by omega,ah,hp.2 _ (List.getElem_mem ah),fun hx=>?_,fun hx=>⟨by omega,hq ah ?_⟩⟩
  ·rw[Q2s ah hx hJ]
  ·rw[Qu ah,List.any_append,hJ];simp[hx]
 ·rw[List.take_of_length_le (by omega)] at hJ;rw[Q2n hJ]
def Jz:AL (List Int×((Int→Prop)×(Int→Bool))):=(.cons (.k (.list (.i .i64))) (.one (.fn [(.i .i64)] .bo)))
def Y2 (d:List Int×((Int→Prop)×(Int→Bool))):Prop:=d.1.length≤1000000∧∀ x∈d.1,d.2.1 x
def Jp (d:List Int×((Int→Prop)×(Int→Bool))):SV:=.val .bo (d.1.any d.2.2)
def Jt (d:List Int×((Int→Prop)×(Int→Bool))):List OB:=[]
def Qo:CSp:=W8 Jz Y2 Jp Jt
def Zl (l:List Int) (p:(Int→Prop)×(Int→Bool)):Prop :=
 (l.length≤1000000∧∀ x∈l,(fun (x1:Int)=>p.1 x1) x)∧((decide ((Q2z l (fun (x1:Int)=>(p.2 x1)))≥(0:Int)))=(l.any p.2)∧(True))
def Jy:Cx:=⟨[],[(77,ZU)],9,[],0,[],[],[],[],false,[],[],[],[]⟩
def Yu (l:List Int) (p:(Int→Prop)×(Int→Bool)):List (Nat×LoopAnn):=[]
set_option maxRecDepth 100000 in
theorem Yr (d:List Int×((Int→Prop)×(Int→Bool))):gwp (Jy) (Yu d.1 d.2) c54 0 (WE [.tmp 4] (Jp d) (Jt d)) (Qp 9 (AL.can Jz d))=Zl d.1 d.2:=by kernel_rfl
abbrev Yl:Prop:=OkC Tryz.prog 54 Qo
theorem Yv (h:∀ (l:List Int) (p:(Int→Prop)×(Int→Bool)),(l.length≤1000000∧∀ x∈l,p.1 x)→Zl l p):OkC Tryz.prog 54 Qo :=
 Qz Q9y mixed (C:=Jy) (V:=fun (d:List Int×((Int→Prop)×(Int→Bool)))=>Zl d.1 d.2) ⟨(.cons KK .nil),XsOk.nil,ItsOk.nil,YlOk.nil,IysOk.nil,XfOk.nil⟩ (Yr) fun d hp=>h d.1 d.2 hp
theorem QQ:Yl:=Yv fun l p hp=>by exact⟨hp,EO l p.2,trivial⟩
def M4:AL (Int×Int×Int):=(.cons (.k (.i .i64)) (.cons (.ptr (.one (.k (.i .i64)))) (.one (.ptr (.one (.k (.i .i64)))))))
def Pe (d:Int×Int×Int):Prop:=True
def N2 (d:Int×Int×Int):SV:=.val .bo (decide (d.1<d.2.1)||decide (d.2.2<d.1))
def N5 (d:Int×Int×Int):List OB:=[]
def VE:CSp:=W8 M4 Pe N2 N5
def KM (n:Int) (a:Int) (b:Int):Prop :=
 (((decide (n<a))||(decide (n > b)))=(decide (n<a)||decide (b<n))∧(True))
def ML:Cx:=⟨[],[],13,[],0,[],[],[],[],false,[],[],[],[]⟩
def R1 (n:Int) (a:Int) (b:Int):List (Nat×LoopAnn):=[]
set_option maxRecDepth 100000 in
theorem Rn (d:Int×Int×Int):gwp (ML) (R1 d.1 d.2.1 d.2.2) c74 0 (WE [.tmp 4] (N2 d) (N5 d)) (Qp 13 (AL.can M4 d))=KM d.1 d.2.1 d.2.2:=by kernel_rfl
abbrev TU:Prop:=OkC Tryz.prog 74 VE
theorem T5 (h:∀ (n:Int) (a:Int) (b:Int),(True)→KM n a b):OkC Tryz.prog 74 VE :=
 Qz Q8e mixed (C:=ML) (V:=fun (d:Int×Int×Int)=>KM d.1 d.2.1 d.2.2) ⟨.nil,XsOk.nil,ItsOk.nil,YlOk.nil,IysOk.nil,XfOk.nil⟩ (Rn) fun d hp=>h d.1 d.2.1 d.2.2 hp
theorem PN:TU:=T5 fun n a b _=>by exact⟨rfl,trivial⟩
def Mb:AL (Int×Int×Int):=(.cons (.k (.i .i64)) (.cons (.ptr (.one (.k (.i .i64)))) (.one (.ptr (.one (.k (.i .i64)))))))
def P3 (d:Int×Int×Int):Prop:=True
def N6 (d:Int×Int×Int):SV:=.val .bo (decide (d.1<d.2.1)||decide (d.2.2<d.1))
def Na (d:Int×Int×Int):List OB:=[]
def VL:CSp:=W8 Mb P3 N6 Na
def KJ (n:Int) (a:Int) (b:Int):Prop :=
 (((decide (n<a))||(decide (n > b)))=(decide (n<a)||decide (b<n))∧(True))
def Mf:Cx:=⟨[],[],13,[],0,[],[],[],[],false,[],[],[],[]⟩
def P_ (n:Int) (a:Int) (b:Int):List (Nat×LoopAnn):=[]
set_option maxRecDepth 100000 in
theorem T0 (d:Int×Int×Int):gwp (Mf) (P_ d.1 d.2.1 d.2.2) c79 0 (WE [.tmp 4] (N6 d) (Na d)) (Qp 13 (AL.can Mb d))=KJ d.1 d.2.1 d.2.2:=by kernel_rfl
abbrev TD:Prop:=OkC Tryz.prog 79 VL
theorem TF (h:∀ (n:Int) (a:Int) (b:Int),(True)→KJ n a b):OkC Tryz.prog 79 VL :=
 Qz Q8x mixed (C:=Mf) (V:=fun (d:Int×Int×Int)=>KJ d.1 d.2.1 d.2.2) ⟨.nil,XsOk.nil,ItsOk.nil,YlOk.nil,IysOk.nil,XfOk.nil⟩ (T0) fun d hp=>h d.1 d.2.1 d.2.2 hp
theorem Rm:TD:=TF fun n a b _=>by exact⟨rfl,trivial⟩
def Bg:AL (Int×Int×List Int):=(.cons (.k (.i .i64)) (.cons (.k (.i .i64)) (.one (.k (.list (.i .i64))))))
def RQ (d:Int×Int×List Int):Prop:=d.2.2.length≤1000000
def GM (d:Int×Int×List Int):SV:=.val .bo (!(d.2.2.any fun n=>decide (n<d.1)||decide (d.2.1<n)))
def GQ (d:Int×Int×List Int):List OB:=[]
def N_:CSp:=W8 Bg RQ GM GQ
def Ut (a:Int) (b:Int) (l:List Int):Prop :=
 (l.length≤1000000∧∀ x∈l,(fun (x1:Int)=>True) x)∧((!(l.any (fun (x1:Int)=>(decide (x1<a)||decide (b<x1)))))=(!(l.any fun n=>decide (n<a)||decide (b<n)))∧(True))
def BS:Cx:=⟨[],[(54,Qo),(79,VL)],11,[],0,[],[],[],[],false,[],[],[],[]⟩
def Cs (a:Int) (b:Int) (l:List Int):List (Nat×LoopAnn):=[]
set_option maxRecDepth 100000 in
theorem Cz (d:Int×Int×List Int):gwp (BS) (Cs d.1 d.2.1 d.2.2) c57 0 (WE [.tmp 6] (GM d) (GQ d)) (Qp 11 (AL.can Bg d))=Ut d.1 d.2.1 d.2.2:=by kernel_rfl
abbrev LK:Prop:=OkC Tryz.prog 57 N_
theorem CC (h:∀ (a:Int) (b:Int) (l:List Int),(l.length≤1000000)→Ut a b l):OkC Tryz.prog 57 N_ :=
 Qz Q7v mixed (C:=BS) (V:=fun (d:Int×Int×List Int)=>Ut d.1 d.2.1 d.2.2) ⟨(.cons QQ (.cons Rm .nil)),XsOk.nil,ItsOk.nil,YlOk.nil,IysOk.nil,XfOk.nil⟩ (Cz) fun d hp=>h d.1 d.2.1 d.2.2 hp
theorem C1:LK:=CC fun a b l h=>by exact⟨⟨h,fun _ _=>trivial⟩,rfl,trivial⟩
def Be:AL (Int×Int×List Int):=(.cons (.k (.i .i64)) (.cons (.k (.i .i64)) (.one (.k (.list (.i .i64))))))
def RG (d:Int×Int×List Int):Prop:=d.2.2.length≤1000000
def GL (d:Int×Int×List Int):SV:=.val .bo (!(d.2.2.any fun n=>decide (n<d.1)||decide (d.2.1<n)))
def GD (d:Int×Int×List Int):List OB:=[]
def Mj:CSp:=W8 Be RG GL GD
def UH (a:Int) (b:Int) (l:List Int):Prop :=
 (l.length≤1000000∧∀ x∈l,(fun (x1:Int)=>True) x)∧((!(l.any (fun (x1:Int)=>(decide (x1<a)||decide (b<x1)))))=(!(l.any fun n=>decide (n<a)||decide (b<n)))∧(True))
def Bp:Cx:=⟨[],[(54,Qo),(74,VE)],11,[],0,[],[],[],[],false,[],[],[],[]⟩
def LF (a:Int) (b:Int) (l:List Int):List (Nat×LoopAnn):=[]
set_option maxRecDepth 100000 in
theorem LV (d:Int×Int×List Int):gwp (Bp) (LF d.1 d.2.1 d.2.2) c51 0 (WE [.tmp 6] (GL d) (GD d)) (Qp 11 (AL.can Be d))=UH d.1 d.2.1 d.2.2:=by kernel_rfl
abbrev Ch:Prop:=OkC Tryz.prog 51 Mj
theorem CF (h:∀ (a:Int) (b:Int) (l:List Int),(l.length≤1000000)→UH a b l):OkC Tryz.prog 51 Mj :=
 Qz Q8k mixed (C:=Bp) (V:=fun (d:Int×Int×List Int)=>UH d.1 d.2.1 d.2.2) ⟨(.cons QQ (.cons PN .nil)),XsOk.nil,ItsOk.nil,YlOk.nil,IysOk.nil,XfOk.nil⟩ (LV) fun d hp=>h d.1 d.2.1 d.2.2 hp
theorem Lw:Ch:=CF fun a b l h=>by exact⟨⟨h,fun _ _=>trivial⟩,rfl,trivial⟩
def HP:AL (Int×List Int):=(.one (.agg (.cons (.k (.i .i64)) (.one (.k (.list (.i .i64)))))))
def LL (d:Int×List Int):Prop:=d.2.length≤1000000
def B4 (d:Int×List Int):SV:=.val (.i .i64) (ZC d.1 d.2)
def BM (d:Int×List Int):List OB:=[]
def Ui:CSp:=W8 HP LL B4 BM
def Vq (hk:Int) (lw:List Int):Prop :=
 ([hk].length≤1000000)∧((!(!([hk].any fun n=>decide (n<(1:Int))||decide ((24:Int)<n))))=true →
  ((2:Int)=(ZC hk lw)∧(True))) ∧
 ((!(!([hk].any fun n=>decide (n<(1:Int))||decide ((24:Int)<n))))=false →
  ((decide ((lI lw) > (96:Int)))=true →
   ((5:Int)=(ZC hk lw)∧(True))) ∧
  ((decide ((lI lw) > (96:Int)))=false →
   (((lI lw)==(0:Int))=true →
    ((7:Int)=(ZC hk lw)∧(True))) ∧
   (((lI lw)==(0:Int))=false →
    (I64 (hk-(1:Int)))∧(lw.length≤1000000)∧((!(!(lw.any fun n=>decide (n<(0:Int))||decide ((hk-(1:Int))<n))))=true →
     ((2:Int)=(ZC hk lw)∧(True))) ∧
    ((!(!(lw.any fun n=>decide (n<(0:Int))||decide ((hk-(1:Int))<n))))=false →
     ((0:Int)=(ZC hk lw)∧(True))))))
def HS:Cx:=⟨[(3,(.i .i64))],[(57,N_)],27,[],0,[],[],[],[],false,[],[],[],[]⟩
def AW (hk:Int) (lw:List Int):List (Nat×LoopAnn):=[]
set_option maxRecDepth 100000 in
theorem AI (d:Int×List Int):gwp (HS) (AW d.1 d.2) c40 0 (WE [.tmp 2] (B4 d) (BM d)) (Qp 27 (AL.can HP d))=Vq d.1 d.2:=by kernel_rfl
abbrev Es:Prop:=OkC Tryz.prog 40 Ui
theorem Ey (h:∀ (hk:Int) (lw:List Int),(lw.length≤1000000)→Vq hk lw):OkC Tryz.prog 40 Ui :=
 Qz Q87 mixed (C:=HS) (V:=fun (d:Int×List Int)=>Vq d.1 d.2) ⟨(.cons C1 .nil),XsOk.nil,ItsOk.nil,YlOk.nil,IysOk.nil,XfOk.nil⟩ (AI) fun d hp=>h d.1 d.2 hp
theorem nI (n a b:Int):(!inI n a b)=(decide (n<a)||decide (b<n)):=by simp only[inI,Bool.not_and];by_cases h1:a≤n<;>by_cases h2:n≤b<;>simp[h1,h2]<;>omega
theorem HR:Es:=Ey fun hk lw hl=>by
 unfold Vq;(try delta lI gD sT I64);simp only[and_true,decide_eq_true_eq,decide_eq_false_iff_not,beq_iff_eq,ne_eq,beq_eq_false_iff_ne,gt_iff_lt,Bool.not_not];simp only[←nI];refine⟨by simp,fun h1=>by simp at h1;simp[ZC,h1],fun h1=>⟨fun h2=>?_,fun h2=>⟨fun h3=>?_,fun h3=>?_⟩⟩⟩;all_goals simp only[List.any_cons,List.any_nil,Bool.or_false,Bool.not_eq_false'] at h1
 ·have:96<lw.length:=by omega
  simp[ZC,h1,this]
 ·have h3:lw.length=0:=by omega
  simp[ZC,h1,h3]
 have g8:¬ 96<lw.length:=by omega
 have hU:¬ lw.length=0:=by omega
 have hi:1≤hk∧hk≤24:=by simpa [inI] using h1
 have oE:ZC hk lw=if lw.any (fun x=>!inI x 0 (hk-1)) then 2 else 0:=by simp only[ZC,h1,g8,hU];simp
 rw[oE];simp only[QM];refine⟨by omega,by omega,fun h=>by rw[if_pos h],fun h=>by rw[h];rfl⟩
def HA:AL ((Int×List Int)×List Int):=(.cons (.agg (.cons (.k (.i .i64)) (.one (.k (.list (.i .i64)))))) (.one (.k (.list (.i .i64)))))
def C7 (d:(Int×List Int)×List Int):Prop:=d.1.2.length≤110∧d.2.length≤110
def Bj (d:(Int×List Int)×List Int):SV:=.val (.i .i64) (ZS d.1.1 d.1.2 d.2)
def Bs (d:(Int×List Int)×List Int):List OB:=[]
def Uv:CSp:=W8 HA C7 Bj Bs
def Vn (hk:Int) (lw:List Int) (l:List Int):Prop :=
 (lw.length≤1000000)∧(((ZC hk lw) != (0:Int))=true →
  ((ZC hk lw)=(ZS hk lw l)∧(True))) ∧
 (((ZC hk lw) != (0:Int))=false →
  (((lI l) != (lI lw))=true →
   ((4:Int)=(ZS hk lw l)∧(True))) ∧
  (((lI l) != (lI lw))=false →
   (I64 ((lI lw)-(1:Int)))∧(l.length≤1000000)∧((!(!(l.any fun n=>decide (n<(-1:Int))||decide (((lI lw)-(1:Int))<n))))=true →
    ((2:Int)=(ZS hk lw l)∧(True))) ∧
   ((!(!(l.any fun n=>decide (n<(-1:Int))||decide (((lI lw)-(1:Int))<n))))=false →
    ((0:Int)=(ZS hk lw l)∧(True)))))
def Hy:Cx:=⟨[],[(40,Ui),(51,Mj)],26,[],0,[],[],[],[],false,[],[],[],[]⟩
def E8 (hk:Int) (lw:List Int) (l:List Int):List (Nat×LoopAnn):=[]
set_option maxRecDepth 100000 in
theorem E4 (d:(Int×List Int)×List Int):gwp (Hy) (E8 d.1.1 d.1.2 d.2) c31 0 (WE [.tmp 4] (Bj d) (Bs d)) (Qp 26 (AL.can HA d))=Vn d.1.1 d.1.2 d.2:=by kernel_rfl
abbrev A3:Prop:=OkC Tryz.prog 31 Uv
theorem Ex (h:∀ (hk:Int) (lw:List Int) (l:List Int),(lw.length≤110∧l.length≤110)→Vn hk lw l):OkC Tryz.prog 31 Uv :=
 Qz Z0j mixed (C:=Hy) (V:=fun (d:(Int×List Int)×List Int)=>Vn d.1.1 d.1.2 d.2) ⟨(.cons HR (.cons Lw .nil)),XsOk.nil,ItsOk.nil,YlOk.nil,IysOk.nil,XfOk.nil⟩ (E4) fun d hp=>h d.1.1 d.1.2 d.2 hp
theorem HH:A3:=Ex fun hk lw l hl=>by
 unfold Vn;(try delta lI gD sT I64);simp only[and_true,bne_iff_ne,ne_eq,bne_eq_false_iff_eq,Bool.not_not];simp only[←nI];refine⟨by omega,fun h1=>by simp[ZS,h1],fun h1=>⟨fun h2=>?_,fun h2=>?_⟩⟩
 ·have:¬ l.length=lw.length:=by omega
  simp[ZS,h1,this]
 have h2:l.length=lw.length:=by omega
 have oE:ZS hk lw l=if l.any (fun x=>!inI x (-1) (lw.length-1)) then 2 else 0:=by simp[ZS,h1,h2]
 rw[oE];simp only[QM];refine⟨by omega,by omega,fun h=>by rw[if_pos h],fun h=>by rw[h];rfl⟩
def XE:AL (Unit):=.nil
def V1 (xs:List Int) (nl:Bool) (d:Unit):Prop:=xs.length≤1000000
def Xq (xs:List Int) (nl:Bool) (d:Unit):SV:=.tup []
def Xi (xs:List Int) (nl:Bool) (d:Unit):List Int:=(List.reverse xs)
def Jr:XSp:=Fq Q5a (OE 3 (.i .i64) XE V1 Xq Xi)
def J5 (xs:List Int) (nl:Bool) :Prop:=∀ vals:List Value,
 (I64 ((lI xs)-(1:Int)))∧∃ (e3:Unit) (d30:(List Int)×Int×Int),((True∧(0:Int)=d30.2.1∧((lI xs)-(1:Int))=d30.2.2∧True)∧((xs=d30.1∧nl=nl)∧(vals=vals∧(True∧(([]:List SV)=[])))∧True)) ∧
 LoopP (fun (d3:(List Int)×Int×Int) (q3:((List Int)×Int×Int)→Prop) =>
  ((decide (d3.2.1<d3.2.2))=true →
   (0≤d3.2.2)∧(d3.2.2<(List.length d3.1))∧(0≤d3.2.1)∧(d3.2.1<(List.length d3.1))∧(0≤d3.2.1)∧(d3.2.1<(List.length d3.1))∧(0≤d3.2.2)∧(d3.2.2<(List.length (sT d3.1 d3.2.1 (gD d3.1 d3.2.2 0))))∧(I64 (d3.2.1+(1:Int)))∧(I64 (d3.2.2-(1:Int)))∧(∃ d4:(List Int)×Int×Int,((True∧(d3.2.1+(1:Int))=d4.2.1∧(d3.2.2-(1:Int))=d4.2.2∧True)∧(((sT (sT d3.1 d3.2.1 (gD d3.1 d3.2.2 0)) d3.2.2 (gD d3.1 d3.2.1 0))=d4.1∧nl=nl)∧(vals=vals∧(True∧(([]:List SV)=[])))∧True))∧q3 d4)) ∧
  ((decide (d3.2.1<d3.2.2))=false →
   (vals=vals∧(True∧(([]:List SV)=[]))∧((([]:List SV)=[]))∧(d3.1=(List.reverse xs)∧nl=nl)))) d30
def XB:Cx:=⟨[],[],28,[],0,[],[],[],[],false,[],[],[],[]⟩
def XN (xs:List Int) (nl:Bool)  (vals:List Value):List (Nat×LoopAnn):=[(0,⟨Unit,(List Int)×Int×Int,[0,2,3],fun e x=>[.lst 0,.val (.i .i64) x.2.1,.val (.i .i64) x.2.2],fun e x=>[(0,.slot 0,.lst 3 (.i .i64) x.1 nl),(4000000,.key 4000000,.stk [.lst 0] vals)]⟩)]
set_option maxRecDepth 100000 in
theorem VB (xs:List Int) (nl:Bool) (d:Unit):(∀ vals,gwp XB (XN xs nl  vals) c35 0 (OZ vals [] (Xq xs nl d) (.lst 3 (.i .i64) (Xi xs nl d) nl) (.lst 0)) (N1 28 (.lst 0) (.lst 3 (.i .i64) xs nl) vals (AL.can XE d)))=J5 xs nl :=by kernel_rfl
abbrev VH:Prop:=XOk Tryz.prog 35 Jr
theorem Vv (h:∀ (xs:List Int) (nl:Bool) ,(xs.length≤1000000)→J5 xs nl ):XOk Tryz.prog 35 Jr :=
 Py Z0y mixed Q26 (C:=XB) ⟨.nil,XsOk.nil,ItsOk.nil,YlOk.nil,IysOk.nil,XfOk.nil⟩ (L:=fun xs nl (d:Unit) vals=>XN xs nl  vals) (V:=fun xs nl (d:Unit)=>J5 xs nl ) VB fun xs nl d hp=>h xs nl  hp
theorem V0:VH:=Vv fun xs nl hl vals=>by
 (try delta lI gD sT I64)
 simp only[true_and,and_true,exists_const,decide_eq_true_eq,decide_eq_false_iff_not,QM];refine⟨by omega,(xs,0,(xs.length:Int)-1),⟨⟨rfl,rfl⟩,rfl⟩,?_⟩;refine⟨fun d=>∃ i:Nat,d.2.1=i∧d.2.2=(xs.length:Int)-1-i∧2*i≤xs.length+1∧d.1.length=xs.length∧∀ k,k<xs.length→d.1[k]?=if k<i∨xs.length≤k+i then xs[xs.length-1-k]? else xs[k]?,fun d=>xs.length-2*d.2.1.toNat,⟨0,rfl,by simp,by omega,rfl,fun k hk=>by rw[if_neg (by omega)]⟩,?_⟩;rintro⟨ys,a,b⟩ ⟨i,ha,hb,h1,h2,h3⟩;simp only at ha hb h2 h3;subst ha;subst hb;refine⟨fun ah=>?_,fun bg=>?_⟩
 ·dsimp only at ah ⊢;have hi:i<xs.length:=by omega
  have hj:xs.length-1-i<xs.length:=by omega
  have nB:((xs.length:Int)-1-i).toNat=xs.length-1-i:=by omega
  simp only[Int.toNat_natCast,nB,List.length_set,h2];refine⟨by omega,by omega,by omega,by omega,by omega,by omega,by omega,by omega,by omega,by omega,(_,_,_),⟨⟨rfl,rfl⟩,rfl⟩,⟨i+1,by simp,by simp;omega,by omega,by simp[h2],fun k hk=>?_⟩,by simp;omega⟩;simp only[List.getElem?_set,List.length_set,h2];have e1:=h3 i hi;have e2:=h3 (xs.length-1-i) hj;rw[if_neg (by omega)] at e1 e2;have g1:ys.getD i 0=xs[i]:=by rw[List.getD_eq_getElem?_getD,e1,List.getElem?_eq_getElem hi];rfl
  have g2:ys.getD (xs.length-1-i) 0=xs[xs.length-1-i]:=by rw[List.getD_eq_getElem?_getD,e2,List.getElem?_eq_getElem hj];rfl
  rw[g1,g2];by_cases k1:xs.length-1-i=k
  ·subst k1;rw[if_pos rfl,if_pos hj,if_pos (by omega)];have:xs.length-1-(xs.length-1-i)=i:=by omega
   rw[this,List.getElem?_eq_getElem hi]
  ·rw[if_neg k1];by_cases k2:i=k
   ·subst k2;rw[if_pos rfl,if_pos hi,if_pos (by omega),List.getElem?_eq_getElem hj]
   ·rw[if_neg k2,h3 k hk];by_cases k3:k<i∨xs.length≤k+i
    ·rw[if_pos k3,if_pos (by omega)]
    ·rw[if_neg k3,if_neg (by omega)]
 ·dsimp only at bg ⊢;apply List.ext_getElem?;intro k;by_cases hk:k<xs.length
  ·rw[h3 k hk,List.getElem?_reverse hk];by_cases k3:k<i∨xs.length≤k+i
   ·rw[if_pos k3]
   ·rw[if_neg k3];have:xs.length-1-k=k:=by omega
    rw[this]
  ·rw[List.getElem?_eq_none (by omega),List.getElem?_eq_none (by simp;omega)]
end Go.Proofs.Tryz
set_option linter.unusedVariables false
namespace Go.Proofs.Tryz
open Go Go.V Go.Proofs
theorem Q9f (lw l:List Int) (n:Nat):(Vh lw l n).length≤n:=by simp only[Vh,List.length_map];exact Nat.le_trans (List.length_filter_le _ _) (by simp)
theorem Sz {lw l:List Int}{n:Nat}{x:Int}:x∈Vh lw l n↔∃ w:Nat,w<n∧stays lw l w=false∧x=w:=by
 simp only[Vh,List.mem_map,List.mem_filter,List.mem_range,Bool.not_eq_true'];constructor
 ·rintro⟨w,⟨h1,h2⟩,rfl⟩;exact⟨w,h1,h2,rfl⟩
 ·rintro⟨w,h1,h2,rfl⟩;exact⟨w,⟨h1,h2⟩,rfl⟩
theorem Ib (lw a:List Int) (w:Int):(step lw a w).length=a.length:=by unfold step;split<;>simp
theorem Pz (lw:List Int):∀ (W a:List Int),(W.foldl (step lw) a).length=a.length
 |[],a=>rfl
 |w::W,a=>by rw[List.foldl_cons,Pz lw W,Ib]
theorem Sj {α β:Type}{f:β→α→β}{W:List α}{a:β}{i:Nat}(hi:i<W.length):(W.take (i+1)).foldl f a=f ((W.take i).foldl f a) W[i]:=by rw[Qu hi,List.foldl_append];rfl
theorem PF {n e:Nat}{p:Nat→Bool}(he:e<n) (hp:p e=true) (hn:∀ k,k<e→p k=false):(List.range n).find? p=some e:=by rw[List.find?_eq_some_iff_getElem];exact⟨hp,e,by simpa using he,by simp,fun j hj=>by simp[hn j hj]⟩
def st (lw l:List Int) (w k:Nat):Bool:=isRight lw l w&&(List.range k).all fun j=>decide (j≤w)||(l.getD j 0 != l.getD w 0||!isRight lw l j)
theorem I5 (lw a:List Int) {w:Int}{k:Nat}(hk:w.toNat≠k):(step lw a w).getD k 0=a.getD k 0:=by
 unfold step;split
 ·simp only[List.getD_eq_getElem?_getD,List.getElem?_set_ne hk]
 ·rfl
theorem FX (lw:List Int) {k:Nat}:∀ (W a:List Int),(∀ w∈W,w.toNat≠k)→(W.foldl (step lw) a).getD k 0=a.getD k 0
 |[],a,_=>rfl
 |w::W,a,h=>by rw[List.foldl_cons,FX lw W _ fun x hx=>h x (List.mem_cons_of_mem _ hx),I5 lw a (h w List.mem_cons_self)]
theorem Z18 (lw l:List Int) (n:Nat):(Vh lw l n).Pairwise (·<·):=by
 simp only[Vh];rw[List.pairwise_map];refine List.Pairwise.filter _ ?_;exact List.pairwise_lt_range.imp fun h=>by omega
theorem Q8t {lw l:List Int}{i:Nat}(hi:i<(Ql lw l).length):∀ x∈(Ql lw l).take i,x<(Ql lw l)[i]:=by intro x hx;obtain⟨j,hj,rfl⟩:=List.mem_take_iff_getElem.1 hx;have aM:j<i:=(Nat.lt_min.1 hj).1;exact List.pairwise_iff_getElem.1 (Z18 lw l l.length) j i (Nat.lt_trans aM hi) hi aM
theorem Z3v {lw l:List Int}{i:Nat}(hi:i<(Ql lw l).length):∃ w:Nat,w<l.length∧stays lw l w=false∧(Ql lw l)[i]=w:=Sz.1 (List.getElem_mem hi)
theorem Od {lw l:List Int}{i:Nat}(hi:i<(Ql lw l).length):(((Ql lw l).take i).foldl (step lw) (V3 lw l)).getD (Ql lw l)[i].toNat 0=-1:=by
 obtain⟨w,h1,h2,h3⟩:=Z3v hi;rw[FX]
 ·rw[h3];simp[V3,h1,h2]
 ·intro x hx;have:=Q8t hi x hx;obtain⟨w',k1,k2,k3⟩:=Sz.1 (List.mem_of_mem_take hx);omega
theorem OV (lw l:List Int) (i:Nat):(((Ql lw l).take i).foldl (step lw) (V3 lw l)).length=l.length:=by rw[Pz];simp[V3]
set_option maxHeartbeats 1000000 in
def Bq:AL ((Int×List Int)×List Int):=(.cons (.agg (.cons (.k (.i .i64)) (.one (.k (.list (.i .i64)))))) (.one (.k (.list (.i .i64)))))
def RS (d:(Int×List Int)×List Int):Prop:=d.1.2.length≤110∧d.2.length≤110
def Gq (d:(Int×List Int)×List Int):SV:=.tup [.lst 0,.lst 1,.val (.i .i64) (ZS d.1.1 d.1.2 d.2)]
def GU (d:(Int×List Int)×List Int):List OB:=[.lst 3 (.i .i64) (rdW d.1.1 d.1.2 d.2) (Z13 d.1.1 d.1.2 d.2),.lst 3 (.i .i64) (rdA d.1.1 d.1.2 d.2) (Z0z d.1.1 d.1.2 d.2)]
def M8:CSp:=W8 Bq RS Gq GU
def K7 (hk:Int) (lw:List Int) (l:List Int):Prop :=
 (lw.length≤110∧l.length≤110)∧(((ZS hk lw l) != (0:Int))=true →
  ((True∧True∧(ZS hk lw l)=ZS hk lw l∧(([]:List SV)=[]))∧(((rdW hk lw l)=[]∧(Z13 hk lw l)=true)∧((rdA hk lw l)=[]∧(Z0z hk lw l)=true)∧True))) ∧
 (((ZS hk lw l) != (0:Int))=false →
  (l≠[]∧l.length≤110)∧∀ w1:List Value,w1=w1∧(List.length l<4611686018427387904)∧∃ (e5:Unit) (d50:(List Int)×(List (Int×Bool))),((True∧True∧True∧True∧True∧True)∧((hk=hk∧lw=lw∧(([]:List SV)=[]))∧(True∧(([]:List SV)=[]))∧(d50.1=[]∧(List.isEmpty d50.1)=true)∧(l=l∧false=false)∧(hk=hk∧lw=lw∧l=l∧(([]:List SV)=[]))∧(True∧(([]:List SV)=[]))∧(([]:List (Int×Bool))=d50.2)∧True)) ∧
  Q5b (List.length l) (fun (k5:Nat) (d5:(List Int)×(List (Int×Bool))) (q5:((List Int)×(List (Int×Bool)))→Prop)=>∀ w5:List Value,
   (0≤((lI l)-1-(k5:Int))∧((lI l)-1-(k5:Int))<l.length∧l.length≤lw.length∧∀ x∈l,-1≤x∧x<lw.length)∧(((isRight lw l ((lI l)-1-(k5:Int)))&&(!(gq.aget (.i .i64) d5.2 (List.getD l (List.length l-1-k5) 0) false)))=true →
    w5=w5∧(∃ d6:(List Int)×(List (Int×Bool)),((True∧True∧True∧True∧True∧True)∧((hk=hk∧lw=lw∧(([]:List SV)=[]))∧(True∧(([]:List SV)=[]))∧(d5.1=d6.1∧(List.isEmpty d5.1)=(List.isEmpty d6.1))∧(l=l∧false=false)∧(hk=hk∧lw=lw∧l=l∧(([]:List SV)=[]))∧(True∧(([]:List SV)=[]))∧((CM (.i .i64) d5.2 (List.getD l (List.length l-1-k5) 0) true)=d6.2)∧True))∧q5 d6)) ∧
   (((isRight lw l ((lI l)-1-(k5:Int)))&&(!(gq.aget (.i .i64) d5.2 (List.getD l (List.length l-1-k5) 0) false)))=false →
    (((List.length d5.1)+(List.length [((lI l)-1-(k5:Int))]))*8≤70368744177664)∧w5=w5∧(∃ d7:(List Int)×(List (Int×Bool)),((True∧True∧True∧True∧True∧True)∧((hk=hk∧lw=lw∧(([]:List SV)=[]))∧(True∧(([]:List SV)=[]))∧((d5.1++[((lI l)-1-(k5:Int))])=d7.1∧false=(List.isEmpty d7.1))∧(l=l∧false=false)∧(hk=hk∧lw=lw∧l=l∧(([]:List SV)=[]))∧(True∧(([]:List SV)=[]))∧(d5.2=d7.2)∧True))∧q5 d7)))
  (fun (d8:(List Int)×(List (Int×Bool))) =>
   (d8.1.length≤1000000)∧∃ (e6:(List Int)×Int) (d110:(List Int)×(List (Int×Bool))×Int),((True∧True∧True∧True∧True∧(lI (List.reverse d8.1))=e6.2∧(0:Int)=d110.2.2∧True)∧((hk=hk∧lw=lw∧(([]:List SV)=[]))∧(True∧(([]:List SV)=[]))∧((List.reverse d8.1)=e6.1∧(List.isEmpty d8.1)=(List.isEmpty e6.1))∧(l=d110.1∧false=false)∧(True∧(([]:List SV)=[]))∧(d8.2=d110.2.1)∧True)) ∧
   LoopP (fun (d11:(List Int)×(List (Int×Bool))×Int) (sX:((List Int)×(List (Int×Bool))×Int)→Prop) =>
    ((decide (d11.2.2<e6.2))=true →
     (0≤d11.2.2)∧(d11.2.2<(List.length e6.1))∧∃ (bM:(List Int)×(List Int)×(List (Int×Bool))×Int×Int×Int) (oF:Int),((True∧True∧True∧True∧(gD e6.1 d11.2.2 0)=bM.2.2.2.1∧True∧e6.2=bM.2.2.2.2.1∧d11.2.2=bM.2.2.2.2.2∧lw=lw∧(lI lw)=(lI lw)∧(0:Int)=oF∧True)∧((hk=hk∧lw=lw∧(([]:List SV)=[]))∧(True∧(([]:List SV)=[]))∧(e6.1=bM.1∧(List.isEmpty e6.1)=(List.isEmpty bM.1))∧(d11.1=bM.2.1∧false=false)∧(True∧(([]:List SV)=[]))∧(d11.2.1=bM.2.2.1)∧True)) ∧
     LoopP (fun (d14:Int) (vt:(Int)→Prop) =>
      ((decide (d14<(lI lw)))=true →
       (0≤d14)∧(d14<(List.length lw))∧(0≤bM.2.2.2.1)∧(bM.2.2.2.1<(List.length lw))∧((((gD lw d14 0)==(gD lw bM.2.2.2.1 0))&&(!(gq.aget (.i .i64) bM.2.2.1 d14 false)))=true →
        (0≤bM.2.2.2.1)∧(bM.2.2.2.1<(List.length bM.2.1))∧(I64 (bM.2.2.2.2.2+(1:Int)))∧(∃ d15:(List Int)×(List (Int×Bool))×Int,((True∧True∧True∧True∧True∧bM.2.2.2.2.1=e6.2∧(bM.2.2.2.2.2+(1:Int))=d15.2.2∧True)∧((hk=hk∧lw=lw∧(([]:List SV)=[]))∧(True∧(([]:List SV)=[]))∧(bM.1=e6.1∧(List.isEmpty bM.1)=(List.isEmpty e6.1))∧((sT bM.2.1 bM.2.2.2.1 d14)=d15.1∧false=false)∧(True∧(([]:List SV)=[]))∧((CM (.i .i64) bM.2.2.1 d14 true)=d15.2.1)∧True))∧sX d15)) ∧
       ((((gD lw d14 0)==(gD lw bM.2.2.2.1 0))&&(!(gq.aget (.i .i64) bM.2.2.1 d14 false)))=false →
        (I64 (d14+(1:Int)))∧(∃ d16:Int,((True∧True∧True∧True∧bM.2.2.2.1=bM.2.2.2.1∧True∧bM.2.2.2.2.1=bM.2.2.2.2.1∧bM.2.2.2.2.2=bM.2.2.2.2.2∧lw=lw∧(lI lw)=(lI lw)∧(d14+(1:Int))=d16∧True)∧((hk=hk∧lw=lw∧(([]:List SV)=[]))∧(True∧(([]:List SV)=[]))∧(bM.1=bM.1∧(List.isEmpty bM.1)=(List.isEmpty bM.1))∧(bM.2.1=bM.2.1∧false=false)∧(True∧(([]:List SV)=[]))∧(bM.2.2.1=bM.2.2.1)∧True))∧vt d16))) ∧
      ((decide (d14<(lI lw)))=false →
       (I64 (bM.2.2.2.2.2+(1:Int)))∧(∃ d17:(List Int)×(List (Int×Bool))×Int,((True∧True∧True∧True∧True∧bM.2.2.2.2.1=e6.2∧(bM.2.2.2.2.2+(1:Int))=d17.2.2∧True)∧((hk=hk∧lw=lw∧(([]:List SV)=[]))∧(True∧(([]:List SV)=[]))∧(bM.1=e6.1∧(List.isEmpty bM.1)=(List.isEmpty e6.1))∧(bM.2.1=d17.1∧false=false)∧(True∧(([]:List SV)=[]))∧(bM.2.2.1=d17.2.1)∧True))∧sX d17))) oF) ∧
    ((decide (d11.2.2<e6.2))=false →
     ((True∧True∧(0:Int)=ZS hk lw l∧(([]:List SV)=[]))∧((e6.1=(rdW hk lw l)∧(List.isEmpty e6.1)=(Z13 hk lw l))∧(d11.1=(rdA hk lw l)∧false=(Z0z hk lw l))∧True)))) d110) d50)
def DL:Cx:=⟨[(3,(.i .i64)),(1000025,(.pair (.i .i64) .bo))],[(31,Uv),(32,JR),(34,XW)],86,[],0,[(33,XF),(35,Jr)],[(52,Z1l (.i .i64))],[],[],false,[],[],[],[]⟩
def Lr (hk:Int) (lw:List Int) (l:List Int):List (Nat×LoopAnn):=[(0,⟨Unit,(List Int)×(List (Int×Bool)),[2,4,5,8,9],fun e x=>[.box 2 0,.box 4 0,.lst 27,.box 8 0,.box 9 0],fun e x=>[(2,.slot 2,.cells [.val (.i .i64) hk,.val (.list (.i .i64)) lw] (some 28)),(4,.slot 4,.cells [.lst 46] (some 26)),(46,.cell 4 0,.lst 3 (.i .i64) x.1 (List.isEmpty x.1)),(27,.slot 5,.lst 3 (.i .i64) l false),(8,.slot 8,.cells [.val (.i .i64) hk,.val (.list (.i .i64)) lw,.val (.list (.i .i64)) l] (some 77)),(9,.slot 9,.cells [.map 25] (some 78)),(25,.cell 9 0,.map (.i .i64) .bo x.2)]⟩),
 (2,⟨(List Int)×Int,(List Int)×(List (Int×Bool))×Int,[2,4,5,9,49,50,51],fun e x=>[.box 2 0,.box 4 0,.lst 27,.box 9 0,.lst 46,.val (.i .i64) e.2,.val (.i .i64) x.2.2],fun e x=>[(2,.slot 2,.cells [.val (.i .i64) hk,.val (.list (.i .i64)) lw] (some 28)),(4,.slot 4,.cells [.lst 46] (some 26)),(46,.cell 4 0,.lst 3 (.i .i64) e.1 (List.isEmpty e.1)),(27,.slot 5,.lst 3 (.i .i64) x.1 false),(9,.slot 9,.cells [.map 25] (some 78)),(25,.cell 9 0,.map (.i .i64) .bo x.2.1)]⟩),
 (4,⟨(List Int)×(List Int)×(List (Int×Bool))×Int×Int×Int,Int,[2,4,5,9,13,49,50,51,56,57,58],fun e x=>[.box 2 0,.box 4 0,.lst 27,.box 9 0,.val (.i .i64) e.2.2.2.1,.lst 46,.val (.i .i64) e.2.2.2.2.1,.val (.i .i64) e.2.2.2.2.2,.val (.list (.i .i64)) lw,.val (.i .i64) (((List.length lw):Nat):Int),.val (.i .i64) x],fun e x=>[(2,.slot 2,.cells [.val (.i .i64) hk,.val (.list (.i .i64)) lw] (some 28)),(4,.slot 4,.cells [.lst 46] (some 26)),(46,.cell 4 0,.lst 3 (.i .i64) e.1 (List.isEmpty e.1)),(27,.slot 5,.lst 3 (.i .i64) e.2.1 false),(9,.slot 9,.cells [.map 25] (some 78)),(25,.cell 9 0,.map (.i .i64) .bo e.2.2.1)]⟩)]
set_option maxRecDepth 100000 in
theorem C9 (d:(Int×List Int)×List Int):gwp (DL) (Lr d.1.1 d.1.2 d.2) c11 0 (WE [.cell 4 false 1,.tmp 5,.tmp 6] (Gq d) (GU d)) (Qp 86 (AL.can Bq d))=K7 d.1.1 d.1.2 d.2:=by kernel_rfl
abbrev Ce:Prop:=OkC Tryz.prog 11 M8
theorem LN (h:∀ (hk:Int) (lw:List Int) (l:List Int),(lw.length≤110∧l.length≤110)→K7 hk lw l):OkC Tryz.prog 11 M8 :=
 Qz Q8j mixed (C:=DL) (V:=fun (d:(Int×List Int)×List Int)=>K7 d.1.1 d.1.2 d.2) ⟨(.cons HH (.cons UD (.cons Gh .nil))),(XsOk.cons Kh (XsOk.cons V0 XsOk.nil)),(ItsOk.cons (Z1u Q5z mixed) ItsOk.nil),YlOk.nil,IysOk.nil,XfOk.nil⟩ (C9) fun d hp=>h d.1.1 d.1.2 d.2 hp
theorem Ea:∀ {l m:List Int},l.Nodup→(∀ x∈l,x∈m)→l.length≤m.length
 |[],m,_,_=>Nat.zero_le _
 |x::l,m,hn,hs=>by have hx:=hs x List.mem_cons_self;rw[List.nodup_cons] at hn;have:=Ea (l:=l) (m:=m.erase x) hn.2 fun y hy=>(List.mem_erase_of_ne (by rintro rfl;exact hn.1 hy)).2 (hs y (List.mem_cons_of_mem _ hy));rw[List.length_erase_of_mem hx] at this;have:=List.length_pos_of_mem hx;simp only[List.length_cons];omega
theorem DU (a:Int) (b:Bool) (m:List (Int×Bool)) (e:Int) (d:Bool):gq.aget (.i .i64) ((a,b)::m) e d=if e=a then b else gq.aget (.i .i64) m e d:=by show (if (e==a)=true then b else gq.aget (.i .i64) m e d)=_;simp only[beq_iff_eq]
theorem Q13 (a:Int) (b:Bool) (m:List (Int×Bool)) (k:Int) (v:Bool):CM (.i .i64) ((a,b)::m) k v=if k=a then (k,v)::m else (a,b)::CM (.i .i64) m k v:=by show (if (k==a)=true then (k,v)::m else (a,b)::CM (.i .i64) m k v)=_;simp only[beq_iff_eq]
theorem Em (m:List (Int×Bool)) (k:Int) (v:Bool) (e:Int) (d:Bool):gq.aget (.i .i64) (CM (.i .i64) m k v) e d=if e=k then v else gq.aget (.i .i64) m e d:=by
 induction m with
 |nil=>exact DU k v [] e d
 |cons p m ih =>
  obtain⟨a,b⟩:=p;rw[Q13,DU];by_cases h:k=a
  ·subst h;rw[if_pos rfl,DU];split<;>rfl
  ·rw[if_neg h,DU,ih];by_cases h2:e=a
   ·subst h2;rw[if_pos rfl,if_neg (Ne.symm h),if_pos rfl]
   ·rw[if_neg h2,if_neg h2]
theorem Q3a (e:Int) (d:Bool):gq.aget (.i .i64) ([]:List (Int×Bool)) e d=d:=rfl
def okA (lw a:List Int):Prop:=a.length=lw.length∧∀ k:Nat,k<lw.length→a.getD k 0=-1∨∃ e:Nat,e<lw.length∧a.getD k 0=e∧lw.getD e 0=lw.getD k 0
theorem Im {lw a:List Int}(ha:okA lw a) {w:Nat}(hw:w<lw.length) (hl:a.getD w 0=-1):∃ e:Nat,e<lw.length∧Q60 lw a w e=true:=by
 obtain⟨ha,hv⟩:=ha;apply Classical.byContradiction;intro oG;have af:∀ e:Nat,e<lw.length→lw.getD e 0=lw.getD w 0→(e:Int)∈a:=fun e he hh=>by apply Classical.byContradiction;intro hn;refine oG ⟨e,he,?_⟩;simp only[Q60,Int.toNat_natCast,Bool.and_eq_true,beq_iff_eq,hh,true_and,Bool.not_eq_true'];simpa using hn
 let T:=(List.range lw.length).filter fun k=>lw.getD k 0==lw.getD w 0;have hT:∀ k,k∈T↔k<lw.length∧lw.getD k 0=lw.getD w 0:=fun k=>by simp[T]
 have fx:((-1:Int)::T.map fun (k:Nat)=>(k:Int)).Nodup:=by
  rw[List.nodup_cons];refine⟨fun h=>?_,?_⟩
  ·obtain⟨k,_,hk⟩:=List.mem_map.1 h;omega
  ·rw[List.Nodup,List.pairwise_map];exact(List.nodup_range.filter _).imp fun h h2=>h (by omega)
 have gP:∀ x∈((-1:Int)::T.map fun (k:Nat)=>(k:Int)),x∈T.map fun k=>a.getD k 0:=fun x hx=>by
  rcases List.mem_cons.1 hx with rfl|hx
  ·exact List.mem_map.2 ⟨w,(hT w).2 ⟨hw,rfl⟩,hl⟩
  ·obtain⟨e,he,rfl⟩:=List.mem_map.1 hx;obtain⟨jg,gY⟩:=(hT e).1 he;obtain⟨k,hk,aq⟩:=List.mem_iff_getElem.1 (af e jg gY);have mr:a.getD k 0=e:=by rw[Qa hk,aq]
   refine List.mem_map.2 ⟨k,(hT k).2 ⟨by omega,?_⟩,mr⟩;rcases hv k (by omega) with h|⟨e',h1,h2,h3⟩
   ·omega
   ·have:e'=e:=by omega
    subst this;rw[←h3,gY]
 have:=Ea fx gP;simp only[List.length_cons,List.length_map] at this;omega
theorem Q1l {lw a:List Int}(ha:okA lw a) (w:Nat):okA lw (step lw a w):=by
 refine⟨by rw[Ib,ha.1],fun k hk=>?_⟩;by_cases h:w=k
 ·subst h;unfold step;split
  ·rename_i e he;have h1:=List.find?_some he;have h2:=List.mem_of_find?_eq_some he;simp only[Q60,Int.toNat_natCast,Bool.and_eq_true,beq_iff_eq] at h1;refine .inr ⟨e,by simpa using h2,?_,h1.1⟩;simp[ha.1,hk]
  ·exact ha.2 w hk
 ·rw[I5 lw a (by simpa using h)];exact ha.2 k hk
theorem Q2c {lw l:List Int}(h2:l.length=lw.length) (h3:∀ x∈l,-1≤x∧x<lw.length):okA lw (V3 lw l):=by
 refine⟨by simp[V3,h2],fun k hk=>?_⟩;have bc:k<l.length:=by omega
 cases hs:stays lw l k with
 |false=>left;simp[V3,bc,hs]
 |true =>
  right;have hr:isRight lw l k=true:=by simp only[stays,Bool.and_eq_true] at hs;exact hs.1
  have hb:=h3 _ (List.getElem_mem bc);simp only[isRight,Int.toNat_natCast,Qa bc,Bool.and_eq_true,bne_iff_ne,ne_eq,beq_iff_eq] at hr;refine⟨l[k].toNat,by omega,?_,hr.2⟩;simp[V3,bc,hs];omega
theorem Q28 (lw l:List Int):Wb lw l l.length=Ql lw l:=by simp[Wb,Ql,Vh,List.range_eq_range']
theorem Q2r (lw l:List Int) {j:Nat}(hj:j<l.length):(Wb lw l (j+1)).reverse=(Wb lw l j).reverse++if stays lw l (l.length-1-j) then [] else [((l.length-1-j:Nat):Int)]:=by
 have e1:l.length-(j+1)=l.length-1-j:=by omega
 have e2:l.length-1-j+1=l.length-j:=by omega
 simp only[Wb,e1,List.range'_succ,e2,List.filter_cons];cases h:stays lw l (l.length-1-j)<;>simp[]
def Cl (lw l:List Int) (j:Nat) (e:Int):Bool:=(List.range l.length).any fun k=>decide (l.length-j≤k)&&(l.getD k 0==e&&isRight lw l k)
theorem Lm (lw l:List Int) {j:Nat}(hj:j<l.length):stays lw l (l.length-1-j)=(isRight lw l ((l.length-1-j:Nat):Int)&&!Cl lw l j (l.getD (l.length-1-j) 0)):=by
 simp only[stays,Cl,List.not_any_eq_all_not];congr 1;rw[Bool.eq_iff_iff,List.all_eq_true,List.all_eq_true];refine forall_congr' fun k=>imp_congr_right fun hk=>?_;have:decide (k≤l.length-1-j)=!decide (l.length-j≤k):=by
  by_cases h:k≤l.length-1-j
  ·have:¬ l.length-j≤k:=by omega
   simp[h,this]
  ·have:l.length-j≤k:=by omega
   simp[h,this]
 rw[this];simp only[Bool.not_and,bne]
theorem Li (lw l:List Int) {j:Nat}(hj:j<l.length) (e:Int):Cl lw l (j+1) e=(Cl lw l j e||(l.getD (l.length-1-j) 0==e&&isRight lw l ((l.length-1-j:Nat):Int))):=by
 rw[Bool.eq_iff_iff];simp only[Cl,Bool.or_eq_true,List.any_eq_true,Bool.and_eq_true,decide_eq_true_eq,List.mem_range];constructor
 ·rintro⟨k,h1,h2,h3⟩;by_cases h:k=l.length-1-j
  ·subst h;exact .inr h3
  ·exact .inl ⟨k,h1,by omega,h3⟩
 ·rintro (⟨k,h1,h2,h3⟩|h3)
  ·exact⟨k,h1,by omega,h3⟩
  ·exact⟨_,by omega,by omega,h3⟩
theorem He {lw l:List Int}{e:Int}:∀ n k,l.length-k≤n→k<l.length→l.getD k 0=e→isRight lw l k=true→∃ w,w<l.length∧l.getD w 0=e∧stays lw l w=true
 |0,k,h,hk,_,_=>by omega
 |n+1,k,h,hk,he,hr=>by
  by_cases hs:stays lw l k=true
  ·exact⟨k,hk,he,hs⟩
  ·simp only[stays,hr,Bool.true_and,Bool.not_eq_true,List.all_eq_false,List.mem_range,Bool.or_eq_false_iff,decide_eq_false_iff_not,Bool.not_eq_false',bne_eq_false_iff_eq,Nat.not_le] at hs;obtain⟨j,h1,h2⟩:=hs;exact He n j (by omega) h1 (by rw[h2.2.1,he]) h2.2.2
theorem Q0f {lw l:List Int}{e:Int}(he:0≤e):Cl lw l l.length e=(V3 lw l).contains e:=by
 rw[Bool.eq_iff_iff,List.contains_iff_mem];simp only[Cl,List.any_eq_true,List.mem_range,Bool.and_eq_true,decide_eq_true_eq,beq_iff_eq,V3,List.mem_map];constructor
 ·rintro⟨k,h1,_,h2,h3⟩;obtain⟨w,k1,k2,k3⟩:=He (l.length-k) k (Nat.le_refl _) h1 h2 h3;exact⟨w,k1,by rw[if_pos k3,k2]⟩
 ·rintro⟨w,k1,k2⟩;split at k2
  ·rename_i hs;refine⟨w,k1,by omega,k2,?_⟩;simp only[stays,Bool.and_eq_true] at hs;exact hs.1
  ·omega
set_option maxHeartbeats 1000000 in
theorem Ct:Ce:=LN fun hk lw l h=>by
 unfold K7;(try delta lI gD sT I64);simp only[true_and,and_true,exists_eq_left',exists_const,decide_eq_true_eq,decide_eq_false_iff_not,bne_iff_ne,ne_eq,bne_eq_false_iff_eq,QM,rdW,rdA,Z13,Z0z];refine⟨h,fun he=>?_,fun he=>?_⟩
 ·simp[he]
 ·obtain⟨h2,h0,h3⟩:=TO he;have aS:0<l.length:=by omega
  have aA:l≠[]:=List.length_pos_iff.1 aS;refine⟨⟨aA,h.2⟩,fun _=>⟨by omega,([],[]),?_,?_⟩⟩
  ·simp
  ·refine⟨fun j d=>j≤l.length∧d.1=(Wb lw l j).reverse∧∀ e,gq.aget (.i .i64) d.2 e false=Cl lw l j e,⟨by omega,by simp[Wb],fun e=>?_⟩,?_,?_⟩
   ·rw[Q3a];symm;simp only[Cl,List.any_eq_false,List.mem_range,Bool.and_eq_true,decide_eq_true_eq];intro k hk;omega
   ·rintro j ⟨ws,m⟩ hj ⟨jM,rfl,hm⟩;dsimp only at hm ⊢;intro _;have gG:((l.length:Int)-1-(j:Int))=((l.length-1-j:Nat):Int):=by omega
    have hlen:(Wb lw l j).length≤j:=by simp only[Wb,List.length_map];exact Nat.le_trans (List.length_filter_le _ _) (by simp)
    have mA:l.length-1-j<l.length:=by omega
    rw[gG,hm,←Lm lw l hj];refine⟨⟨by omega,by omega,by omega,h3⟩,fun hs=>?_,fun hs=>?_⟩
    ·refine⟨((Wb lw l j).reverse,CM (.i .i64) m (l.getD (l.length-1-j) 0) true),?_,by omega,?_,fun e=>?_⟩
     ·simp
     ·rw[Q2r lw l hj,hs];simp
     ·rw[Em,Li lw l hj,hm];have hr:isRight lw l ((l.length-1-j:Nat):Int)=true:=by simp only[stays,Bool.and_eq_true] at hs;exact hs.1
      rw[hr,Bool.and_true];by_cases h:e=l.getD (l.length-1-j) 0
      ·rw[if_pos h,←h];simp
      ·rw[if_neg h,beq_eq_false_iff_ne.2 (fun h'=>h h'.symm),Bool.or_false]
    ·refine⟨by simp only[List.length_reverse,List.length_singleton];omega,((Wb lw l j).reverse++[((l.length-1-j:Nat):Int)],m),?_,by omega,?_,fun e=>?_⟩
     ·simp
     ·rw[Q2r lw l hj,hs];simp
     ·rw[Li lw l hj,hm];rw[Lm lw l hj] at hs;cases hr:isRight lw l ((l.length-1-j:Nat):Int) with
      |false=>simp
      |true =>
       rw[hr] at hs;simp only[Bool.true_and,Bool.not_eq_false'] at hs;by_cases h:l.getD (l.length-1-j) 0=e
       ·rw[h] at hs;rw[hs];simp
       ·rw[beq_eq_false_iff_ne.2 h];simp
   ·rintro⟨ws,m⟩ ⟨_,rfl,hm⟩;have vu:(Wb lw l l.length).reverse.reverse=Ql lw l:=by rw[List.reverse_reverse,Q28]
    have sY:=Q9f lw l l.length;change (Ql lw l).length≤l.length at sY;have vw:(Wb lw l l.length).length≤l.length:=by rw[Q28];exact sY
    dsimp only at hm ⊢;rw[vu];refine⟨by simp;omega,(Ql lw l,((Ql lw l).length:Int)),(l,m,0),?_,?_⟩
    ·simp[Q28]
    ·refine⟨fun d=>∃ i:Nat,i≤(Ql lw l).length∧d.2.2=i∧d.1.length=l.length∧okA lw (((Ql lw l).take i).foldl (step lw) (V3 lw l)) ∧
       (∀ k:Nat,k<l.length→d.1.getD k 0=if (k:Int)∈(Ql lw l).drop i then l.getD k 0 else (((Ql lw l).take i).foldl (step lw) (V3 lw l)).getD k 0) ∧
       ∀ e:Int,0≤e→gq.aget (.i .i64) d.2.1 e false=(((Ql lw l).take i).foldl (step lw) (V3 lw l)).contains e,
      fun d=>(Ql lw l).length-d.2.2.toNat,⟨0,by omega,rfl,rfl,Q2c h2 h3,fun k hk=>?_,fun e he=>by rw[hm,Q0f he];rfl⟩,?_⟩
     ·have:(k:Int)∈Ql lw l↔stays lw l k=false:=by
       rw[Ql,Sz];exact⟨fun ⟨w,h1,h2,h3⟩=>by rw[show k=w by omega];exact h2,fun h=>⟨k,hk,h,rfl⟩⟩
      simp only[List.drop_zero,this];cases hs:stays lw l k<;>simp[V3,hk,hs]
     ·rintro⟨B,m',_⟩ ⟨i,hi,rfl,hB,aj,pK,mz⟩;dsimp only at hB pK mz ⊢;refine⟨fun ah=>?_,fun bg=>?_⟩
      ·have hi:i<(Ql lw l).length:=by omega
       obtain⟨w,nc,wG,rD⟩:=Z3v hi;have e7:=Od hi;have qL:=OV lw l i;have cw:=Sj (f:=step lw) (a:=V3 lw l) hi;rw[rD] at e7 cw;rw[Int.toNat_natCast] at e7;have iP:∀ k:Nat,(k:Int)∈(Ql lw l).drop i↔k=w∨(k:Int)∈(Ql lw l).drop (i+1):=fun k=>by rw[List.drop_eq_getElem_cons hi,List.mem_cons,rD,Int.natCast_inj]
       have fx:(w:Int)∉(Ql lw l).drop (i+1):=fun h=>by obtain⟨j,hj,ec⟩:=List.mem_iff_getElem.1 h;rw[List.length_drop] at hj;rw[List.getElem_drop] at ec;have:=List.pairwise_iff_getElem.1 (Z18 lw l l.length) i (i+1+j) hi (by change _<(Ql lw l).length;omega) (by omega);change (Ql lw l)[i]<(Ql lw l)[i+1+j] at this;omega
       generalize ((Ql lw l).take i).foldl (step lw) (V3 lw l)=a at *
       simp only[Int.toNat_natCast,Qa hi,rD];refine⟨by omega,by omega,(Ql lw l,B,m',(w:Int),((Ql lw l).length:Int),(i:Int)),0,?_,?_⟩
       ·simp
       ·refine LoopP.count lw.length (fun k=>∀ e',e'<k→Q60 lw a w e'=false) (fun _ h=>by omega) fun e hel oG q hq=>?_;dsimp only;refine⟨fun vz=>?_,fun vA=>?_⟩
        ·have hel:e<lw.length:=by omega
         have rE:((lw.getD e 0==lw.getD w 0)&&!gq.aget (.i .i64) m' e false)=Q60 lw a w e:=by rw[mz e (by omega)];rfl
         simp only[Int.toNat_natCast,rE];refine⟨by omega,by omega,by omega,by omega,fun hc=>?_,fun hc=>?_⟩
         ·have kO:step lw a w=a.set w e:=by
           unfold step;rw[PF (by omega) hc oG];simp
          have wH:(w:Int)∉(Ql lw l).drop (i+1):=fx;refine⟨by omega,by omega,by omega,(B.set w e,CM (.i .i64) m' e true,(i:Int)+1),?_,⟨i+1,by omega,by simp,by simp[hB],by rw[cw];exact Q1l aj w,fun k hk=>?_,fun e' nw=>?_⟩,by simp;omega⟩
          ·simp
          ·dsimp only;rw[cw,kO];by_cases pL:k=w
           ·subst pL;rw[if_neg fx];simp[hB,nc,qL]
           ·have e1:(B.set w (e:Int)).getD k 0=B.getD k 0:=by simp only[List.getD_eq_getElem?_getD,List.getElem?_set_ne (Ne.symm pL)]
            have e2:(a.set w (e:Int)).getD k 0=a.getD k 0:=by simp only[List.getD_eq_getElem?_getD,List.getElem?_set_ne (Ne.symm pL)]
            rw[e1,e2,pK k hk];simp only[iP k,pL,false_or]
          ·dsimp only;rw[Em,cw,kO,mz e' nw];rw[Bool.eq_iff_iff];have aW:e'∈a.set w (e:Int)↔e'=e∨e'∈a:=by
            constructor
            ·intro h;rcases List.mem_or_eq_of_mem_set h with h|h
             ·exact .inr h
             ·exact .inl h
            ·rintro (rfl|h)
             ·exact List.mem_set (by omega) _
             ·obtain⟨j,hj,rfl⟩:=List.mem_iff_getElem.1 h;have:j≠w:=by
               rintro rfl;rw[Qa hj] at e7;omega
              refine List.mem_iff_getElem.2 ⟨j,by simpa using hj,?_⟩;rw[List.getElem_set_ne (Ne.symm this)]
           by_cases h:e'=e
           ·rw[if_pos h,List.contains_iff_mem,aW];simp[h]
           ·rw[if_neg h,List.contains_iff_mem,List.contains_iff_mem,aW];simp[h]
         ·refine⟨by omega,hq hel fun e' nw=>?_⟩;by_cases h:e'=e
          ·subst h;exact hc
          ·exact oG e' (by omega)
        ·obtain⟨e',h1,h2⟩:=Im aj (by omega) e7;rw[oG e' (by omega)] at h2;cases h2
      ·have:i=(Ql lw l).length:=by omega
       subst this;rw[List.take_length] at aj pK;have:B=JS lw l:=by apply List.ext_getElem (by rw[hB];exact(by rw[JS,Pz];simp[V3]));intro k h1 h2;have:=pK k (by omega);rw[List.drop_length] at this;simp only[List.not_mem_nil,if_false] at this;rw[Qa h1] at this;rw[this];exact Qa h2
       simp[he,this]
def U1:AL (Int×Int×Int):=(.cons (.k (.i .i64)) (.cons (.ptr (.one (.k (.i .i64)))) (.one (.ptr (.one (.k (.i .i64)))))))
def Bm (d:Int×Int×Int):Prop:=True
def Vp (d:Int×Int×Int):SV:=.val .bo (decide (d.1<d.2.1)||decide (d.2.2<d.1))
def Vm (d:Int×Int×Int):List OB:=[]
def YK:CSp:=W8 U1 Bm Vp Vm
def WY (n:Int) (a:Int) (b:Int):Prop :=
 (((decide (n<a))||(decide (n > b)))=(decide (n<a)||decide (b<n))∧(True))
def Uc:Cx:=⟨[],[],13,[],0,[],[],[],[],false,[],[],[],[]⟩
def Hs (n:Int) (a:Int) (b:Int):List (Nat×LoopAnn):=[]
set_option maxRecDepth 100000 in
theorem H6 (d:Int×Int×Int):gwp (Uc) (Hs d.1 d.2.1 d.2.2) c80 0 (WE [.tmp 4] (Vp d) (Vm d)) (Qp 13 (AL.can U1 d))=WY d.1 d.2.1 d.2.2:=by kernel_rfl
abbrev BW:Prop:=OkC Tryz.prog 80 YK
theorem Hc (h:∀ (n:Int) (a:Int) (b:Int),(True)→WY n a b):OkC Tryz.prog 80 YK :=
 Qz Q7o mixed (C:=Uc) (V:=fun (d:Int×Int×Int)=>WY d.1 d.2.1 d.2.2) ⟨.nil,XsOk.nil,ItsOk.nil,YlOk.nil,IysOk.nil,XfOk.nil⟩ (H6) fun d hp=>h d.1 d.2.1 d.2.2 hp
theorem BV:BW:=Hc fun n a b _=>by exact⟨rfl,trivial⟩
def NM:AL (Int×Int×List Int):=(.cons (.k (.i .i64)) (.cons (.k (.i .i64)) (.one (.k (.list (.i .i64))))))
def Pf (d:Int×Int×List Int):Prop:=d.2.2.length≤1000000
def Nf (d:Int×Int×List Int):SV:=.val .bo (!(d.2.2.any fun n=>decide (n<d.1)||decide (d.2.1<n)))
def N9 (d:Int×Int×List Int):List OB:=[]
def Vz:CSp:=W8 NM Pf Nf N9
def KI (a:Int) (b:Int) (l:List Int):Prop :=
 (l.length≤1000000∧∀ x∈l,(fun (x1:Int)=>True) x)∧((!(l.any (fun (x1:Int)=>(decide (x1<a)||decide (b<x1)))))=(!(l.any fun n=>decide (n<a)||decide (b<n)))∧(True))
def MH:Cx:=⟨[],[(54,Qo),(80,YK)],11,[],0,[],[],[],[],false,[],[],[],[]⟩
def Tl (a:Int) (b:Int) (l:List Int):List (Nat×LoopAnn):=[]
set_option maxRecDepth 100000 in
theorem PG (d:Int×Int×List Int):gwp (MH) (Tl d.1 d.2.1 d.2.2) c58 0 (WE [.tmp 6] (Nf d) (N9 d)) (Qp 11 (AL.can NM d))=KI d.1 d.2.1 d.2.2:=by kernel_rfl
abbrev TS:Prop:=OkC Tryz.prog 58 Vz
theorem TP (h:∀ (a:Int) (b:Int) (l:List Int),(l.length≤1000000)→KI a b l):OkC Tryz.prog 58 Vz :=
 Qz Q9o mixed (C:=MH) (V:=fun (d:Int×Int×List Int)=>KI d.1 d.2.1 d.2.2) ⟨(.cons QQ (.cons BV .nil)),XsOk.nil,ItsOk.nil,YlOk.nil,IysOk.nil,XfOk.nil⟩ (PG) fun d hp=>h d.1 d.2.1 d.2.2 hp
theorem R6:TS:=TP fun a b l h=>by exact⟨⟨h,fun _ _=>trivial⟩,rfl,trivial⟩
def D1:AL (Int×List Int):=(.one (.agg (.cons (.k (.i .i64)) (.one (.k (.list (.i .i64)))))))
def Rl (d:Int×List Int):Prop:=d.2.length≤1000000
def M6 (d:Int×List Int):SV:=.val (.i .i64) (Zi d.1 d.2)
def M1 (d:Int×List Int):List OB:=[]
def Uj:CSp:=W8 D1 Rl M6 M1
def Yj (hd:Int) (rows:List Int):Prop :=
 ([hd].length≤1000000)∧((!(!([hd].any fun n=>decide (n<(1:Int))||decide ((24:Int)<n))))=true →
  ((2:Int)=(Zi hd rows)∧(True))) ∧
 ((!(!([hd].any fun n=>decide (n<(1:Int))||decide ((24:Int)<n))))=false →
  ((decide ((lI rows) > (60:Int)))=true →
   ((5:Int)=(Zi hd rows)∧(True))) ∧
  ((decide ((lI rows) > (60:Int)))=false →
   (((lI rows)==(0:Int))=true →
    ((7:Int)=(Zi hd rows)∧(True))) ∧
   (((lI rows)==(0:Int))=false →
    (0≤hd)∧(I64 (JC .i64 (1:Int) hd))∧(I64 ((JC .i64 (1:Int) hd)-(1:Int)))∧(rows.length≤1000000)∧((!(!(rows.any fun n=>decide (n<(0:Int))||decide (((JC .i64 (1:Int) hd)-(1:Int))<n))))=true →
     ((2:Int)=(Zi hd rows)∧(True))) ∧
    ((!(!(rows.any fun n=>decide (n<(0:Int))||decide (((JC .i64 (1:Int) hd)-(1:Int))<n))))=false →
     ((0:Int)=(Zi hd rows)∧(True))))))
def GR:Cx:=⟨[(3,(.i .i64))],[(58,Vz)],28,[],0,[],[],[],[],false,[],[],[],[]⟩
def RX (hd:Int) (rows:List Int):List (Nat×LoopAnn):=[]
set_option maxRecDepth 100000 in
theorem So (d:Int×List Int):gwp (GR) (RX d.1 d.2) c41 0 (WE [.tmp 2] (M6 d) (M1 d)) (Qp 28 (AL.can D1 d))=Yj d.1 d.2:=by kernel_rfl
abbrev Sn:Prop:=OkC Tryz.prog 41 Uj
theorem RL (h:∀ (hd:Int) (rows:List Int),(rows.length≤1000000)→Yj hd rows):OkC Tryz.prog 41 Uj :=
 Qz Q80 mixed (C:=GR) (V:=fun (d:Int×List Int)=>Yj d.1 d.2) ⟨(.cons R6 .nil),XsOk.nil,ItsOk.nil,YlOk.nil,IysOk.nil,XfOk.nil⟩ (So) fun d hp=>h d.1 d.2 hp
theorem Fw {h:Int}(h1:0≤h) (h2:h≤62):JC .i64 1 h=2 ^ h.toNat:=by obtain⟨n,rfl⟩:=Int.eq_ofNat_of_zero_le h1;have:Nat.min n 64=n:=Nat.min_eq_left (by omega);simp only[JC,Int.toNat_natCast,IntKind.bits,this,Int.one_mul]
theorem NO {h:Int}(h1:1≤h) (h2:h≤24):(2:Int)≤2 ^ h.toNat∧(2:Int) ^ h.toNat≤16777216:=by
 obtain⟨n,rfl⟩:=Int.eq_ofNat_of_zero_le (show 0≤h by omega);have a1:2 ^ 1≤2 ^ n:=Nat.pow_le_pow_right (by omega) (by omega);have a2:2 ^ n≤2 ^ 24:=Nat.pow_le_pow_right (by omega) (by omega);simp only[Int.toNat_natCast];have e:((2:Int) ^ n)=((2 ^ n:Nat):Int):=by norm_cast
 rw[e];omega
theorem S4:Sn:=RL fun hd rows hl=>by
 unfold Yj;(try delta lI gD sT I64);simp only[and_true,decide_eq_true_eq,decide_eq_false_iff_not,beq_iff_eq,ne_eq,beq_eq_false_iff_ne,gt_iff_lt,Bool.not_not];simp only[←nI];refine⟨by simp,fun h1=>by simp at h1;simp[Zi,h1],fun h1=>⟨fun h2=>?_,fun h2=>⟨fun h3=>?_,fun h3=>?_⟩⟩⟩;all_goals simp only[List.any_cons,List.any_nil,Bool.or_false,Bool.not_eq_false'] at h1
 ·have:60<rows.length:=by omega
  simp[Zi,h1,this]
 ·have h3:rows.length=0:=by omega
  simp[Zi,h1,h3]
 have g8:¬ 60<rows.length:=by omega
 have hU:¬ rows.length=0:=by omega
 have hi:1≤hd∧hd≤24:=by simpa [inI] using h1
 have hp:=NO hi.1 hi.2;have oE:Zi hd rows=if rows.any (fun x=>!inI x 0 (2 ^ hd.toNat-1)) then 2 else 0:=by simp only[Zi,h1,g8,hU];simp
 rw[oE];simp only[QM,Fw (show 0≤hd by omega) (by omega)];refine⟨by omega,by omega,by omega,by omega,fun h=>by rw[if_pos h],fun h=>by rw[h];rfl⟩
def TE:AL (Bool):=(.one (.k .bo))
def Ev (d:Bool):Prop:=True
def HE (d:Bool):SV:=.val (.i .u8) (Dt d)
def HU (d:Bool):List OB:=[]
def Hi:CSp:=W8 TE Ev HE HU
def UJ (x:Bool):Prop :=
 (x=true →
  ((120:Int)=(Dt x)∧(True))) ∧
 (x=false →
  ((46:Int)=(Dt x)∧(True)))
def Re:Cx:=⟨[],[],4,[],0,[],[],[],[],false,[],[],[],[]⟩
def Fp (x:Bool):List (Nat×LoopAnn):=[]
set_option maxRecDepth 100000 in
theorem Fh (d:Bool):gwp (Re) (Fp d) c60 0 (WE [.tmp 2] (HE d) (HU d)) (Qp 4 (AL.can TE d))=UJ d:=by kernel_rfl
abbrev Fi:Prop:=OkC Tryz.prog 60 Hi
theorem FB (h:∀ (x:Bool),(True)→UJ x):OkC Tryz.prog 60 Hi :=
 Qz Q91 mixed (C:=Re) (V:=fun (d:Bool)=>UJ d) ⟨.nil,XsOk.nil,ItsOk.nil,YlOk.nil,IysOk.nil,XfOk.nil⟩ (Fh) fun d hp=>h d hp
theorem Fu:Fi:=FB fun x _=>by cases x<;>simp[UJ,Dt]
def Yp:AL ((Int×List Int)×Int×Int):=(.cons (.agg (.cons (.k (.i .i64)) (.one (.k (.list (.i .i64)))))) (.cons (.k (.i .i64)) (.one (.k (.i .i64)))))
def Nq (d:(Int×List Int)×Int×Int):Prop:=0≤d.2.2∧d.2.2<d.1.2.length∧0≤d.2.1∧d.2.1<9223372036854775808∧∀ x∈d.1.2,0≤x∧x≤60
def WW (d:(Int×List Int)×Int×Int):SV:=.val .bo (d.2.1.toNat.testBit (d.1.2.getD d.2.2.toNat 0).toNat)
def WJ (d:(Int×List Int)×Int×Int):List OB:=[]
def Xx:CSp:=W8 Yp Nq WW WJ
def Z_ (hk:Int) (lw:List Int) (row:Int) (w:Int):Prop :=
 (0≤w)∧(w<(List.length lw))∧(0≤(gD lw w 0))∧(((Q9 .and .i64 (Qy .i64 row (gD lw w 0)) (1:Int))==(1:Int))=(row.toNat.testBit (lw.getD w.toNat 0).toNat)∧(True))
def Ym:Cx:=⟨[],[],17,[],0,[],[],[],[],false,[],[],[],[]⟩
def MO (hk:Int) (lw:List Int) (row:Int) (w:Int):List (Nat×LoopAnn):=[]
set_option maxRecDepth 100000 in
theorem MI (d:(Int×List Int)×Int×Int):gwp (Ym) (MO d.1.1 d.1.2 d.2.1 d.2.2) c61 0 (WE [.tmp 6] (WW d) (WJ d)) (Qp 17 (AL.can Yp d))=Z_ d.1.1 d.1.2 d.2.1 d.2.2:=by kernel_rfl
abbrev Mq:Prop:=OkC Tryz.prog 61 Xx
theorem NR (h:∀ (hk:Int) (lw:List Int) (row:Int) (w:Int),(0≤w∧w<lw.length∧0≤row∧row<9223372036854775808∧∀ x∈lw,0≤x∧x≤60)→Z_ hk lw row w):OkC Tryz.prog 61 Xx :=
 Qz Q9s mixed (C:=Ym) (V:=fun (d:(Int×List Int)×Int×Int)=>Z_ d.1.1 d.1.2 d.2.1 d.2.2) ⟨.nil,XsOk.nil,ItsOk.nil,YlOk.nil,IysOk.nil,XfOk.nil⟩ (MI) fun d hp=>h d.1.1 d.1.2 d.2.1 d.2.2 hp
theorem Mm:Mq:=NR fun hk lw row w h=>by
 obtain⟨h1,h2,h3,h4,h5⟩:=h;obtain⟨w,rfl⟩:=Int.eq_ofNat_of_zero_le h1;obtain⟨r,rfl⟩:=Int.eq_ofNat_of_zero_le h3;have hw:w<lw.length:=by omega
 have hx:=h5 _ (List.getElem_mem hw);obtain⟨k,hk⟩:=Int.eq_ofNat_of_zero_le hx.1;unfold Z_;(try delta lI gD sT I64);simp only[and_true,Int.toNat_natCast,Int.ofNat_lt,Qa hw,hk];refine⟨by omega,by omega,by omega,?_⟩;exact Q6v (by omega) (by omega)
end Go.Proofs.Tryz
set_option linter.unusedVariables false
namespace Go.Proofs.Tryz
open Go Go.V Go.Proofs
def JZ:Cx:=⟨[],[],20,[],0,[(100,Q75)],[],[],[],false,[],[],[],[]⟩
def ZA:XSp:=Q21 JZ (fun _=>[]) c81 [] 20
theorem JM:XOk Tryz.prog 81 ZA:=VI Q8o mixed (C:=JZ) ⟨.nil,(XsOk.cons (Is F4) XsOk.nil),ItsOk.nil,YlOk.nil,IysOk.nil,XfOk.nil⟩ _
def J_:Cx:=⟨[(5,(.i .u8))],[],17,[],0,[(81,ZA)],[],[],[],false,[],[],[],[]⟩
def Xh:XSp:=Q21 J_ (fun _=>[]) c59 [.tmp 4] 17
theorem YG:XOk Tryz.prog 59 Xh:=VI Z03 mixed (C:=J_) ⟨.nil,(XsOk.cons JM XsOk.nil),ItsOk.nil,YlOk.nil,IysOk.nil,XfOk.nil⟩ _
def XK:Cx:=⟨[],[],14,[],0,[],[],[],[],false,[],[],[],[]⟩
def XY:XSp:=Q21 XK (fun _=>[]) c62 [.tmp 2] 14
theorem V2:XOk Tryz.prog 62 XY:=VI Q93 mixed (C:=XK) ⟨.nil,XsOk.nil,ItsOk.nil,YlOk.nil,IysOk.nil,XfOk.nil⟩ _
def KE:AL ((Int×List Int)×Int):=(.cons (.agg (.cons (.k (.i .i64)) (.one (.k (.list (.i .i64)))))) (.one (.k (.i .i64))))
def G8 (d:(Int×List Int)×Int):Prop:=d.1.2.length≤110∧0≤d.2∧d.2<9223372036854775808∧∀ x∈d.1.2,0≤x∧x≤60
def YS (d:(Int×List Int)×Int):SV:=.val .st (Ka d.1.2 d.2)
def YQ (d:(Int×List Int)×Int):List OB:=[]
def Wg:CSp:=W8 KE G8 YS YQ
def JG (hk:Int) (lw:List Int) (row:Int):Prop :=
 ∃ (e4:Unit) (d40:Bool×(List Int)×Int),((row=row∧True∧True∧(lI lw)=(lI lw)∧(0:Int)=d40.2.2∧True)∧((hk=hk∧lw=lw∧(([]:List SV)=[]))∧(d40.1=false∧True∧(([]:List SV)=[]))∧(d40.2.1=[]∧(List.isEmpty d40.2.1)=true)∧True)) ∧
 LoopP (fun (d4:Bool×(List Int)×Int) (q4:(Bool×(List Int)×Int)→Prop) =>
  ((decide (d4.2.2<(lI lw)))=true →
   (0≤d4.2.2∧d4.2.2<lw.length∧0≤row∧row<9223372036854775808∧∀ x∈lw,0≤x∧x≤60)∧(True)∧∀ w5:List Value,∀ w6:List Value,((!d4.1)=true →
    w6=w6∧(((List.length d4.2.1)+(List.length [(Dt (row.toNat.testBit (lw.getD d4.2.2.toNat 0).toNat))]))*1≤70368744177664)∧w5=w5∧(I64 (d4.2.2+(1:Int)))∧(∃ d7:Bool×(List Int)×Int,((row=row∧True∧True∧(lI lw)=(lI lw)∧(d4.2.2+(1:Int))=d7.2.2∧True)∧((hk=hk∧lw=lw∧(([]:List SV)=[]))∧(d7.1=true∧True∧(([]:List SV)=[]))∧((d4.2.1++[(Dt (row.toNat.testBit (lw.getD d4.2.2.toNat 0).toNat))])=d7.2.1∧false=(List.isEmpty d7.2.1))∧True))∧q4 d7)) ∧
   ((!d4.1)=false →
    (d4.1=true)∧((!true)=true →
     False) ∧
    ((!true)=false →
     w6=w6∧(((List.length d4.2.1)+(List.length [(Dt (row.toNat.testBit (lw.getD d4.2.2.toNat 0).toNat))]))*1≤70368744177664)∧w5=w5∧(I64 (d4.2.2+(1:Int)))∧(∃ d8:Bool×(List Int)×Int,((row=row∧True∧True∧(lI lw)=(lI lw)∧(d4.2.2+(1:Int))=d8.2.2∧True)∧((hk=hk∧lw=lw∧(([]:List SV)=[]))∧(d4.1=d8.1∧True∧(([]:List SV)=[]))∧((d4.2.1++[(Dt (row.toNat.testBit (lw.getD d4.2.2.toNat 0).toNat))])=d8.2.1∧false=(List.isEmpty d8.2.1))∧True))∧q4 d8)))) ∧
  ((decide (d4.2.2<(lI lw)))=false →
   ∀ w9:List Value,((List.isEmpty d4.2.1)=false→d4.2.1≠[])∧((lI d4.2.1)=(List.length d4.2.1))∧((List.length d4.2.1)≤4611686018427387904)∧w9=w9∧((Kj d4.2.1)=(Ka lw row)∧(True)))) d40
def Kv:Cx:=⟨[(5,(.i .u8))],[(61,Xx),(60,Hi)],22,[],0,[(59,Xh),(81,ZA),(100,Q75),(62,XY)],[],[],[],false,[],[],[],[]⟩
def Dy (hk:Int) (lw:List Int) (row:Int):List (Nat×LoopAnn):=[(0,⟨Unit,Bool×(List Int)×Int,[1,2,5,10,11],fun e x=>[.val (.i .i64) row,.box 2 0,.box 5 0,.val (.i .i64) (((List.length lw):Nat):Int),.val (.i .i64) x.2.2],fun e x=>[(2,.slot 2,.cells [.val (.i .i64) hk,.val (.list (.i .i64)) lw] (some 89)),(5,.slot 5,.cells [.dd 5 (.obx x.1),.lst 2000014] (some 109)),(2000014,.cell 5 1,.lst 5 (.i .u8) x.2.1 (List.isEmpty x.2.1))]⟩)]
set_option maxRecDepth 100000 in
theorem Dz (d:(Int×List Int)×Int):gwp (Kv) (Dy d.1.1 d.1.2 d.2) c42 0 (WE [.tmp 4] (YS d) (YQ d)) (Qp 22 (AL.can KE d))=JG d.1.1 d.1.2 d.2:=by kernel_rfl
abbrev D6:Prop:=OkC Tryz.prog 42 Wg
theorem Dc (h:∀ (hk:Int) (lw:List Int) (row:Int),(lw.length≤110∧0≤row∧row<9223372036854775808∧∀ x∈lw,0≤x∧x≤60)→JG hk lw row):OkC Tryz.prog 42 Wg :=
 Qz Q7u mixed (C:=Kv) (V:=fun (d:(Int×List Int)×Int)=>JG d.1.1 d.1.2 d.2) ⟨(.cons Mm (.cons Fu .nil)),(XsOk.cons YG (XsOk.cons JM (XsOk.cons (Is F4) (XsOk.cons V2 XsOk.nil)))),ItsOk.nil,YlOk.nil,IysOk.nil,XfOk.nil⟩ (Dz) fun d hp=>h d.1.1 d.1.2 d.2 hp
theorem IL (lw:List Int) (row:Int):Kj (lw.map fun k=>Dt (row.toNat.testBit k.toNat))=Ka lw row:=by simp only[Kj,Ka,List.map_map];refine List.map_congr_left fun k _=>?_;simp only[Function.comp,Dt];split<;>rfl
theorem Dm:D6:=Dc fun hk lw row h=>by
 obtain⟨h1,h2,h3,h4⟩:=h;unfold JG;(try delta lI gD sT I64);simp only[true_and,and_true,exists_const,decide_eq_true_eq,decide_eq_false_iff_not,ne_eq,Bool.not_eq_true',Bool.not_eq_false',QM];refine⟨(false,[],0),⟨rfl,rfl,rfl,rfl⟩,?_⟩;refine⟨fun d=>∃ i:Nat,i≤lw.length∧d.2.2=i∧d.2.1=(lw.take i).map fun k=>Dt (row.toNat.testBit k.toNat),fun d=>lw.length-d.2.2.toNat,⟨0,Nat.zero_le _,rfl,by simp⟩,?_⟩;rintro⟨c,xs,_⟩ ⟨i,hi,rfl,bh⟩;dsimp only at bh ⊢;have fH:xs.length=i:=by rw[bh];simp;omega
 refine⟨fun ah=>?_,fun bg=>?_⟩
 ·have ah:i<lw.length:=by omega
  have hn:xs++[Dt (row.toNat.testBit lw[i].toNat)]=(lw.take (i+1)).map fun k=>Dt (row.toNat.testBit k.toNat):=by rw[bh,Qu ah,List.map_append];rfl
  simp only[Int.toNat_natCast,Qa ah,List.length_singleton];refine⟨⟨by omega,by omega,h2,h3,h4⟩,fun _ w6=>⟨fun hc=>?_,fun hc=>?_⟩⟩
  ·exact⟨by omega,by omega,(true,xs++[Dt (row.toNat.testBit lw[i].toNat)],(i:Int)+1),⟨rfl,rfl,rfl,by simp⟩,⟨i+1,by omega,by simp,hn⟩,by dsimp only;omega⟩
  ·refine⟨by simpa using hc,?_⟩;refine⟨fun h=>by simp at h,fun _=>?_⟩;exact⟨by omega,by omega,(c,xs++[Dt (row.toNat.testBit lw[i].toNat)],(i:Int)+1),⟨rfl,rfl,rfl,by simp⟩,⟨i+1,by omega,by simp,hn⟩,by dsimp only;omega⟩
 ·have:i=lw.length:=by omega
  subst this;rw[List.take_length] at bh;refine fun _=>⟨?_,by omega,?_⟩
  ·intro aA h0;rw[h0] at aA;simp at aA
  ·rw[bh];exact IL lw row
end Go.Proofs.Tryz
set_option linter.unusedVariables false
namespace Go.Proofs.Tryz
open Go Go.V Go.Proofs
def HJ:AL ((Int×List Int)×Int×List Int):=(.cons (.agg (.cons (.k (.i .i64)) (.one (.k (.list (.i .i64)))))) (.one (.agg (.cons (.k (.i .i64)) (.one (.k (.list (.i .i64))))))))
def Ci (d:(Int×List Int)×Int×List Int):Prop:=d.1.2.length≤110∧d.2.2.length≤110
def B9 (d:(Int×List Int)×Int×List Int):SV:=.tup [.lst 0,.val (.i .i64) (Ze d.1.1 d.1.2 d.2.1 d.2.2)]
def B3 (d:(Int×List Int)×Int×List Int):List OB:=[.lst 9 .st (Qk d.1.1 d.1.2 d.2.1 d.2.2) ((Qk d.1.1 d.1.2 d.2.1 d.2.2).isEmpty)]
def Uk:CSp:=W8 HJ Ci B9 B3
def Ve (hk:Int) (lw:List Int) (hd:Int) (rows:List Int):Prop :=
 (lw.length≤1000000)∧(((ZC hk lw) != (0:Int))=true →
  ((True∧(ZC hk lw)=Ze hk lw hd rows∧(([]:List SV)=[]))∧(((Qk hk lw hd rows)=[]∧(Qk hk lw hd rows).isEmpty=true)∧True))) ∧
 (((ZC hk lw) != (0:Int))=false →
  (rows.length≤1000000)∧(((Zi hd rows) != (0:Int))=true →
   ((True∧(Zi hd rows)=Ze hk lw hd rows∧(([]:List SV)=[]))∧(((Qk hk lw hd rows)=[]∧(Qk hk lw hd rows).isEmpty=true)∧True))) ∧
  (((Zi hd rows) != (0:Int))=false →
   ((hd != hk)=true →
    ((True∧(4:Int)=Ze hk lw hd rows∧(([]:List SV)=[]))∧(((Qk hk lw hd rows)=[]∧(Qk hk lw hd rows).isEmpty=true)∧True))) ∧
   ((hd != hk)=false →
    ∃ (e4:Unit) (d40:(List (List UInt8))×Int),((True∧True∧rows=rows∧(lI rows)=(lI rows)∧(0:Int)=d40.2∧True)∧((hk=hk∧lw=lw∧(([]:List SV)=[]))∧(d40.1=[]∧(List.isEmpty d40.1)=true)∧True)) ∧
    LoopP (fun (d4:(List (List UInt8))×Int) (q4:((List (List UInt8))×Int)→Prop) =>
     ((decide (d4.2<(lI rows)))=true →
      (0≤d4.2)∧(d4.2<(List.length rows))∧(lw.length≤110∧0≤(gD rows d4.2 0)∧(gD rows d4.2 0)<9223372036854775808∧∀ x∈lw,0≤x∧x≤60)∧(((List.length d4.1)+(List.length [(Ka lw (gD rows d4.2 0))]))*16≤70368744177664)∧(I64 (d4.2+(1:Int)))∧(∃ d5:(List (List UInt8))×Int,((True∧True∧rows=rows∧(lI rows)=(lI rows)∧(d4.2+(1:Int))=d5.2∧True)∧((hk=hk∧lw=lw∧(([]:List SV)=[]))∧((d4.1++[(Ka lw (gD rows d4.2 0))])=d5.1∧false=(List.isEmpty d5.1))∧True))∧q4 d5)) ∧
     ((decide (d4.2<(lI rows)))=false →
      ((True∧(0:Int)=Ze hk lw hd rows∧(([]:List SV)=[]))∧((d4.1=(Qk hk lw hd rows)∧(List.isEmpty d4.1)=(Qk hk lw hd rows).isEmpty)∧True)))) d40)))
def HQ:Cx:=⟨[(9,.st)],[(40,Ui),(41,Uj),(42,Wg)],43,[],0,[],[],[],[],false,[],[],[],[]⟩
def CY (hk:Int) (lw:List Int) (hd:Int) (rows:List Int):List (Nat×LoopAnn):=[(1,⟨Unit,(List (List UInt8))×Int,[2,4,28,29,30],fun e x=>[.box 2 0,.lst 40,.val (.list (.i .i64)) rows,.val (.i .i64) (((List.length rows):Nat):Int),.val (.i .i64) x.2],fun e x=>[(2,.slot 2,.cells [.val (.i .i64) hk,.val (.list (.i .i64)) lw] (some 28)),(40,.slot 4,.lst 9 .st x.1 (List.isEmpty x.1))]⟩)]
set_option maxRecDepth 100000 in
theorem AF (d:(Int×List Int)×Int×List Int):gwp (HQ) (CY d.1.1 d.1.2 d.2.1 d.2.2) c17 0 (WE [.tmp 4,.tmp 5] (B9 d) (B3 d)) (Qp 43 (AL.can HJ d))=Ve d.1.1 d.1.2 d.2.1 d.2.2:=by kernel_rfl
abbrev A1:Prop:=OkC Tryz.prog 17 Uk
theorem A2 (h:∀ (hk:Int) (lw:List Int) (hd:Int) (rows:List Int),(lw.length≤110∧rows.length≤110)→Ve hk lw hd rows):OkC Tryz.prog 17 Uk :=
 Qz Z0b mixed (C:=HQ) (V:=fun (d:(Int×List Int)×Int×List Int)=>Ve d.1.1 d.1.2 d.2.1 d.2.2) ⟨(.cons HR (.cons S4 (.cons Dm .nil))),XsOk.nil,ItsOk.nil,YlOk.nil,IysOk.nil,XfOk.nil⟩ (AF) fun d hp=>h d.1.1 d.1.2 d.2.1 d.2.2 hp
theorem Cc {hd:Int}{rows:List Int}(h:Zi hd rows=0):1≤hd∧hd≤24∧rows.length≤60∧rows.length≠0∧∀ x∈rows,0≤x∧x<2 ^ hd.toNat:=by
 unfold Zi at h;split at h
 ·cases h
 ·rename_i h1;split at h
  ·cases h
  ·rename_i h2;split at h
   ·cases h
   ·rename_i h3;split at h
    ·cases h
    ·rename_i h4;have h1:1≤hd∧hd≤24:=by simpa [inI] using h1
     refine⟨h1.1,h1.2,by omega,h3,fun x hx=>?_⟩;have h5:∀ x∈rows,inI x 0 (2 ^ hd.toNat-1)=true:=by simpa using h4
     have:=h5 x hx;simp only[inI,Bool.and_eq_true,decide_eq_true_eq] at this;omega
theorem HT:A1:=A2 fun hk lw hd rows h=>by
 obtain⟨h1,h2⟩:=h;unfold Ve;(try delta lI gD sT I64);simp only[true_and,and_true,exists_const,decide_eq_true_eq,decide_eq_false_iff_not,bne_iff_ne,ne_eq,bne_eq_false_iff_eq,QM];refine⟨by omega,fun he=>?_,fun he=>⟨by omega,fun hp=>?_,fun hp=>⟨fun hh=>?_,fun hh=>?_⟩⟩⟩
 ·have e:Ze hk lw hd rows=ZC hk lw:=by simp[Ze,he]
  have e2:Qk hk lw hd rows=[]:=by simp[Qk,e,he]
  rw[e,e2];exact⟨rfl,rfl,rfl⟩
 ·have e:Ze hk lw hd rows=Zi hd rows:=by simp[Ze,he,hp]
  have e2:Qk hk lw hd rows=[]:=by simp[Qk,e,hp]
  rw[e,e2];exact⟨rfl,rfl,rfl⟩
 ·have e:Ze hk lw hd rows=4:=by simp[Ze,he,hp,hh]
  have e2:Qk hk lw hd rows=[]:=by simp[Qk,e]
  rw[e,e2];exact⟨rfl,rfl,rfl⟩
 have e:Ze hk lw hd rows=0:=by unfold Ze;rw[if_neg (by omega),if_neg (by omega),if_neg (by omega)]
 have e2:Qk hk lw hd rows=rows.map (Ka lw):=by simp[Qk,e]
 obtain⟨t1,t2,t3,t4,t5⟩:=EV he;obtain⟨p1,p2,p3,p4,p5⟩:=Cc hp;have jJ:=NO p1 p2;rw[e,e2];refine⟨([],0),⟨rfl,rfl,rfl⟩,?_⟩;refine LoopP.count2 rows.length (fun k xs=>xs=(rows.take k).map (Ka lw)) (by simp) fun k xs hk hJ q hq=>?_;have fH:xs.length=k:=by rw[hJ];simp;omega
 dsimp only;refine⟨fun ah=>?_,fun bg=>?_⟩
 ·have ah:k<rows.length:=by omega
  have hr:=p5 _ (List.getElem_mem ah);simp only[Int.toNat_natCast,Qa ah,List.length_singleton];refine⟨by omega,by omega,⟨h1,hr.1,by omega,fun x hx=>by have:=t5 x hx;omega⟩,by omega,by omega,(xs++[Ka lw rows[k]],(k:Int)+1),⟨rfl,rfl,by simp⟩,hq _ ah ?_⟩;rw[Qu ah,List.map_append,←hJ];rfl
 ·have:k=rows.length:=by omega
  subst this;rw[List.take_length] at hJ;rw[hJ];exact⟨rfl,rfl,rfl⟩
end Go.Proofs.Tryz
set_option linter.unusedVariables false
namespace Go.Proofs.Tryz
open Go Go.V Go.Proofs
def HM:AL ((Int×List Int)×List Int×Int×List Int):=(.cons (.agg (.cons (.k (.i .i64)) (.one (.k (.list (.i .i64)))))) (.cons (.k (.list (.i .i64))) (.one (.agg (.cons (.k (.i .i64)) (.one (.k (.list (.i .i64)))))))))
def LP (d:(Int×List Int)×List Int×Int×List Int):Prop:=d.1.2.length≤110∧d.2.1.length≤110∧d.2.2.2.length≤110
def DY (d:(Int×List Int)×List Int×Int×List Int):SV:=.tup [.lst 0,.val (.i .i64) (YL d.1.1 d.1.2 d.2.1 d.2.2.1 d.2.2.2)]
def Ba (d:(Int×List Int)×List Int×Int×List Int):List OB:=[.lst 9 .st (Ge d.1.1 d.1.2 d.2.1 d.2.2.1 d.2.2.2) ((Ge d.1.1 d.1.2 d.2.1 d.2.2.1 d.2.2.2).isEmpty)]
def Dr:CSp:=W8 HM LP DY Ba
def V6 (hk:Int) (lw:List Int) (l:List Int) (hd:Int) (rows:List Int):Prop :=
 (lw.length≤110∧l.length≤110)∧(((ZS hk lw l) != (0:Int))=true →
  ((True∧(ZS hk lw l)=YL hk lw l hd rows∧(([]:List SV)=[]))∧(((Ge hk lw l hd rows)=[]∧(Ge hk lw l hd rows).isEmpty=true)∧True))) ∧
 (((ZS hk lw l) != (0:Int))=false →
  (lw.length≤110∧rows.length≤110)∧((Ze hk lw hd rows != (0:Int))=true →
   ((True∧Ze hk lw hd rows=YL hk lw l hd rows∧(([]:List SV)=[]))∧(((Ge hk lw l hd rows)=[]∧(Ge hk lw l hd rows).isEmpty=true)∧True))) ∧
  ((Ze hk lw hd rows != (0:Int))=false →
   ∃ (e4:Unit) (d40:(List (List UInt8))×Int),((l=l∧True∧True∧(lI (Qk hk lw hd rows))=(lI (Qk hk lw hd rows))∧(0:Int)=d40.2∧True)∧((d40.1=[]∧(List.isEmpty d40.1)=true)∧((Qk hk lw hd rows)=(Qk hk lw hd rows)∧(Qk hk lw hd rows).isEmpty=(List.isEmpty (Qk hk lw hd rows)))∧True)) ∧
   LoopP (fun (d4:(List (List UInt8))×Int) (q4:((List (List UInt8))×Int)→Prop) =>
    ((decide (d4.2<(lI (Qk hk lw hd rows))))=true →
     (0≤d4.2)∧(d4.2<(List.length (Qk hk lw hd rows)))∧∃ (e8:(List (List UInt8))×(List UInt8)×Int) (d80:(List Int)×Int),((l=l∧True∧(gD (Qk hk lw hd rows) d4.2 [])=e8.2.1∧True∧True∧(lI (Qk hk lw hd rows))=(lI (Qk hk lw hd rows))∧d4.2=e8.2.2∧l=l∧(lI l)=(lI l)∧(0:Int)=d80.2∧True)∧((d4.1=e8.1∧(List.isEmpty d4.1)=(List.isEmpty e8.1))∧(d80.1=[]∧(List.isEmpty d80.1)=true)∧((Qk hk lw hd rows)=(Qk hk lw hd rows)∧(List.isEmpty (Qk hk lw hd rows))=(List.isEmpty (Qk hk lw hd rows)))∧True)) ∧
     LoopP (fun (d8:(List Int)×Int) (q8:((List Int)×Int)→Prop) =>
      ((decide (d8.2<(lI l)))=true →
       (0≤d8.2)∧(d8.2<(List.length l))∧(((gD l d8.2 0)==(-1:Int))=true →
        (((List.length d8.1)+(List.length [(46:Int)]))*1≤70368744177664)∧(I64 (d8.2+(1:Int)))∧(∃ d9:(List Int)×Int,((l=l∧True∧e8.2.1=e8.2.1∧True∧True∧(lI (Qk hk lw hd rows))=(lI (Qk hk lw hd rows))∧e8.2.2=e8.2.2∧l=l∧(lI l)=(lI l)∧(d8.2+(1:Int))=d9.2∧True)∧((e8.1=e8.1∧(List.isEmpty e8.1)=(List.isEmpty e8.1))∧((d8.1++[(46:Int)])=d9.1∧false=(List.isEmpty d9.1))∧((Qk hk lw hd rows)=(Qk hk lw hd rows)∧(List.isEmpty (Qk hk lw hd rows))=(List.isEmpty (Qk hk lw hd rows)))∧True))∧q8 d9)) ∧
       (((gD l d8.2 0)==(-1:Int))=false →
        (0≤(gD l d8.2 0))∧((gD l d8.2 0)<(List.length e8.2.1))∧(((List.length d8.1)+(List.length [((UInt8.toNat (gD e8.2.1 (gD l d8.2 0) 0):Nat):Int)]))*1≤70368744177664)∧(I64 (d8.2+(1:Int)))∧(∃ d10:(List Int)×Int,((l=l∧True∧e8.2.1=e8.2.1∧True∧True∧(lI (Qk hk lw hd rows))=(lI (Qk hk lw hd rows))∧e8.2.2=e8.2.2∧l=l∧(lI l)=(lI l)∧(d8.2+(1:Int))=d10.2∧True)∧((e8.1=e8.1∧(List.isEmpty e8.1)=(List.isEmpty e8.1))∧((d8.1++[((UInt8.toNat (gD e8.2.1 (gD l d8.2 0) 0):Nat):Int)])=d10.1∧false=(List.isEmpty d10.1))∧((Qk hk lw hd rows)=(Qk hk lw hd rows)∧(List.isEmpty (Qk hk lw hd rows))=(List.isEmpty (Qk hk lw hd rows)))∧True))∧q8 d10))) ∧
      ((decide (d8.2<(lI l)))=false →
       (((List.length e8.1)+(List.length [(Kj d8.1)]))*16≤70368744177664)∧(I64 (e8.2.2+(1:Int)))∧(∃ d11:(List (List UInt8))×Int,((l=l∧True∧True∧(lI (Qk hk lw hd rows))=(lI (Qk hk lw hd rows))∧(e8.2.2+(1:Int))=d11.2∧True)∧(((e8.1++[(Kj d8.1)])=d11.1∧false=(List.isEmpty d11.1))∧((Qk hk lw hd rows)=(Qk hk lw hd rows)∧(List.isEmpty (Qk hk lw hd rows))=(List.isEmpty (Qk hk lw hd rows)))∧True))∧q4 d11))) d80) ∧
    ((decide (d4.2<(lI (Qk hk lw hd rows))))=false →
     ((True∧(0:Int)=YL hk lw l hd rows∧(([]:List SV)=[]))∧((d4.1=(Ge hk lw l hd rows)∧(List.isEmpty d4.1)=(Ge hk lw l hd rows).isEmpty)∧True)))) d40))
def HF:Cx:=⟨[(5,(.i .u8)),(9,.st)],[(31,Uv),(17,Uk)],61,[],0,[],[],[],[],false,[],[],[],[]⟩
def Az (hk:Int) (lw:List Int) (l:List Int) (hd:Int) (rows:List Int):List (Nat×LoopAnn):=[(0,⟨Unit,(List (List UInt8))×Int,[1,6,30,31,32],fun e x=>[.val (.list (.i .i64)) l,.lst 58,.lst 24,.val (.i .i64) (((List.length (Qk hk lw hd rows)):Nat):Int),.val (.i .i64) x.2],fun e x=>[(58,.slot 6,.lst 9 .st x.1 (List.isEmpty x.1)),(24,.slot 30,.lst 9 .st (Qk hk lw hd rows) (List.isEmpty (Qk hk lw hd rows)))]⟩),
 (2,⟨(List (List UInt8))×(List UInt8)×Int,(List Int)×Int,[1,6,11,12,30,31,32,36,37,38],fun e x=>[.val (.list (.i .i64)) l,.lst 58,.val .st e.2.1,.lst 46,.lst 24,.val (.i .i64) (((List.length (Qk hk lw hd rows)):Nat):Int),.val (.i .i64) e.2.2,.val (.list (.i .i64)) l,.val (.i .i64) (((List.length l):Nat):Int),.val (.i .i64) x.2],fun e x=>[(58,.slot 6,.lst 9 .st e.1 (List.isEmpty e.1)),(46,.slot 12,.lst 5 (.i .u8) x.1 (List.isEmpty x.1)),(24,.slot 30,.lst 9 .st (Qk hk lw hd rows) (List.isEmpty (Qk hk lw hd rows)))]⟩)]
set_option maxRecDepth 100000 in
theorem E0 (d:(Int×List Int)×List Int×Int×List Int):gwp (HF) (Az d.1.1 d.1.2 d.2.1 d.2.2.1 d.2.2.2) c16 0 (WE [.tmp 6,.tmp 7] (DY d) (Ba d)) (Qp 61 (AL.can HM d))=V6 d.1.1 d.1.2 d.2.1 d.2.2.1 d.2.2.2:=by kernel_rfl
abbrev Aa:Prop:=OkC Tryz.prog 16 Dr
theorem Eh (h:∀ (hk:Int) (lw:List Int) (l:List Int) (hd:Int) (rows:List Int),(lw.length≤110∧l.length≤110∧rows.length≤110)→V6 hk lw l hd rows):OkC Tryz.prog 16 Dr :=
 Qz Z0a mixed (C:=HF) (V:=fun (d:(Int×List Int)×List Int×Int×List Int)=>V6 d.1.1 d.1.2 d.2.1 d.2.2.1 d.2.2.2) ⟨(.cons HH (.cons HT .nil)),XsOk.nil,ItsOk.nil,YlOk.nil,IysOk.nil,XfOk.nil⟩ (E0) fun d hp=>h d.1.1 d.1.2 d.2.1 d.2.2.1 d.2.2.2 hp
theorem R2 (l:List Int) (x:Int):Kj (l++[x])=Kj l++Kj [x]:=by simp[Kj]
theorem SU (l:List Int) (x:Int) (p:List UInt8):PH (l++[x]) p=PH l p++[if x=-1 then 46 else p.getD x.toNat 0]:=by simp only[PH,List.map_append,List.map_cons,List.map_nil]
theorem Aj:Aa:=Eh fun hk lw l hd rows h=>by
 obtain⟨h1,h2,h3⟩:=h;unfold V6;(try delta lI gD sT I64);simp only[true_and,and_true,exists_const,decide_eq_true_eq,decide_eq_false_iff_not,beq_iff_eq,bne_iff_ne,ne_eq,beq_eq_false_iff_ne,bne_eq_false_iff_eq,QM];refine⟨⟨h1,h2⟩,fun he=>?_,fun he=>⟨⟨h1,h3⟩,fun hw=>?_,fun hw=>?_⟩⟩
 ·simp[YL,Ge,he]
 ·simp[YL,Ge,he,hw]
 obtain⟨k2,k0,k3⟩:=TO he;have e1:YL hk lw l hd rows=0:=by simp[YL,he,hw]
 have e2:Ge hk lw l hd rows=rows.map fun r=>PH l (Ka lw r):=by simp[Ge,e1]
 have e3:Qk hk lw hd rows=rows.map (Ka lw):=by simp[Qk,hw]
 rw[e1,e2];generalize hc:Qk hk lw hd rows=cl;rw[e3] at hc;have cO:cl.length=rows.length:=by rw[←hc];simp
 refine⟨([],0),⟨rfl,rfl,rfl⟩,?_⟩;refine LoopP.count2 cl.length (fun k xs=>xs=(cl.take k).map (PH l)) (by simp) fun k xs kU hJ q hq=>?_;have fH:xs.length=k:=by rw[hJ];simp;omega
 dsimp only;refine⟨fun ah=>?_,fun bg=>?_⟩
 ·have ah:k<cl.length:=by omega
  have aX:cl[k].length=lw.length:=by simp[←hc,Ka]
  simp only[Int.toNat_natCast,Qa ah];refine⟨by omega,by omega,(xs,cl[k],(k:Int)),([],0),(by and_intros<;>first|rfl|trivial),?_⟩;refine LoopP.count2 l.length (fun j b=>b.length=j∧Kj b=PH (l.take j) cl[k]) ⟨rfl,rfl⟩ fun j b hj mF q2 pA=>?_;obtain⟨ib,mF⟩:=mF;dsimp only;refine⟨fun bN=>?_,fun vB=>?_⟩
  ·have bN:j<l.length:=by omega
   have hx:=k3 _ (List.getElem_mem bN);simp only[Int.toNat_natCast,Qa bN,List.length_singleton];refine⟨by omega,by omega,fun hm=>?_,fun hm=>?_⟩
   ·refine⟨by omega,by omega,(b++[46],(j:Int)+1),(by and_intros<;>first|rfl|trivial|simp),pA _ bN ⟨by simp[ib],?_⟩⟩;rw[R2,mF,Qu bN,SU,if_pos hm];rfl
   ·have hr:(l[j]).toNat<cl[k].length:=by omega
    simp only[Qa hr];refine⟨by omega,by omega,by omega,by omega,(b++[((cl[k][(l[j]).toNat].toNat:Nat):Int)],(j:Int)+1),(by and_intros<;>first|rfl|trivial|simp),pA _ bN ⟨by simp[ib],?_⟩⟩;rw[R2,mF,Qu bN,SU,if_neg hm,Qa hr];simp[Kj]
  ·have:j=l.length:=by omega
   subst this;rw[List.take_length] at mF;refine⟨by simp only[List.length_singleton];omega,by omega,(xs++[Kj b],(k:Int)+1),⟨rfl,rfl,by simp⟩,hq _ ah ?_⟩;rw[Qu ah,List.map_append,←hJ,mF];rfl
 ·have:k=cl.length:=by omega
  subst this;rw[List.take_length] at hJ;rw[hJ,←hc];simp
end Go.Proofs.Tryz
set_option linter.unusedVariables false
namespace Go.Proofs.Tryz
open Go Go.V Go.Proofs
def VS:AL (Int×Int×Int):=(.cons (.k (.i .i64)) (.cons (.ptr (.one (.k (.i .i64)))) (.one (.ptr (.one (.k (.i .i64)))))))
def Bw (d:Int×Int×Int):Prop:=True
def Vc (d:Int×Int×Int):SV:=.val .bo (decide (d.1<d.2.1)||decide (d.2.2<d.1))
def Vi (d:Int×Int×Int):List OB:=[]
def YF:CSp:=W8 VS Bw Vc Vi
def Xj (n:Int) (a:Int) (b:Int):Prop :=
 (((decide (n<a))||(decide (n > b)))=(decide (n<a)||decide (b<n))∧(True))
def Uf:Cx:=⟨[],[],13,[],0,[],[],[],[],false,[],[],[],[]⟩
def B_ (n:Int) (a:Int) (b:Int):List (Nat×LoopAnn):=[]
set_option maxRecDepth 100000 in
theorem Hr (d:Int×Int×Int):gwp (Uf) (B_ d.1 d.2.1 d.2.2) c55 0 (WE [.tmp 4] (Vc d) (Vi d)) (Qp 13 (AL.can VS d))=Xj d.1 d.2.1 d.2.2:=by kernel_rfl
abbrev BY:Prop:=OkC Tryz.prog 55 YF
theorem Hg (h:∀ (n:Int) (a:Int) (b:Int),(True)→Xj n a b):OkC Tryz.prog 55 YF :=
 Qz Q9a mixed (C:=Uf) (V:=fun (d:Int×Int×Int)=>Xj d.1 d.2.1 d.2.2) ⟨.nil,XsOk.nil,ItsOk.nil,YlOk.nil,IysOk.nil,XfOk.nil⟩ (Hr) fun d hp=>h d.1 d.2.1 d.2.2 hp
theorem Ht:BY:=Hg fun n a b _=>by unfold Xj;(try delta lI gD sT I64);exact(by and_intros<;>first|rfl|trivial|simp)
def NW:AL (Int×Int×List Int):=(.cons (.k (.i .i64)) (.cons (.k (.i .i64)) (.one (.k (.list (.i .i64))))))
def P4 (d:Int×Int×List Int):Prop:=d.2.2.length≤1000000
def N7 (d:Int×Int×List Int):SV:=.val .bo (!(d.2.2.any fun n=>decide (n<d.1)||decide (d.2.1<n)))
def Nc (d:Int×Int×List Int):List OB:=[]
def JN:CSp:=W8 NW P4 N7 Nc
def Wj (a:Int) (b:Int) (l:List Int):Prop :=
 (l.length≤1000000∧∀ x∈l,(fun (x1:Int)=>True) x)∧((!(l.any (fun (x1:Int)=>(decide (x1<a)||decide (b<x1)))))=(!(l.any fun n=>decide (n<a)||decide (b<n)))∧(True))
def Mt:Cx:=⟨[],[(54,Qo),(55,YF)],11,[],0,[],[],[],[],false,[],[],[],[]⟩
def PX (a:Int) (b:Int) (l:List Int):List (Nat×LoopAnn):=[]
set_option maxRecDepth 100000 in
theorem TN (d:Int×Int×List Int):gwp (Mt) (PX d.1 d.2.1 d.2.2) c37 0 (WE [.tmp 6] (N7 d) (Nc d)) (Qp 11 (AL.can NW d))=Wj d.1 d.2.1 d.2.2:=by kernel_rfl
abbrev Tc:Prop:=OkC Tryz.prog 37 JN
theorem R0 (h:∀ (a:Int) (b:Int) (l:List Int),(l.length≤1000000)→Wj a b l):OkC Tryz.prog 37 JN :=
 Qz Z0s mixed (C:=Mt) (V:=fun (d:Int×Int×List Int)=>Wj d.1 d.2.1 d.2.2) ⟨(.cons QQ (.cons Ht .nil)),XsOk.nil,ItsOk.nil,YlOk.nil,IysOk.nil,XfOk.nil⟩ (TN) fun d hp=>h d.1 d.2.1 d.2.2 hp
theorem Wh:Tc:=R0 fun a b l h=>by unfold Wj;(try delta lI gD sT I64);exact⟨⟨h,fun _ _=>trivial⟩,rfl,trivial⟩
def WR:AL (Int):=(.one (.k (.i .i64)))
def Uu (d:Int):Prop:=True
def WD (d:Int):SV:=.val .bo (inI d 1 24)
def Wc (d:Int):List OB:=[]
def Z2:CSp:=W8 WR Uu WD Wc
def ZK (f:Int):Prop :=
 ([f].length≤1000000)∧((!([f].any fun n=>decide (n<(1:Int))||decide ((24:Int)<n)))=(inI f 1 24)∧(True))
def WH:Cx:=⟨[(3,(.i .i64))],[(37,JN)],6,[],0,[],[],[],[],false,[],[],[],[]⟩
def NB (f:Int):List (Nat×LoopAnn):=[]
set_option maxRecDepth 100000 in
theorem Nv (d:Int):gwp (WH) (NB d) c22 0 (WE [.tmp 2] (WD d) (Wc d)) (Qp 6 (AL.can WR d))=ZK d:=by kernel_rfl
abbrev Nh:Prop:=OkC Tryz.prog 22 Z2
theorem Ng (h:∀ (f:Int),(True)→ZK f):OkC Tryz.prog 22 Z2 :=
 Qz Z0k mixed (C:=WH) (V:=fun (d:Int)=>ZK d) ⟨(.cons Wh .nil),XsOk.nil,ItsOk.nil,YlOk.nil,IysOk.nil,XfOk.nil⟩ (Nv) fun d hp=>h d hp
theorem ZJ:Nh:=Ng fun f _=>by unfold ZK;(try delta lI gD sT I64);have e:∀ n a b:Int,(decide (n<a)||decide (b<n))=!inI n a b:=fun n a b=>(nI n a b).symm;simp only[List.any_cons,List.any_nil,Bool.or_false,e,Bool.not_not,List.length_cons,List.length_nil];exact⟨by omega,(by and_intros<;>first|rfl|trivial|simp)⟩
def WX:AL (Int×List Int):=(.cons (.k (.i .i64)) (.one (.k (.list (.i .i64)))))
def UO (d:Int×List Int):Prop:=1≤d.1∧d.1≤24∧d.2.length≤1000000
def Wu (d:Int×List Int):SV:=.val .bo (!(d.2.any fun n=>!inI n 0 (2 ^ d.1.toNat-1)))
def WB (d:Int×List Int):List OB:=[]
def J2:CSp:=W8 WX UO Wu WB
def ZI (f:Int) (l:List Int):Prop :=
 (0≤f)∧(I64 (JC .i64 (1:Int) f))∧(I64 ((JC .i64 (1:Int) f)-(1:Int)))∧(l.length≤1000000)∧((!(l.any fun n=>decide (n<(0:Int))||decide (((JC .i64 (1:Int) f)-(1:Int))<n)))=(!(l.any fun n=>!inI n 0 (2 ^ f.toNat-1)))∧(True))
def WN:Cx:=⟨[],[(37,JN)],10,[],0,[],[],[],[],false,[],[],[],[]⟩
def Nj (f:Int) (l:List Int):List (Nat×LoopAnn):=[]
set_option maxRecDepth 100000 in
theorem Ny (d:Int×List Int):gwp (WN) (Nj d.1 d.2) c23 0 (WE [.tmp 4] (Wu d) (WB d)) (Qp 10 (AL.can WX d))=ZI d.1 d.2:=by kernel_rfl
abbrev Ni:Prop:=OkC Tryz.prog 23 J2
theorem Nu (h:∀ (f:Int) (l:List Int),(1≤f∧f≤24∧l.length≤1000000)→ZI f l):OkC Tryz.prog 23 J2 :=
 Qz Q92 mixed (C:=WN) (V:=fun (d:Int×List Int)=>ZI d.1 d.2) ⟨(.cons Wh .nil),XsOk.nil,ItsOk.nil,YlOk.nil,IysOk.nil,XfOk.nil⟩ (Ny) fun d hp=>h d.1 d.2 hp
theorem WL:Ni:=Nu fun f l h=>by obtain⟨h1,h2,h3⟩:=h;unfold ZI;(try delta lI gD sT I64);have e:∀ n a b:Int,(decide (n<a)||decide (b<n))=!inI n a b:=fun n a b=>(nI n a b).symm;obtain⟨k,rfl⟩:=Int.eq_ofNat_of_zero_le (show 0≤f by omega);have hs:=Z49 (k:=k) (by omega);have hp:=Q9n (k:=k) (by omega);simp only[hs,e,Int.toNat_natCast,FV];exact⟨by omega,by simp only[QM];omega,by simp only[QM];omega,h3,(by and_intros<;>first|rfl|trivial|simp)⟩
def Xf:AL (Int):=(.one (.k (.i .u64)))
def K3 (d:Int):Prop:=0≤d∧d≤18446744073709551615
def JV (d:Int):SV:=.val (.i .u64) ((Q40 d.toNat:Nat):Int)
def X3 (d:Int):List OB:=[]
def ZV:CSp:=W8 Xf K3 JV X3
def Z9 (x:Int):Prop :=
 (0≤(8:Int))∧(0≤(8:Int))∧(InK .u64 (JC .u64 (Q9 .and .u64 x (71777214294589695:Int)) (8:Int)))∧(0≤(16:Int))∧(0≤(16:Int))∧(InK .u64 (JC .u64 (Q9 .and .u64 (Q9 .or .u64 (Q9 .and .u64 (Qy .u64 x (8:Int)) (71777214294589695:Int)) (JC .u64 (Q9 .and .u64 x (71777214294589695:Int)) (8:Int))) (281470681808895:Int)) (16:Int)))∧(0≤(32:Int))∧(0≤(32:Int))∧((Q9 .or .u64 (Qy .u64 (Q9 .or .u64 (Q9 .and .u64 (Qy .u64 (Q9 .or .u64 (Q9 .and .u64 (Qy .u64 x (8:Int)) (71777214294589695:Int)) (JC .u64 (Q9 .and .u64 x (71777214294589695:Int)) (8:Int))) (16:Int)) (281470681808895:Int)) (JC .u64 (Q9 .and .u64 (Q9 .or .u64 (Q9 .and .u64 (Qy .u64 x (8:Int)) (71777214294589695:Int)) (JC .u64 (Q9 .and .u64 x (71777214294589695:Int)) (8:Int))) (281470681808895:Int)) (16:Int))) (32:Int)) (IntKind.wrap .u64 (JC .u64 (Q9 .or .u64 (Q9 .and .u64 (Qy .u64 (Q9 .or .u64 (Q9 .and .u64 (Qy .u64 x (8:Int)) (71777214294589695:Int)) (JC .u64 (Q9 .and .u64 x (71777214294589695:Int)) (8:Int))) (16:Int)) (281470681808895:Int)) (JC .u64 (Q9 .and .u64 (Q9 .or .u64 (Q9 .and .u64 (Qy .u64 x (8:Int)) (71777214294589695:Int)) (JC .u64 (Q9 .and .u64 x (71777214294589695:Int)) (8:Int))) (281470681808895:Int)) (16:Int))) (32:Int))))=((Q40 x.toNat:Nat):Int)∧(True))
def Xb:Cx:=⟨[],[],22,[20],0,[],[],[],[],false,[],[],[],[]⟩
def Ki (x:Int):List (Nat×LoopAnn):=[]
set_option maxRecDepth 100000 in
theorem Kg (d:Int):gwp (Xb) (Ki d) c99 0 (WE [.tmp 2] (JV d) (X3 d)) (Qp 22 (AL.can Xf d))=Z9 d:=by kernel_rfl
abbrev Kl:Prop:=OkC Tryz.prog 99 ZV
theorem Ke (h:∀ (x:Int),(0≤x∧x≤18446744073709551615)→Z9 x):OkC Tryz.prog 99 ZV :=
 Qz Q7s mixed (C:=Xb) (V:=fun (d:Int)=>Z9 d) ⟨.nil,XsOk.nil,ItsOk.nil,YlOk.nil,IysOk.nil,XfOk.nil⟩ (Kg) fun d hp=>h d hp
theorem KR:Kl:=Ke fun x h=>by
 obtain⟨h1,h2⟩:=h;unfold Z9;(try delta lI gD sT I64);obtain⟨n,rfl⟩:=Int.eq_ofNat_of_zero_le h1;have hn:n<2 ^ 64:=by omega
 obtain⟨a1,a2,a3⟩:=sw8 hn;obtain⟨b1,b2,b3⟩:=Z47 a3;have c1:=Z45 b3;simp only[a1,b1,c1,Int.toNat_natCast];refine⟨by omega,by omega,a2,by omega,by omega,b2,by omega,by omega,?_⟩;exact(by and_intros<;>first|rfl|trivial|simp)
def WO:AL (Int):=(.one (.k (.i .u64)))
def Uy (d:Int):Prop:=0≤d∧d≤18446744073709551615
def W9 (d:Int):SV:=.val (.i .u64) ((SZ 64 d.toNat:Nat):Int)
def Wx (d:Int):List OB:=[]
def Xg:CSp:=W8 WO Uy W9 Wx
def ZH (x:Int):Prop :=
 (0≤(1:Int))∧(0≤(1:Int))∧(InK .u64 (JC .u64 (Q9 .and .u64 x (6148914691236517205:Int)) (1:Int)))∧(0≤(2:Int))∧(0≤(2:Int))∧(InK .u64 (JC .u64 (Q9 .and .u64 (Q9 .or .u64 (Q9 .and .u64 (Qy .u64 x (1:Int)) (6148914691236517205:Int)) (JC .u64 (Q9 .and .u64 x (6148914691236517205:Int)) (1:Int))) (3689348814741910323:Int)) (2:Int)))∧(0≤(4:Int))∧(0≤(4:Int))∧(InK .u64 (JC .u64 (Q9 .and .u64 (Q9 .or .u64 (Q9 .and .u64 (Qy .u64 (Q9 .or .u64 (Q9 .and .u64 (Qy .u64 x (1:Int)) (6148914691236517205:Int)) (JC .u64 (Q9 .and .u64 x (6148914691236517205:Int)) (1:Int))) (2:Int)) (3689348814741910323:Int)) (JC .u64 (Q9 .and .u64 (Q9 .or .u64 (Q9 .and .u64 (Qy .u64 x (1:Int)) (6148914691236517205:Int)) (JC .u64 (Q9 .and .u64 x (6148914691236517205:Int)) (1:Int))) (3689348814741910323:Int)) (2:Int))) (1085102592571150095:Int)) (4:Int)))∧(0≤(Q9 .or .u64 (Q9 .and .u64 (Qy .u64 (Q9 .or .u64 (Q9 .and .u64 (Qy .u64 (Q9 .or .u64 (Q9 .and .u64 (Qy .u64 x (1:Int)) (6148914691236517205:Int)) (JC .u64 (Q9 .and .u64 x (6148914691236517205:Int)) (1:Int))) (2:Int)) (3689348814741910323:Int)) (JC .u64 (Q9 .and .u64 (Q9 .or .u64 (Q9 .and .u64 (Qy .u64 x (1:Int)) (6148914691236517205:Int)) (JC .u64 (Q9 .and .u64 x (6148914691236517205:Int)) (1:Int))) (3689348814741910323:Int)) (2:Int))) (4:Int)) (1085102592571150095:Int)) (JC .u64 (Q9 .and .u64 (Q9 .or .u64 (Q9 .and .u64 (Qy .u64 (Q9 .or .u64 (Q9 .and .u64 (Qy .u64 x (1:Int)) (6148914691236517205:Int)) (JC .u64 (Q9 .and .u64 x (6148914691236517205:Int)) (1:Int))) (2:Int)) (3689348814741910323:Int)) (JC .u64 (Q9 .and .u64 (Q9 .or .u64 (Q9 .and .u64 (Qy .u64 x (1:Int)) (6148914691236517205:Int)) (JC .u64 (Q9 .and .u64 x (6148914691236517205:Int)) (1:Int))) (3689348814741910323:Int)) (2:Int))) (1085102592571150095:Int)) (4:Int)))∧(Q9 .or .u64 (Q9 .and .u64 (Qy .u64 (Q9 .or .u64 (Q9 .and .u64 (Qy .u64 (Q9 .or .u64 (Q9 .and .u64 (Qy .u64 x (1:Int)) (6148914691236517205:Int)) (JC .u64 (Q9 .and .u64 x (6148914691236517205:Int)) (1:Int))) (2:Int)) (3689348814741910323:Int)) (JC .u64 (Q9 .and .u64 (Q9 .or .u64 (Q9 .and .u64 (Qy .u64 x (1:Int)) (6148914691236517205:Int)) (JC .u64 (Q9 .and .u64 x (6148914691236517205:Int)) (1:Int))) (3689348814741910323:Int)) (2:Int))) (4:Int)) (1085102592571150095:Int)) (JC .u64 (Q9 .and .u64 (Q9 .or .u64 (Q9 .and .u64 (Qy .u64 (Q9 .or .u64 (Q9 .and .u64 (Qy .u64 x (1:Int)) (6148914691236517205:Int)) (JC .u64 (Q9 .and .u64 x (6148914691236517205:Int)) (1:Int))) (2:Int)) (3689348814741910323:Int)) (JC .u64 (Q9 .and .u64 (Q9 .or .u64 (Q9 .and .u64 (Qy .u64 x (1:Int)) (6148914691236517205:Int)) (JC .u64 (Q9 .and .u64 x (6148914691236517205:Int)) (1:Int))) (3689348814741910323:Int)) (2:Int))) (1085102592571150095:Int)) (4:Int)))≤18446744073709551615)∧(((Q40 (Q9 .or .u64 (Q9 .and .u64 (Qy .u64 (Q9 .or .u64 (Q9 .and .u64 (Qy .u64 (Q9 .or .u64 (Q9 .and .u64 (Qy .u64 x (1:Int)) (6148914691236517205:Int)) (JC .u64 (Q9 .and .u64 x (6148914691236517205:Int)) (1:Int))) (2:Int)) (3689348814741910323:Int)) (JC .u64 (Q9 .and .u64 (Q9 .or .u64 (Q9 .and .u64 (Qy .u64 x (1:Int)) (6148914691236517205:Int)) (JC .u64 (Q9 .and .u64 x (6148914691236517205:Int)) (1:Int))) (3689348814741910323:Int)) (2:Int))) (4:Int)) (1085102592571150095:Int)) (JC .u64 (Q9 .and .u64 (Q9 .or .u64 (Q9 .and .u64 (Qy .u64 (Q9 .or .u64 (Q9 .and .u64 (Qy .u64 x (1:Int)) (6148914691236517205:Int)) (JC .u64 (Q9 .and .u64 x (6148914691236517205:Int)) (1:Int))) (2:Int)) (3689348814741910323:Int)) (JC .u64 (Q9 .and .u64 (Q9 .or .u64 (Q9 .and .u64 (Qy .u64 x (1:Int)) (6148914691236517205:Int)) (JC .u64 (Q9 .and .u64 x (6148914691236517205:Int)) (1:Int))) (3689348814741910323:Int)) (2:Int))) (1085102592571150095:Int)) (4:Int))).toNat:Nat):Int)=((SZ 64 x.toNat:Nat):Int)∧(True))
def WG:Cx:=⟨[],[(99,ZV)],26,[],0,[],[],[],[],false,[],[],[],[]⟩
def Np (x:Int):List (Nat×LoopAnn):=[]
set_option maxRecDepth 100000 in
theorem Nl (d:Int):gwp (WG) (Np d) c78 0 (WE [.tmp 2] (W9 d) (Wx d)) (Qp 26 (AL.can WO d))=ZH d:=by kernel_rfl
abbrev Nr:Prop:=OkC Tryz.prog 78 Xg
theorem Nx (h:∀ (x:Int),(0≤x∧x≤18446744073709551615)→ZH x):OkC Tryz.prog 78 Xg :=
 Qz Q8m mixed (C:=WG) (V:=fun (d:Int)=>ZH d) ⟨(.cons KR .nil),XsOk.nil,ItsOk.nil,YlOk.nil,IysOk.nil,XfOk.nil⟩ (Nl) fun d hp=>h d hp
theorem Ns:Nr:=Nx fun x h=>by
 obtain⟨h1,h2⟩:=h;unfold ZH;(try delta lI gD sT I64);obtain⟨n,rfl⟩:=Int.eq_ofNat_of_zero_le h1;have hn:n<2 ^ 64:=by omega
 obtain⟨a1,a2,a3⟩:=sw1 hn;obtain⟨b1,b2,b3⟩:=sw2 a3;obtain⟨c1,c2,c3⟩:=sw4 b3;have hr:=Z2f hn;have he:Uh 4 1085102592571150095 (Uh 2 3689348814741910323 (Uh 1 6148914691236517205 n))=Z0t n:=rfl;simp only[a1,b1,c1,Int.toNat_natCast];rw[he,hr];rw[he] at c3;refine⟨by omega,by omega,a2,by omega,by omega,b2,by omega,by omega,c2,⟨by omega,by omega⟩,?_⟩;exact(by and_intros<;>first|rfl|trivial|simp)
def Yx:AL (Int×Int):=(.cons (.k (.i .i64)) (.one (.k (.i .i64))))
def Nt (d:Int×Int):Prop:=1≤d.1∧d.1≤24∧0≤d.2∧d.2<2 ^ d.1.toNat
def WV (d:Int×Int):SV:=.val (.i .i64) (Q8p d.1 d.2)
def WK (d:Int×Int):List OB:=[]
def Xv:CSp:=W8 Yx Nt WV WK
def J0 (f:Int) (r:Int):Prop :=
 (InK .u64 r)∧(0≤r∧r≤18446744073709551615)∧(InK .u64 f)∧(InK .u64 ((64:Int)-f))∧(0≤((64:Int)-f))∧(I64 (Qy .u64 ((SZ 64 r.toNat:Nat):Int) ((64:Int)-f)))∧((Qy .u64 ((SZ 64 r.toNat:Nat):Int) ((64:Int)-f))=(Q8p f r)∧(True))
def YB:Cx:=⟨[],[(78,Xg)],13,[],0,[],[],[],[],false,[],[],[],[]⟩
def Mc (f:Int) (r:Int):List (Nat×LoopAnn):=[]
set_option maxRecDepth 100000 in
theorem Mx (d:Int×Int):gwp (YB) (Mc d.1 d.2) c56 0 (WE [.tmp 4] (WV d) (WK d)) (Qp 13 (AL.can Yx d))=J0 d.1 d.2:=by kernel_rfl
abbrev NP:Prop:=OkC Tryz.prog 56 Xv
theorem MD (h:∀ (f:Int) (r:Int),(1≤f∧f≤24∧0≤r∧r<2 ^ f.toNat)→J0 f r):OkC Tryz.prog 56 Xv :=
 Qz Q9t mixed (C:=YB) (V:=fun (d:Int×Int)=>J0 d.1 d.2) ⟨(.cons Ns .nil),XsOk.nil,ItsOk.nil,YlOk.nil,IysOk.nil,XfOk.nil⟩ (Mx) fun d hp=>h d.1 d.2 hp
theorem NZ:NP:=MD fun f r h=>by
 obtain⟨h1,h2,h3,h4⟩:=h;unfold J0;(try delta lI gD sT I64);obtain⟨k,rfl⟩:=Int.eq_ofNat_of_zero_le (show 0≤f by omega);obtain⟨n,rfl⟩:=Int.eq_ofNat_of_zero_le h3;simp only[Int.toNat_natCast,FV] at h4;have hp:=Q9n (k:=k) (by omega);have h4:n<2 ^ k:=by omega
 have hs:Qy .u64 ((SZ 64 n:Nat):Int) (64-(k:Int))=((SZ k n:Nat):Int):=by rw[show (64-(k:Int))=((64-k:Nat):Int) by omega,Z1w (by omega),IF (by omega) h4]
 have hl:=Q0l k n;simp only[Int.toNat_natCast,hs];refine⟨by simp only[TT];omega,⟨by omega,by omega⟩,by simp only[TT];omega,by simp only[TT];omega,by omega,by simp only[QM];omega,?_⟩;exact⟨by unfold Q8p;simp only[Int.toNat_natCast],trivial⟩
def XM:AL ((Int×Int×Bool)×Int):=(.cons (.agg (.cons (.k (.i .i64)) (.cons (.k (.i .i64)) (.one (.k .bo))))) (.one (.ptr (.one (.k (.i .i64))))))
def K_ (d:(Int×Int×Bool)×Int):Prop:=1≤d.2∧d.2≤24
def Xr (d:(Int×Int×Bool)×Int):SV:=.val .bo (!ZT d.2 (d.1.1,(d.1.2.1,d.1.2.2)))
def Xu (d:(Int×Int×Bool)×Int):List OB:=[]
def Jn:CSp:=W8 XM K_ Xr Xu
def Zj (cn:Int) (cr:Int) (ct:Bool) (f:Int):Prop :=
 ([cn].length≤1000000)∧((!(!([cn].any fun n=>decide (n<(-1:Int))||decide ((59:Int)<n))))=false→True)∧((!(!([cn].any fun n=>decide (n<(-1:Int))||decide ((59:Int)<n))))=false→1≤f∧f≤24∧[cr].length≤1000000)∧(((!(!([cn].any fun n=>decide (n<(-1:Int))||decide ((59:Int)<n))))||(!(!([cr].any fun n=>!inI n 0 (2 ^ f.toNat-1)))))=(!ZT f (cn,(cr,ct)))∧(True))
def XL:Cx:=⟨[(3,(.i .i64))],[(37,JN),(23,J2)],17,[],0,[],[],[],[],false,[],[],[],[]⟩
def VK (cn:Int) (cr:Int) (ct:Bool) (f:Int):List (Nat×LoopAnn):=[]
set_option maxRecDepth 100000 in
theorem VA (d:(Int×Int×Bool)×Int):gwp (XL) (VK d.1.1 d.1.2.1 d.1.2.2 d.2) c75 0 (WE [.tmp 3] (Xr d) (Xu d)) (Qp 17 (AL.can XM d))=Zj d.1.1 d.1.2.1 d.1.2.2 d.2:=by kernel_rfl
abbrev VC:Prop:=OkC Tryz.prog 75 Jn
theorem Vu (h:∀ (cn:Int) (cr:Int) (ct:Bool) (f:Int),(1≤f∧f≤24)→Zj cn cr ct f):OkC Tryz.prog 75 Jn :=
 Qz Q8s mixed (C:=XL) (V:=fun (d:(Int×Int×Bool)×Int)=>Zj d.1.1 d.1.2.1 d.1.2.2 d.2) ⟨(.cons Wh (.cons WL .nil)),XsOk.nil,ItsOk.nil,YlOk.nil,IysOk.nil,XfOk.nil⟩ (VA) fun d hp=>h d.1.1 d.1.2.1 d.1.2.2 d.2 hp
theorem VJ:VC:=Vu fun cn cr ct f h=>by obtain⟨h1,h2⟩:=h;unfold Zj;(try delta lI gD sT I64);have e:∀ n a b:Int,(decide (n<a)||decide (b<n))=!inI n a b:=fun n a b=>(nI n a b).symm;simp only[List.any_cons,List.any_nil,Bool.or_false,e,Bool.not_not,List.length_cons,List.length_nil];refine⟨by omega,fun _=>trivial,fun _=>⟨h1,h2,by omega⟩,?_⟩;unfold ZT;rw[Bool.not_and];exact(by and_intros<;>first|rfl|trivial|simp)
def QT:AL ((List (Int×Int×Bool))×((Int×Int×Bool→Prop)×(Int×Int×Bool→Bool))):=(.cons (.k (.list (.pair (.i .i64) (.pair (.i .i64) .bo)))) (.one (.fn [(.pair (.i .i64) (.pair (.i .i64) .bo))] .bo)))
def J1 (d:(List (Int×Int×Bool))×((Int×Int×Bool→Prop)×(Int×Int×Bool→Bool))):Prop:=d.1.length≤1000000∧∀ x∈d.1,d.2.1 x
def QP (d:(List (Int×Int×Bool))×((Int×Int×Bool→Prop)×(Int×Int×Bool→Bool))):SV:=.val (.i .i64) (Q1d d.1 d.2.2)
def QR (d:(List (Int×Int×Bool))×((Int×Int×Bool→Prop)×(Int×Int×Bool→Bool))):List OB:=[]
def Qt:CSp:=W8 QT J1 QP QR
def Qd (l:List (Int×Int×Bool)) (p:(Int×Int×Bool→Prop)×(Int×Int×Bool→Bool)):Prop :=
 ∃ (e2:Unit) (d20:Int),((l=l∧(SV.pf [(.pair (.i .i64) (.pair (.i .i64) .bo))] .bo p.1 p.2=SV.pf [(.pair (.i .i64) (.pair (.i .i64) .bo))] .bo p.1 p.2)∧(lI l)=(lI l)∧(0:Int)=d20∧True)∧(True)) ∧
 LoopP (fun (d2:Int) (q2:(Int)→Prop) =>
  ((decide (d2<(lI l)))=true →
   (0≤d2)∧(d2<(List.length l))∧(p.1 ((gD l d2 (0,(0,false))).1,((gD l d2 (0,(0,false))).2.1,(gD l d2 (0,(0,false))).2.2)))∧((p.2 ((gD l d2 (0,(0,false))).1,((gD l d2 (0,(0,false))).2.1,(gD l d2 (0,(0,false))).2.2)))=true →
    (d2=(Q1d l p.2)∧(True))) ∧
   ((p.2 ((gD l d2 (0,(0,false))).1,((gD l d2 (0,(0,false))).2.1,(gD l d2 (0,(0,false))).2.2)))=false →
    (I64 (d2+(1:Int)))∧(∃ d3:Int,((l=l∧(SV.pf [(.pair (.i .i64) (.pair (.i .i64) .bo))] .bo p.1 p.2=SV.pf [(.pair (.i .i64) (.pair (.i .i64) .bo))] .bo p.1 p.2)∧(lI l)=(lI l)∧(d2+(1:Int))=d3∧True)∧(True))∧q2 d3))) ∧
  ((decide (d2<(lI l)))=false →
   ((-1:Int)=(Q1d l p.2)∧(True)))) d20
def QV:Cx:=⟨[],[],19,[],0,[],[],[],[],false,[],[],[],[]⟩
def J3 (l:List (Int×Int×Bool)) (p:(Int×Int×Bool→Prop)×(Int×Int×Bool→Bool)):List (Nat×LoopAnn):=[(0,⟨Unit,Int,[0,1,7,8],fun e x=>[.val (.list (.pair (.i .i64) (.pair (.i .i64) .bo))) l,.pf [(.pair (.i .i64) (.pair (.i .i64) .bo))] .bo p.1 p.2,.val (.i .i64) (((List.length l):Nat):Int),.val (.i .i64) x],fun e x=>[]⟩)]
set_option maxRecDepth 100000 in
theorem J7 (d:(List (Int×Int×Bool))×((Int×Int×Bool→Prop)×(Int×Int×Bool→Bool))):gwp (QV) (J3 d.1 d.2) c98 0 (WE [.tmp 4] (QP d) (QR d)) (Qp 19 (AL.can QT d))=Qd d.1 d.2:=by kernel_rfl
abbrev J4:Prop:=OkC Tryz.prog 98 Qt
theorem J8 (h:∀ (l:List (Int×Int×Bool)) (p:(Int×Int×Bool→Prop)×(Int×Int×Bool→Bool)),(l.length≤1000000∧∀ x∈l,p.1 x)→Qd l p):OkC Tryz.prog 98 Qt :=
 Qz Q89 mixed (C:=QV) (V:=fun (d:(List (Int×Int×Bool))×((Int×Int×Bool→Prop)×(Int×Int×Bool→Bool)))=>Qd d.1 d.2) ⟨.nil,XsOk.nil,ItsOk.nil,YlOk.nil,IysOk.nil,XfOk.nil⟩ (J7) fun d hp=>h d.1 d.2 hp
theorem J6:J4:=J8 fun l p hp=>by
 unfold Qd;(try delta lI gD sT I64);simp only[true_and,and_true,exists_eq_left',exists_const,decide_eq_true_eq,decide_eq_false_iff_not];refine LoopP.count l.length (fun k=>(l.take k).any p.2=false) (by simp) fun k bE hJ q hq=>?_;simp only[Int.toNat_natCast,Int.ofNat_lt,QM];refine⟨fun ah=>?_,fun bg=>?_⟩
 ·have ah:k<l.length:=by omega
  rw[Qa ah];refine⟨by omega,by omega,hp.2 _ (List.getElem_mem ah),fun hx=>?_,fun hx=>⟨by omega,hq ah ?_⟩⟩
  ·rw[Q14 ah hx hJ]
  ·rw[Qu ah,List.any_append,hJ];simp[hx]
 ·rw[List.take_of_length_le (by omega)] at hJ;rw[Er hJ]
def QL:AL ((List (Int×Int×Bool))×((Int×Int×Bool→Prop)×(Int×Int×Bool→Bool))):=(.cons (.k (.list (.pair (.i .i64) (.pair (.i .i64) .bo)))) (.one (.fn [(.pair (.i .i64) (.pair (.i .i64) .bo))] .bo)))
def ZE (d:(List (Int×Int×Bool))×((Int×Int×Bool→Prop)×(Int×Int×Bool→Bool))):Prop:=d.1.length≤1000000∧∀ x∈d.1,d.2.1 x
def QH (d:(List (Int×Int×Bool))×((Int×Int×Bool→Prop)×(Int×Int×Bool→Bool))):SV:=.val .bo (d.1.any d.2.2)
def QI (d:(List (Int×Int×Bool))×((Int×Int×Bool→Prop)×(Int×Int×Bool→Bool))):List OB:=[]
def Qm:CSp:=W8 QL ZE QH QI
def Qb (l:List (Int×Int×Bool)) (p:(Int×Int×Bool→Prop)×(Int×Int×Bool→Bool)):Prop :=
 (l.length≤1000000∧∀ x∈l,(fun (x1:Int×Int×Bool)=>p.1 (x1.1,(x1.2.1,x1.2.2))) x)∧((decide ((Q1d l (fun (x1:Int×Int×Bool)=>(p.2 (x1.1,(x1.2.1,x1.2.2)))))≥(0:Int)))=(l.any p.2)∧(True))
def QK:Cx:=⟨[],[(98,Qt)],9,[],0,[],[],[],[],false,[],[],[],[]⟩
def ZP (l:List (Int×Int×Bool)) (p:(Int×Int×Bool→Prop)×(Int×Int×Bool→Bool)):List (Nat×LoopAnn):=[]
set_option maxRecDepth 100000 in
theorem ZN (d:(List (Int×Int×Bool))×((Int×Int×Bool→Prop)×(Int×Int×Bool→Bool))):gwp (QK) (ZP d.1 d.2) c76 0 (WE [.tmp 4] (QH d) (QI d)) (Qp 9 (AL.can QL d))=Qb d.1 d.2:=by kernel_rfl
abbrev ZR:Prop:=OkC Tryz.prog 76 Qm
theorem ZQ (h:∀ (l:List (Int×Int×Bool)) (p:(Int×Int×Bool→Prop)×(Int×Int×Bool→Bool)),(l.length≤1000000∧∀ x∈l,p.1 x)→Qb l p):OkC Tryz.prog 76 Qm :=
 Qz Q95 mixed (C:=QK) (V:=fun (d:(List (Int×Int×Bool))×((Int×Int×Bool→Prop)×(Int×Int×Bool→Bool)))=>Qb d.1 d.2) ⟨(.cons J6 .nil),XsOk.nil,ItsOk.nil,YlOk.nil,IysOk.nil,XfOk.nil⟩ (ZN) fun d hp=>h d.1 d.2 hp
theorem ZO:ZR:=ZQ fun l p hp=>by simp only[Qb];exact⟨hp,Q39 l p.2,trivial⟩
def Ws:AL (Int×List (Int×Int×Bool)):=(.cons (.k (.i .i64)) (.one (.k (.list (.pair (.i .i64) (.pair (.i .i64) .bo))))))
def U8 (d:Int×List (Int×Int×Bool)):Prop:=1≤d.1∧d.1≤24∧d.2.length≤1000000
def X_ (d:Int×List (Int×Int×Bool)):SV:=.val .bo (!d.2.isEmpty&&!(d.2.any fun c=>!ZT d.1 c))
def W2 (d:Int×List (Int×Int×Bool)):List OB:=[]
def Zf:CSp:=W8 Ws U8 X_ W2
def Zu (f:Int) (cs:List (Int×Int×Bool)):Prop :=
 ((decide ((lI cs) > (0:Int)))=true→cs.length≤1000000∧∀ x∈cs,(fun (x1:Int×Int×Bool)=>1≤f∧f≤24) x)∧(((decide ((lI cs) > (0:Int)))&&(!(cs.any (fun (x1:Int×Int×Bool)=>(!ZT f (x1.1,(x1.2.1,x1.2.2)))))))=(!cs.isEmpty&&!(cs.any fun c=>!ZT f c))∧(True))
def Wm:Cx:=⟨[],[(76,Qm),(75,Jn)],16,[],0,[],[],[],[],false,[],[],[],[]⟩
def UU (f:Int) (cs:List (Int×Int×Bool)):List (Nat×LoopAnn):=[]
set_option maxRecDepth 100000 in
theorem UN (d:Int×List (Int×Int×Bool)):gwp (Wm) (UU d.1 d.2) c53 0 (WE [.tmp 4] (X_ d) (W2 d)) (Qp 16 (AL.can Ws d))=Zu d.1 d.2:=by kernel_rfl
abbrev Uz:Prop:=OkC Tryz.prog 53 Zf
theorem UF (h:∀ (f:Int) (cs:List (Int×Int×Bool)),(1≤f∧f≤24∧cs.length≤1000000)→Zu f cs):OkC Tryz.prog 53 Zf :=
 Qz Q8a mixed (C:=Wm) (V:=fun (d:Int×List (Int×Int×Bool))=>Zu d.1 d.2) ⟨(.cons ZO (.cons VJ .nil)),XsOk.nil,ItsOk.nil,YlOk.nil,IysOk.nil,XfOk.nil⟩ (UN) fun d hp=>h d.1 d.2 hp
theorem JI:Uz:=UF fun f cs h=>by
 obtain⟨h1,h2,h3⟩:=h;unfold Zu;(try delta lI gD sT I64);refine⟨fun _=>⟨h3,fun _ _=>⟨h1,h2⟩⟩,?_⟩;have:decide ((cs.length:Int) > 0)=!cs.isEmpty:=by cases cs<;>simp
 rw[this];exact(by and_intros<;>first|rfl|trivial|simp)
def Bu:Cx:=⟨[],[(22,Z2),(53,Zf)],30,[],0,[],[],[],[],false,[],[],[],[]⟩
def ND:XSp:=Q21 Bu (fun _=>[]) c36 [.cell 2 true 3,.tmp 3] 30
theorem Gv:XOk Tryz.prog 36 ND:=VI Z0q mixed (C:=Bu) ⟨(.cons ZJ (.cons JI .nil)),XsOk.nil,ItsOk.nil,YlOk.nil,IysOk.nil,XfOk.nil⟩ _
end Go.Proofs.Tryz
set_option linter.unusedVariables false
namespace Go.Proofs.Tryz
open Go Go.V Go.Proofs
def Gy:AL (Int×List Int):=(.one (.agg (.cons (.k (.i .i64)) (.one (.k (.list (.i .i64)))))))
def PQ (d:Int×List Int):Prop:=d.2.length≤1000
def Mu (d:Int×List Int):SV:=.tup [.agg [.val (.i .i64) (Dn d.1 d.2),.lst 0],.val (.i .i64) (W3 d.1 d.2)]
def NV (d:Int×List Int):List OB:=[.lst 43 (.pair (.i .i64) (.pair (.i .i64) .bo)) (T4 d.1 d.2) ((T4 d.1 d.2).isEmpty)]
def Uo:CSp:=W8 Gy PQ Mu NV
def Yg (hk:Int) (rows:List Int):Prop :=
 (True)∧((!(inI hk 1 24))=true →
  ((((0:Int)=(Dn hk rows)∧True∧(([]:List SV)=[]))∧(2:Int)=(W3 hk rows)∧(([]:List SV)=[]))∧(((T4 hk rows)=[]∧(T4 hk rows).isEmpty=true)∧True))) ∧
 ((!(inI hk 1 24))=false →
  ((decide ((lI rows) > (60:Int)))=true →
   ((((0:Int)=(Dn hk rows)∧True∧(([]:List SV)=[]))∧(5:Int)=(W3 hk rows)∧(([]:List SV)=[]))∧(((T4 hk rows)=[]∧(T4 hk rows).isEmpty=true)∧True))) ∧
  ((decide ((lI rows) > (60:Int)))=false →
   (((lI rows)==(0:Int))=true →
    ((((0:Int)=(Dn hk rows)∧True∧(([]:List SV)=[]))∧(7:Int)=(W3 hk rows)∧(([]:List SV)=[]))∧(((T4 hk rows)=[]∧(T4 hk rows).isEmpty=true)∧True))) ∧
   (((lI rows)==(0:Int))=false →
    (1≤hk∧hk≤24∧rows.length≤1000000)∧((!(!(rows.any fun n=>!inI n 0 (2 ^ hk.toNat-1))))=true →
     ((((0:Int)=(Dn hk rows)∧True∧(([]:List SV)=[]))∧(2:Int)=(W3 hk rows)∧(([]:List SV)=[]))∧(((T4 hk rows)=[]∧(T4 hk rows).isEmpty=true)∧True))) ∧
    ((!(!(rows.any fun n=>!inI n 0 (2 ^ hk.toNat-1))))=false →
     ∃ (e4:Unit) (d40:(List (Int×Int×Bool))×Int),((True∧rows=rows∧(lI rows)=(lI rows)∧(0:Int)=d40.2∧True)∧((hk=hk∧True∧(([]:List SV)=[]))∧(d40.1=[]∧(List.isEmpty d40.1)=true)∧True)) ∧
     LoopP (fun (d4:(List (Int×Int×Bool))×Int) (q4:((List (Int×Int×Bool))×Int)→Prop) =>
      ((decide (d4.2<(lI rows)))=true →
       (0≤d4.2)∧(d4.2<(List.length rows))∧(((List.length d4.1)+(List.length [(d4.2,((gD rows d4.2 0),false))]))*24≤70368744177664)∧(I64 (d4.2+(1:Int)))∧(∃ d5:(List (Int×Int×Bool))×Int,((True∧rows=rows∧(lI rows)=(lI rows)∧(d4.2+(1:Int))=d5.2∧True)∧((hk=hk∧True∧(([]:List SV)=[]))∧((d4.1++[(d4.2,((gD rows d4.2 0),false))])=d5.1∧false=(List.isEmpty d5.1))∧True))∧q4 d5)) ∧
      ((decide (d4.2<(lI rows)))=false →
       (((hk=(Dn hk rows)∧True∧(([]:List SV)=[]))∧(0:Int)=(W3 hk rows)∧(([]:List SV)=[]))∧((d4.1=(T4 hk rows)∧(List.isEmpty d4.1)=(T4 hk rows).isEmpty)∧True)))) d40))))
def Gr:Cx:=⟨[(43,(.pair (.i .i64) (.pair (.i .i64) .bo)))],[(22,Z2),(23,J2)],54,[],0,[],[],[],[],false,[],[],[],[]⟩
def Sg (hk:Int) (rows:List Int):List (Nat×LoopAnn):=[(1,⟨Unit,(List (Int×Int×Bool))×Int,[2,37,38,39],fun e x=>[.box 2 0,.val (.list (.i .i64)) rows,.val (.i .i64) (((List.length rows):Nat):Int),.val (.i .i64) x.2],fun e x=>[(2,.slot 2,.cells [.val (.i .i64) hk,.lst 50] (some 35)),(50,.cell 2 1,.lst 43 (.pair (.i .i64) (.pair (.i .i64) .bo)) x.1 (List.isEmpty x.1))]⟩)]
set_option maxRecDepth 100000 in
theorem Sv (d:Int×List Int):gwp (Gr) (Sg d.1 d.2) c6 0 (WE [.cell 2 true 2,.tmp 3] (Mu d) (NV d)) (Qp 54 (AL.can Gy d))=Yg d.1 d.2:=by kernel_rfl
abbrev Rw:Prop:=OkC Tryz.prog 6 Uo
theorem RE (h:∀ (hk:Int) (rows:List Int),(rows.length≤1000)→Yg hk rows):OkC Tryz.prog 6 Uo :=
 Qz Z3y mixed (C:=Gr) (V:=fun (d:Int×List Int)=>Yg d.1 d.2) ⟨(.cons ZJ (.cons WL .nil)),XsOk.nil,ItsOk.nil,YlOk.nil,IysOk.nil,XfOk.nil⟩ (Sv) fun d hp=>h d.1 d.2 hp
theorem RC:Rw:=RE fun hk rows h=>by
 unfold Yg;(try delta lI gD sT I64);simp only[true_and,and_true,Bool.not_not];refine⟨fun c=>?_,fun c=>⟨fun c2=>?_,fun c2=>⟨fun c3=>?_,fun c3=>⟨?_,fun c4=>?_,fun c4=>?_⟩⟩⟩⟩
 ·exact Cg (by unfold W3;rw[if_pos c]) (by omega)
 ·have c2:=of_decide_eq_true c2;exact Cg (by unfold W3;rw[if_neg (by rw[c];decide),if_pos (by omega)]) (by omega)
 ·have c2:=of_decide_eq_false c2;have c3:rows=[]:=List.eq_nil_of_length_eq_zero (by have:=of_decide_eq_true c3;omega);exact Cg (by unfold W3;rw[if_neg (by rw[c];decide),if_neg (by omega),if_pos c3]) (by omega)
 ·have c:=SQ c;exact⟨c.1,c.2,by omega⟩
 ·have c2:=of_decide_eq_false c2;have c3:rows≠[]:=fun e=>by rw[e] at c3;cases c3
  exact Cg (by unfold W3;rw[if_neg (by rw[c];decide),if_neg (by omega),if_neg c3,if_pos c4]) (by omega)
 ·have c2:=of_decide_eq_false c2;have c3:rows≠[]:=fun e=>by rw[e] at c3;cases c3
  have e0:W3 hk rows=0:=by unfold W3;rw[if_neg (by rw[c];decide),if_neg (by omega),if_neg c3,if_neg (by rw[c4];decide)]
  have e1:Dn hk rows=hk:=by unfold Dn;rw[if_pos e0]
  have e2:T4 hk rows=Rx rows:=by unfold T4;rw[if_pos e0]
  rw[e0,e1,e2];refine⟨(),([],0),(by and_intros<;>first|rfl|trivial),?_⟩;refine LoopP.count2 rows.length (fun k l=>l=Q6e rows k) rfl ?_;rintro k l hk hJ q hq;subst hJ;dsimp only;simp only[Int.toNat_natCast];refine⟨fun g=>?_,fun g=>?_⟩
  ·have g:k<rows.length:=by have:=of_decide_eq_true g;omega
   have hl:=Q3z rows k;refine⟨by omega,by omega,by simp only[List.length_cons,List.length_nil];omega,by simp only[QM];omega,(Q6e rows (k+1),(k:Int)+1),?_,hq _ g rfl⟩;rw[Q0d];and_intros<;>first|rfl|trivial|simp
  ·have g:k=rows.length:=by have:=of_decide_eq_false g;omega
   subst g;exact(by and_intros<;>first|rfl|trivial|simp)
def KN:AL ((Int×(List (Int×Int×Bool))×Int)×Int):=(.cons (.agg (.cons (.k (.i .i64)) (.cons (.k (.list (.pair (.i .i64) (.pair (.i .i64) .bo)))) (.one (.k (.i .i64)))))) (.one (.k (.i .i64))))
def Gc (d:(Int×(List (Int×Int×Bool))×Int)×Int):Prop:=1≤d.1.2.2∧d.1.2.2≤24∧0≤d.2∧d.2<d.1.2.1.length∧∀ c∈d.1.2.1,ZT d.1.2.2 c=true
def YU (d:(Int×(List (Int×Int×Bool))×Int)×Int):SV:=.val (.i .i64) (DA d.1.2.2 (d.1.2.1.getD d.2.toNat W_))
def YO (d:(Int×(List (Int×Int×Bool))×Int)×Int):List OB:=[]
def Wd:CSp:=W8 KN Gc YU YO
def JE (hk:Int) (cs:List (Int×Int×Bool)) (f:Int) (at_:Int):Prop :=
 (0≤at_)∧(at_<(List.length cs))∧((gD cs at_ (0,(0,false))).2.2=true →
  (1≤f∧f≤24∧0≤((gD cs at_ (0,(0,false))).2.1)∧((gD cs at_ (0,(0,false))).2.1)<2 ^ f.toNat)∧((Q8p f ((gD cs at_ (0,(0,false))).2.1))=(DA f (cs.getD at_.toNat W_))∧(True))) ∧
 ((gD cs at_ (0,(0,false))).2.2=false →
  (0≤at_)∧(at_<(List.length cs))∧((gD cs at_ (0,(0,false))).2.1=(DA f (cs.getD at_.toNat W_))∧(True)))
def KF:Cx:=⟨[],[(56,Xv)],26,[],0,[],[],[],[],false,[],[],[],[]⟩
def Dv (hk:Int) (cs:List (Int×Int×Bool)) (f:Int) (at_:Int):List (Nat×LoopAnn):=[]
set_option maxRecDepth 100000 in
theorem D7 (d:(Int×(List (Int×Int×Bool))×Int)×Int):gwp (KF) (Dv d.1.1 d.1.2.1 d.1.2.2 d.2) c38 0 (WE [.tmp 4] (YU d) (YO d)) (Qp 26 (AL.can KN d))=JE d.1.1 d.1.2.1 d.1.2.2 d.2:=by kernel_rfl
abbrev Dk:Prop:=OkC Tryz.prog 38 Wd
theorem Di (h:∀ (hk:Int) (cs:List (Int×Int×Bool)) (f:Int) (at_:Int),(1≤f∧f≤24∧0≤at_∧at_<cs.length∧∀ c∈cs,ZT f c=true)→JE hk cs f at_):OkC Tryz.prog 38 Wd :=
 Qz Q9g mixed (C:=KF) (V:=fun (d:(Int×(List (Int×Int×Bool))×Int)×Int)=>JE d.1.1 d.1.2.1 d.1.2.2 d.2) ⟨(.cons NZ .nil),XsOk.nil,ItsOk.nil,YlOk.nil,IysOk.nil,XfOk.nil⟩ (D7) fun d hp=>h d.1.1 d.1.2.1 d.1.2.2 d.2 hp
theorem D4:Dk:=Di fun hk cs f at_ h=>by
 obtain⟨h1,h2,h3,h4,h5⟩:=h;unfold JE;(try delta lI gD sT I64);have hd:∀ j,cs.getD j (0,(0,false))=cs.getD j W_:=fun _=>rfl;have hj:at_.toNat<cs.length:=by omega
 have hc:=OS (h5 _ (show cs.getD at_.toNat W_∈cs by rw[Qa hj];exact List.getElem_mem hj));simp only[hd,and_true];refine⟨h3,by omega,fun c=>⟨⟨h1,h2,hc.1,hc.2⟩,?_⟩,fun c=>⟨h3,by omega,?_⟩⟩
 ·unfold DA;rw[if_pos c]
 ·unfold DA;rw[if_neg (by rw[c];decide)]
def KP:AL ((Int×(List (Int×Int×Bool))×Int)×Int×Int):=(.cons (.agg (.cons (.k (.i .i64)) (.cons (.k (.list (.pair (.i .i64) (.pair (.i .i64) .bo)))) (.one (.k (.i .i64)))))) (.cons (.k (.i .i64)) (.one (.k (.i .i64)))))
def G7 (d:(Int×(List (Int×Int×Bool))×Int)×Int×Int):Prop:=d.1.2.1≠[]∧d.1.2.1.length≤1000∧-1000000≤d.2.1∧d.2.1≤1000000∧-1000000≤d.2.2∧d.2.2≤1000000
def YT (d:(Int×(List (Int×Int×Bool))×Int)×Int×Int):SV:=.val (.i .i64) (Int.tmod (d.2.1+d.2.2) d.1.2.1.length)
def YN (d:(Int×(List (Int×Int×Bool))×Int)×Int×Int):List OB:=[]
def Wi:CSp:=W8 KP G7 YT YN
def JH (hk:Int) (cs:List (Int×Int×Bool)) (f:Int) (at_:Int) (st:Int):Prop :=
 (I64 (at_+st))∧((lI cs)≠0)∧((Int.tmod (at_+st) (lI cs))=(Int.tmod (at_+st) cs.length)∧(True))
def KU:Cx:=⟨[],[],15,[],0,[],[],[],[],false,[],[],[],[]⟩
def Dw (hk:Int) (cs:List (Int×Int×Bool)) (f:Int) (at_:Int) (st:Int):List (Nat×LoopAnn):=[]
set_option maxRecDepth 100000 in
theorem Dl (d:(Int×(List (Int×Int×Bool))×Int)×Int×Int):gwp (KU) (Dw d.1.1 d.1.2.1 d.1.2.2 d.2.1 d.2.2) c39 0 (WE [.tmp 6] (YT d) (YN d)) (Qp 15 (AL.can KP d))=JH d.1.1 d.1.2.1 d.1.2.2 d.2.1 d.2.2:=by kernel_rfl
abbrev Dq:Prop:=OkC Tryz.prog 39 Wi
theorem De (h:∀ (hk:Int) (cs:List (Int×Int×Bool)) (f:Int) (at_:Int) (st:Int),(cs≠[]∧cs.length≤1000∧-1000000≤at_∧at_≤1000000∧-1000000≤st∧st≤1000000)→JH hk cs f at_ st):OkC Tryz.prog 39 Wi :=
 Qz Q7w mixed (C:=KU) (V:=fun (d:(Int×(List (Int×Int×Bool))×Int)×Int×Int)=>JH d.1.1 d.1.2.1 d.1.2.2 d.2.1 d.2.2) ⟨.nil,XsOk.nil,ItsOk.nil,YlOk.nil,IysOk.nil,XfOk.nil⟩ (Dl) fun d hp=>h d.1.1 d.1.2.1 d.1.2.2 d.2.1 d.2.2 hp
theorem Df:Dq:=De fun hk cs f at_ st h=>by obtain⟨h1,h2,h3,h4,h5,h6⟩:=h;unfold JH;(try delta lI gD sT I64);have:=List.length_pos_iff.2 h1;exact⟨by simp only[QM];omega,by omega,rfl,trivial⟩
def GJ:AL ((Int×List (Int×Int×Bool))×Int×List Int):=(.cons (.agg (.cons (.k (.i .i64)) (.one (.k (.list (.pair (.i .i64) (.pair (.i .i64) .bo))))))) (.cons (.k (.i .i64)) (.one (.k (.list (.i .i64))))))
def Rk (d:(Int×List (Int×Int×Bool))×Int×List Int):Prop:=d.1.2.length≤1000∧d.2.2.length≤1000
def NF (d:(Int×List (Int×Int×Bool))×Int×List Int):SV:=.tup [.lst 0,.val (.i .i64) (Wp d.1.1 d.1.2 d.2.1 d.2.2),.val (.i .i64) (Zd d.1.1 d.1.2 d.2.1 d.2.2)]
def ME (d:(Int×List (Int×Int×Bool))×Int×List Int):List OB:=[.lst 3 (.i .i64) (Yf d.1.1 d.1.2 d.2.1 d.2.2) ((Yf d.1.1 d.1.2 d.2.1 d.2.2).isEmpty)]
def Up:CSp:=W8 GJ Rk NF ME
def Yh (hk:Int) (cs:List (Int×Int×Bool)) (a:Int) (st:List Int):Prop :=
 ∀ w1:List Value,(True)∧((!(inI hk 1 24))=true →
  w1=w1∧(((3:Int) != (0:Int))=true →
   ((True∧(0:Int)=(Wp hk cs a st)∧(3:Int)=(Zd hk cs a st)∧(([]:List SV)=[]))∧(((Yf hk cs a st)=[]∧(Yf hk cs a st).isEmpty=true)∧True))) ∧
  (((3:Int) != (0:Int))=false →
   (I64 ((lI cs)-(1:Int)))∧([a].length≤1000000)∧((!(!([a].any fun n=>decide (n<(0:Int))||decide (((lI cs)-(1:Int))<n))))=true →
    ((True∧(0:Int)=(Wp hk cs a st)∧(7:Int)=(Zd hk cs a st)∧(([]:List SV)=[]))∧(((Yf hk cs a st)=[]∧(Yf hk cs a st).isEmpty=true)∧True))) ∧
   ((!(!([a].any fun n=>decide (n<(0:Int))||decide (((lI cs)-(1:Int))<n))))=false →
    ((decide ((lI st) > (60:Int)))=true →
     ((True∧(0:Int)=(Wp hk cs a st)∧(5:Int)=(Zd hk cs a st)∧(([]:List SV)=[]))∧(((Yf hk cs a st)=[]∧(Yf hk cs a st).isEmpty=true)∧True))) ∧
    ((decide ((lI st) > (60:Int)))=false →
     (st.length≤1000000)∧((!(!(st.any fun n=>decide (n<(0:Int))||decide ((2:Int)<n))))=true →
      ((True∧(0:Int)=(Wp hk cs a st)∧(2:Int)=(Zd hk cs a st)∧(([]:List SV)=[]))∧(((Yf hk cs a st)=[]∧(Yf hk cs a st).isEmpty=true)∧True))) ∧
     ((!(!(st.any fun n=>decide (n<(0:Int))||decide ((2:Int)<n))))=false →
      ∃ (e5:Unit) (d50:(List Int)×Int×Int),((True∧a=d50.2.1∧True∧st=st∧(lI st)=(lI st)∧(0:Int)=d50.2.2∧True)∧((d50.1=[]∧(List.isEmpty d50.1)=true)∧(hk=hk∧cs=cs∧hk=hk∧(([]:List SV)=[]))∧True)) ∧
      LoopP (fun (d5:(List Int)×Int×Int) (q5:((List Int)×Int×Int)→Prop) =>
       ((decide (d5.2.2<(lI st)))=true →
        (0≤d5.2.2)∧(d5.2.2<(List.length st))∧(1≤hk∧hk≤24∧0≤d5.2.1∧d5.2.1<cs.length∧∀ c∈cs,ZT hk c=true)∧(((List.length d5.1)+(List.length [(DA hk (cs.getD d5.2.1.toNat W_))]))*8≤70368744177664)∧(cs≠[]∧cs.length≤1000∧-1000000≤d5.2.1∧d5.2.1≤1000000∧-1000000≤(gD st d5.2.2 0)∧(gD st d5.2.2 0)≤1000000)∧(I64 (d5.2.2+(1:Int)))∧(∃ d6:(List Int)×Int×Int,((True∧(Int.tmod (d5.2.1+(gD st d5.2.2 0)) cs.length)=d6.2.1∧True∧st=st∧(lI st)=(lI st)∧(d5.2.2+(1:Int))=d6.2.2∧True)∧(((d5.1++[(DA hk (cs.getD d5.2.1.toNat W_))])=d6.1∧false=(List.isEmpty d6.1))∧(hk=hk∧cs=cs∧hk=hk∧(([]:List SV)=[]))∧True))∧q5 d6)) ∧
       ((decide (d5.2.2<(lI st)))=false →
        ((True∧d5.2.1=(Wp hk cs a st)∧(0:Int)=(Zd hk cs a st)∧(([]:List SV)=[]))∧((d5.1=(Yf hk cs a st)∧(List.isEmpty d5.1)=(Yf hk cs a st).isEmpty)∧True)))) d50))))) ∧
 ((!(inI hk 1 24))=false →
  ((decide ((lI cs) > (60:Int)))=true →
   w1=w1∧(((5:Int) != (0:Int))=true →
    ((True∧(0:Int)=(Wp hk cs a st)∧(5:Int)=(Zd hk cs a st)∧(([]:List SV)=[]))∧(((Yf hk cs a st)=[]∧(Yf hk cs a st).isEmpty=true)∧True))) ∧
   (((5:Int) != (0:Int))=false →
    (I64 ((lI cs)-(1:Int)))∧([a].length≤1000000)∧((!(!([a].any fun n=>decide (n<(0:Int))||decide (((lI cs)-(1:Int))<n))))=true →
     ((True∧(0:Int)=(Wp hk cs a st)∧(7:Int)=(Zd hk cs a st)∧(([]:List SV)=[]))∧(((Yf hk cs a st)=[]∧(Yf hk cs a st).isEmpty=true)∧True))) ∧
    ((!(!([a].any fun n=>decide (n<(0:Int))||decide (((lI cs)-(1:Int))<n))))=false →
     ((decide ((lI st) > (60:Int)))=true →
      ((True∧(0:Int)=(Wp hk cs a st)∧(5:Int)=(Zd hk cs a st)∧(([]:List SV)=[]))∧(((Yf hk cs a st)=[]∧(Yf hk cs a st).isEmpty=true)∧True))) ∧
     ((decide ((lI st) > (60:Int)))=false →
      (st.length≤1000000)∧((!(!(st.any fun n=>decide (n<(0:Int))||decide ((2:Int)<n))))=true →
       ((True∧(0:Int)=(Wp hk cs a st)∧(2:Int)=(Zd hk cs a st)∧(([]:List SV)=[]))∧(((Yf hk cs a st)=[]∧(Yf hk cs a st).isEmpty=true)∧True))) ∧
      ((!(!(st.any fun n=>decide (n<(0:Int))||decide ((2:Int)<n))))=false →
       ∃ (sZ:Unit) (d100:(List Int)×Int×Int),((True∧a=d100.2.1∧True∧st=st∧(lI st)=(lI st)∧(0:Int)=d100.2.2∧True)∧((d100.1=[]∧(List.isEmpty d100.1)=true)∧(hk=hk∧cs=cs∧hk=hk∧(([]:List SV)=[]))∧True)) ∧
       LoopP (fun (d10:(List Int)×Int×Int) (vC:((List Int)×Int×Int)→Prop) =>
        ((decide (d10.2.2<(lI st)))=true →
         (0≤d10.2.2)∧(d10.2.2<(List.length st))∧(1≤hk∧hk≤24∧0≤d10.2.1∧d10.2.1<cs.length∧∀ c∈cs,ZT hk c=true)∧(((List.length d10.1)+(List.length [(DA hk (cs.getD d10.2.1.toNat W_))]))*8≤70368744177664)∧(cs≠[]∧cs.length≤1000∧-1000000≤d10.2.1∧d10.2.1≤1000000∧-1000000≤(gD st d10.2.2 0)∧(gD st d10.2.2 0)≤1000000)∧(I64 (d10.2.2+(1:Int)))∧(∃ d11:(List Int)×Int×Int,((True∧(Int.tmod (d10.2.1+(gD st d10.2.2 0)) cs.length)=d11.2.1∧True∧st=st∧(lI st)=(lI st)∧(d10.2.2+(1:Int))=d11.2.2∧True)∧(((d10.1++[(DA hk (cs.getD d10.2.1.toNat W_))])=d11.1∧false=(List.isEmpty d11.1))∧(hk=hk∧cs=cs∧hk=hk∧(([]:List SV)=[]))∧True))∧vC d11)) ∧
        ((decide (d10.2.2<(lI st)))=false →
         ((True∧d10.2.1=(Wp hk cs a st)∧(0:Int)=(Zd hk cs a st)∧(([]:List SV)=[]))∧((d10.1=(Yf hk cs a st)∧(List.isEmpty d10.1)=(Yf hk cs a st).isEmpty)∧True)))) d100))))) ∧
  ((decide ((lI cs) > (60:Int)))=false →
   (1≤hk∧hk≤24∧cs.length≤1000000)∧((!(!cs.isEmpty&&!(cs.any fun c=>!ZT hk c)))=true →
    w1=w1∧(((2:Int) != (0:Int))=true →
     ((True∧(0:Int)=(Wp hk cs a st)∧(2:Int)=(Zd hk cs a st)∧(([]:List SV)=[]))∧(((Yf hk cs a st)=[]∧(Yf hk cs a st).isEmpty=true)∧True))) ∧
    (((2:Int) != (0:Int))=false →
     (I64 ((lI cs)-(1:Int)))∧([a].length≤1000000)∧((!(!([a].any fun n=>decide (n<(0:Int))||decide (((lI cs)-(1:Int))<n))))=true →
      ((True∧(0:Int)=(Wp hk cs a st)∧(7:Int)=(Zd hk cs a st)∧(([]:List SV)=[]))∧(((Yf hk cs a st)=[]∧(Yf hk cs a st).isEmpty=true)∧True))) ∧
     ((!(!([a].any fun n=>decide (n<(0:Int))||decide (((lI cs)-(1:Int))<n))))=false →
      ((decide ((lI st) > (60:Int)))=true →
       ((True∧(0:Int)=(Wp hk cs a st)∧(5:Int)=(Zd hk cs a st)∧(([]:List SV)=[]))∧(((Yf hk cs a st)=[]∧(Yf hk cs a st).isEmpty=true)∧True))) ∧
      ((decide ((lI st) > (60:Int)))=false →
       (st.length≤1000000)∧((!(!(st.any fun n=>decide (n<(0:Int))||decide ((2:Int)<n))))=true →
        ((True∧(0:Int)=(Wp hk cs a st)∧(2:Int)=(Zd hk cs a st)∧(([]:List SV)=[]))∧(((Yf hk cs a st)=[]∧(Yf hk cs a st).isEmpty=true)∧True))) ∧
       ((!(!(st.any fun n=>decide (n<(0:Int))||decide ((2:Int)<n))))=false →
        ∃ (bn:Unit) (e9:(List Int)×Int×Int),((True∧a=e9.2.1∧True∧st=st∧(lI st)=(lI st)∧(0:Int)=e9.2.2∧True)∧((e9.1=[]∧(List.isEmpty e9.1)=true)∧(hk=hk∧cs=cs∧hk=hk∧(([]:List SV)=[]))∧True)) ∧
        LoopP (fun (d15:(List Int)×Int×Int) (rF:((List Int)×Int×Int)→Prop) =>
         ((decide (d15.2.2<(lI st)))=true →
          (0≤d15.2.2)∧(d15.2.2<(List.length st))∧(1≤hk∧hk≤24∧0≤d15.2.1∧d15.2.1<cs.length∧∀ c∈cs,ZT hk c=true)∧(((List.length d15.1)+(List.length [(DA hk (cs.getD d15.2.1.toNat W_))]))*8≤70368744177664)∧(cs≠[]∧cs.length≤1000∧-1000000≤d15.2.1∧d15.2.1≤1000000∧-1000000≤(gD st d15.2.2 0)∧(gD st d15.2.2 0)≤1000000)∧(I64 (d15.2.2+(1:Int)))∧(∃ d16:(List Int)×Int×Int,((True∧(Int.tmod (d15.2.1+(gD st d15.2.2 0)) cs.length)=d16.2.1∧True∧st=st∧(lI st)=(lI st)∧(d15.2.2+(1:Int))=d16.2.2∧True)∧(((d15.1++[(DA hk (cs.getD d15.2.1.toNat W_))])=d16.1∧false=(List.isEmpty d16.1))∧(hk=hk∧cs=cs∧hk=hk∧(([]:List SV)=[]))∧True))∧rF d16)) ∧
         ((decide (d15.2.2<(lI st)))=false →
          ((True∧d15.2.1=(Wp hk cs a st)∧(0:Int)=(Zd hk cs a st)∧(([]:List SV)=[]))∧((d15.1=(Yf hk cs a st)∧(List.isEmpty d15.1)=(Yf hk cs a st).isEmpty)∧True)))) e9))))) ∧
   ((!(!cs.isEmpty&&!(cs.any fun c=>!ZT hk c)))=false →
    w1=w1∧(((0:Int) != (0:Int))=true →
     ((True∧(0:Int)=(Wp hk cs a st)∧(0:Int)=(Zd hk cs a st)∧(([]:List SV)=[]))∧(((Yf hk cs a st)=[]∧(Yf hk cs a st).isEmpty=true)∧True))) ∧
    (((0:Int) != (0:Int))=false →
     (I64 ((lI cs)-(1:Int)))∧([a].length≤1000000)∧((!(!([a].any fun n=>decide (n<(0:Int))||decide (((lI cs)-(1:Int))<n))))=true →
      ((True∧(0:Int)=(Wp hk cs a st)∧(7:Int)=(Zd hk cs a st)∧(([]:List SV)=[]))∧(((Yf hk cs a st)=[]∧(Yf hk cs a st).isEmpty=true)∧True))) ∧
     ((!(!([a].any fun n=>decide (n<(0:Int))||decide (((lI cs)-(1:Int))<n))))=false →
      ((decide ((lI st) > (60:Int)))=true →
       ((True∧(0:Int)=(Wp hk cs a st)∧(5:Int)=(Zd hk cs a st)∧(([]:List SV)=[]))∧(((Yf hk cs a st)=[]∧(Yf hk cs a st).isEmpty=true)∧True))) ∧
      ((decide ((lI st) > (60:Int)))=false →
       (st.length≤1000000)∧((!(!(st.any fun n=>decide (n<(0:Int))||decide ((2:Int)<n))))=true →
        ((True∧(0:Int)=(Wp hk cs a st)∧(2:Int)=(Zd hk cs a st)∧(([]:List SV)=[]))∧(((Yf hk cs a st)=[]∧(Yf hk cs a st).isEmpty=true)∧True))) ∧
       ((!(!(st.any fun n=>decide (n<(0:Int))||decide ((2:Int)<n))))=false →
        ∃ (s5:Unit) (iQ:(List Int)×Int×Int),((True∧a=iQ.2.1∧True∧st=st∧(lI st)=(lI st)∧(0:Int)=iQ.2.2∧True)∧((iQ.1=[]∧(List.isEmpty iQ.1)=true)∧(hk=hk∧cs=cs∧hk=hk∧(([]:List SV)=[]))∧True)) ∧
        LoopP (fun (d20:(List Int)×Int×Int) (vD:((List Int)×Int×Int)→Prop) =>
         ((decide (d20.2.2<(lI st)))=true →
          (0≤d20.2.2)∧(d20.2.2<(List.length st))∧(1≤hk∧hk≤24∧0≤d20.2.1∧d20.2.1<cs.length∧∀ c∈cs,ZT hk c=true)∧(((List.length d20.1)+(List.length [(DA hk (cs.getD d20.2.1.toNat W_))]))*8≤70368744177664)∧(cs≠[]∧cs.length≤1000∧-1000000≤d20.2.1∧d20.2.1≤1000000∧-1000000≤(gD st d20.2.2 0)∧(gD st d20.2.2 0)≤1000000)∧(I64 (d20.2.2+(1:Int)))∧(∃ d21:(List Int)×Int×Int,((True∧(Int.tmod (d20.2.1+(gD st d20.2.2 0)) cs.length)=d21.2.1∧True∧st=st∧(lI st)=(lI st)∧(d20.2.2+(1:Int))=d21.2.2∧True)∧(((d20.1++[(DA hk (cs.getD d20.2.1.toNat W_))])=d21.1∧false=(List.isEmpty d21.1))∧(hk=hk∧cs=cs∧hk=hk∧(([]:List SV)=[]))∧True))∧vD d21)) ∧
         ((decide (d20.2.2<(lI st)))=false →
          ((True∧d20.2.1=(Wp hk cs a st)∧(0:Int)=(Zd hk cs a st)∧(([]:List SV)=[]))∧((d20.1=(Yf hk cs a st)∧(List.isEmpty d20.1)=(Yf hk cs a st).isEmpty)∧True)))) iQ)))))))
def GY:Cx:=⟨[(3,(.i .i64))],[(22,Z2),(37,JN),(38,Wd),(39,Wi),(53,Zf)],58,[],0,[(36,ND)],[],[],[],false,[],[],[],[]⟩
def RI (hk:Int) (cs:List (Int×Int×Bool)) (a:Int) (st:List Int):List (Nat×LoopAnn):=[(1,⟨Unit,(List Int)×Int×Int,[6,7,9,39,40,41],fun e x=>[.lst 50,.val (.i .i64) x.2.1,.box 9 0,.val (.list (.i .i64)) st,.val (.i .i64) (((List.length st):Nat):Int),.val (.i .i64) x.2.2],fun e x=>[(50,.slot 6,.lst 3 (.i .i64) x.1 (List.isEmpty x.1)),(9,.slot 9,.cells [.val (.i .i64) hk,.val (.list (.pair (.i .i64) (.pair (.i .i64) .bo))) cs,.val (.i .i64) hk] (some 66))]⟩)]
set_option maxRecDepth 100000 in
theorem Sb (d:(Int×List (Int×Int×Bool))×Int×List Int):gwp (GY) (RI d.1.1 d.1.2 d.2.1 d.2.2) c14 0 (WE [.tmp 6,.tmp 7,.tmp 8] (NF d) (ME d)) (Qp 58 (AL.can GJ d))=Yh d.1.1 d.1.2 d.2.1 d.2.2:=by kernel_rfl
abbrev RF:Prop:=OkC Tryz.prog 14 Up
theorem Sl (h:∀ (hk:Int) (cs:List (Int×Int×Bool)) (a:Int) (st:List Int),(cs.length≤1000∧st.length≤1000)→Yh hk cs a st):OkC Tryz.prog 14 Up :=
 Qz Q9d mixed (C:=GY) (V:=fun (d:(Int×List (Int×Int×Bool))×Int×List Int)=>Yh d.1.1 d.1.2 d.2.1 d.2.2) ⟨(.cons ZJ (.cons Wh (.cons D4 (.cons Df (.cons JI .nil))))),(XsOk.cons Gv XsOk.nil),ItsOk.nil,YlOk.nil,IysOk.nil,XfOk.nil⟩ (Sb) fun d hp=>h d.1.1 d.1.2 d.2.1 d.2.2 hp
end Go.Proofs.Tryz
set_option linter.unusedVariables false
namespace Go.Proofs.Tryz
open Go Go.V Go.Proofs
theorem Sy:RF:=Sl fun hk cs a st h=>by
 obtain⟨h1,h2⟩:=h;unfold Yh;(try delta lI gD sT I64);intro vals;have e:∀ n a b:Int,(decide (n<a)||decide (b<n))=!inI n a b:=fun n a b=>(nI n a b).symm;simp only[true_and,and_true,List.any_cons,List.any_nil,Bool.or_false,e,Bool.not_not,List.length_cons,List.length_nil];refine⟨fun c=>⟨fun _=>?_,(fun d=>by cases d)⟩,fun c=>⟨fun c2=>⟨fun _=>?_,(fun d=>by cases d)⟩,fun c2=>⟨?_,fun c3=>⟨fun _=>?_,(fun d=>by cases d)⟩,fun c3=>⟨(fun d=>by cases d),fun _=>?_⟩⟩⟩⟩
 ·have hb:Js hk cs=3:=by unfold Js;rw[if_pos c]
  exact V_ (by unfold Zd;rw[hb];rfl) (by omega)
 ·have c2:=of_decide_eq_true c2;have hb:Js hk cs=5:=by unfold Js;rw[if_neg (by rw[c];decide),if_pos (by omega)]
  exact V_ (by unfold Zd;rw[hb];rfl) (by omega)
 ·have c:=SQ c;exact⟨c.1,c.2,by omega⟩
 ·have c2:=of_decide_eq_false c2;have hb:=Q38 c (by omega) c3;exact V_ (by unfold Zd;rw[hb];rfl) (by omega)
 ·have c2:=of_decide_eq_false c2;obtain⟨hb,aA,aj⟩:=Q0m c (by omega) c3;have hc:=SQ c;have dN:=List.length_pos_iff.2 aA;refine⟨by simp only[QM];omega,by omega,fun c4=>?_,fun c4=>⟨fun c5=>?_,fun c5=>⟨by omega,fun c6=>?_,fun c6=>?_⟩⟩⟩
  ·exact V_ (by unfold Zd;rw[hb,if_neg (by omega),if_pos c4]) (by omega)
  ·have c5:=of_decide_eq_true c5;exact V_ (by unfold Zd;rw[hb,if_neg (by omega),if_neg (by rw[c4];decide),if_pos (by omega)]) (by omega)
  ·have c5:=of_decide_eq_false c5;exact V_ (by unfold Zd;rw[hb,if_neg (by omega),if_neg (by rw[c4];decide),if_neg (by omega),if_pos c6]) (by omega)
  ·have c5:=of_decide_eq_false c5;have e0:Zd hk cs a st=0:=by unfold Zd;rw[hb,if_neg (by omega),if_neg (by rw[c4];decide),if_neg (by omega),if_neg (by rw[c6];decide)]
   have e1:Wp hk cs a st=atK cs.length a st st.length:=by unfold Wp;rw[if_pos e0]
   have e2:Yf hk cs a st=RN hk cs a st st.length:=by unfold Yf;rw[if_pos e0]
   have ha:=SQ c4;have a_:∀ s∈st,0≤s∧s≤2:=fun s hs=>by have:=List.any_eq_false.1 c6 s hs;exact SQ (by simpa using this)
   rw[e0,e1,e2];refine⟨(),([],a,0),(by and_intros<;>first|rfl|trivial),?_⟩;refine⟨fun d=>∃ k:Nat,d.2.2=k∧k≤st.length∧d.1=RN hk cs a st k∧d.2.1=atK cs.length a st k,fun d=>st.length-d.2.2.toNat,⟨0,rfl,by omega,rfl,rfl⟩,?_⟩;rintro⟨l,p,k'⟩ ⟨k,f1,f2,f3,f4⟩;dsimp only at f1 f3 f4 ⊢;subst f1 f3 f4;have aP:=Q5k (a:=a) (st:=st) dN (by omega) (by omega) (fun s hs=>(a_ s hs).1) k;simp only[Int.toNat_natCast];refine⟨fun g=>?_,fun g=>?_⟩
   ·have g:k<st.length:=by have:=of_decide_eq_true g;omega
    have hs:=a_ (st.getD k 0) (by rw[Qa g];exact List.getElem_mem g);have hl:=Ed hk cs a st k;refine⟨by omega,by omega,⟨hc.1,hc.2,aP.1,by omega,aj⟩,by omega,⟨aA,h1,by omega,by omega,by omega,by omega⟩,by simp only[QM];omega,(RN hk cs a st (k+1),atK cs.length a st (k+1),(k:Int)+1),?_,⟨k+1,by simp,by omega,rfl,rfl⟩,by dsimp only;omega⟩;rw[Oa];and_intros<;>first|rfl|trivial|simp
   ·have g:k=st.length:=by have:=of_decide_eq_false g;omega
    subst g;exact(by and_intros<;>first|rfl|trivial|simp)
end Go.Proofs.Tryz