/- A framework for walks, contracts of functions, and their proofs: part 5. -/
import Derived.Test.YthponhelanafhaaGreatDoorR4
namespace Go.V
open Go
section
variable {P:Program}{B F:Heap}{pl:Nat→Value}{tb:Nat→Option Bool}{s:St}{env:Env}{σ:Heap}
theorem VG {k k':Kind}{xs:List k.T}{ys:List k'.T}(h:NU (k:=.list k) xs (k':=.list k') ys):∃ e:k'=k,e▸ys=xs:=by
 unfold NU at h;split at h
 ·rename_i z hz;have e:=Rn hz;obtain rfl:=Kind.list.inj e;obtain rfl:=R7 hz;exact⟨rfl,h⟩
 ·exact h.elim
theorem Zc (hG:Gam P B F pl tb s env σ) {mp:List (Nat×Option Nat)}{t:Nat}{b:OB}(h:Q07 s mp t b) :
  OR P B (NQ pl mp) JZ σ (NQ pl mp t) b∧(b.live=true→∀ i,Oid (NQ pl mp t) i→∃ a,Qu mp t=some (some a)∧(Qc s.own a).live=true∧Oid (pl a) i):=by
 unfold Q07 at h;split at h
 ·rename_i a ha;have aO:NQ pl mp t=pl a:=by simp[NQ,ha]
  rw[aO];have ak:=hG.obj a;split at h
  ·exact⟨trivial,fun h=>by cases h⟩
  ·rename_i ty k xs nl lr k' cn kC ho;split at h
   ·rename_i e;subst e;obtain⟨h1,rfl⟩:=h;obtain⟨rfl,rfl⟩:=VG h1;rw[ho] at ak;exact⟨ak,fun _ i hi=>⟨a,ha,by rw[ho];rfl,hi⟩⟩
   ·exact h.elim
  ·rename_i l u l' u' ho;split at h
   ·rename_i e0;subst e0;rw[ho] at ak;obtain⟨i,c,e,t',h1,h2,h3,h4⟩:=ak;exact⟨⟨i,c,e,t',h1,h2,ZY l l' c h h3,h4⟩,fun _ i hi=>⟨a,ha,by rw[ho];rfl,hi⟩⟩
   ·exact h.elim
  ·rename_i kk vk m kD mD m' ho;split at h
   ·obtain⟨e,h1⟩:=VG h;obtain⟨rfl,rfl⟩:=Kind.pair.inj e;subst h1;rw[ho] at ak;exact⟨ak,fun _ i hi=>⟨a,ha,by rw[ho];rfl,hi⟩⟩
   ·exact h.elim
  ·rename_i l vals l' jA ho;rw[ho] at ak;obtain⟨rfl,h⟩:=h;exact⟨ZY l l' vals h ak,fun h=>by cases h⟩
  ·rename_i l q u l' q' u' ho;rw[ho] at ak;split at h
   ·obtain⟨rfl,h⟩:=h;exact⟨⟨ak.1,ZY l l' q.vals h ak.2.1,ak.2.2⟩,fun _ i hi=>⟨a,ha,by rw[ho];rfl,hi⟩⟩
   ·obtain⟨rfl,h⟩:=h;exact⟨⟨ak.1,ZY l l' q.vals h ak.2.1,ak.2.2⟩,fun h=>by cases h⟩
   ·exact h.elim
  ·rename_i kk vk m dn kD mD m' qI ho;split at h
   ·obtain⟨h,rfl⟩:=h;obtain⟨e,h1⟩:=VG h;obtain⟨rfl,rfl⟩:=Kind.pair.inj e;subst h1;rw[ho] at ak;exact⟨ak,fun _ i hi=>⟨a,ha,by rw[ho];rfl,hi⟩⟩
   ·exact h.elim
  ·rename_i ty q k xs nl h0 lr q' k' cn kC qu ho;split at h
   ·rename_i e;obtain⟨rfl,rfl⟩:=e;split at h
    ·obtain⟨h1,rfl⟩:=h;obtain⟨rfl,rfl⟩:=VG h1;rw[ho] at ak;exact⟨ak,fun _ i hi=>⟨a,ha,by rw[ho];rfl,hi⟩⟩
    ·exact h.elim
   ·exact h.elim
  ·exact h.elim
 ·rename_i ha;have aO:NQ pl mp t=.slice none 0 0:=by simp[NQ,ha]
  rw[aO];split at h
  ·exact⟨.inl ⟨h.2,h.1,rfl⟩,fun _ i hi=>by cases hi⟩
  ·split at h
   ·obtain⟨rfl,rfl⟩:=h;refine⟨⟨[],fun i=>⟨fun h=>(by cases h),fun ⟨b,h⟩=>(by cases h)⟩,List.nodup_nil,.inl ⟨rfl,rfl,rfl⟩,fun i=>⟨fun ⟨b,h⟩=>(by cases h),fun h=>(by cases h)⟩,(fun i b h=>by cases h),by simp[phd]⟩,fun _ i hi=>by cases hi⟩
   ·exact h.elim
  ·exact h.elim
 ·exact h.elim
theorem KD {α:Type _}(l:List (Nat×α)) (t:Nat) (x:α) (d:Nat):Qu (l++[(t,x)]) d=match Qu l d with|some y=>some y|none=>if t=d then some x else none:=by
 induction l with
 |nil =>
  simp only[List.nil_append,Qu];by_cases h:t=d
  ·subst h;simp
  ·rw[XJ h];simp[h]
 |cons p l ih =>obtain⟨k,y⟩:=p;simp only[List.cons_append,Qu,ih];cases Nat.beq k d<;>rfl
theorem Lz {α:Type _}{l:List (Nat×α)}{d:Nat}{x:α}(h:Qu l d=some x):∃ p∈l,p.1=d∧p.2=x:=by
 induction l with
 |nil=>cases h
 |cons p l ih =>
  obtain⟨k,y⟩:=p;simp only[Qu] at h;cases hb:Nat.beq k d with
  |true=>rw[hb] at h;obtain rfl:=osj h;exact⟨_,List.mem_cons_self,Nat.eq_of_beq_eq_true hb,rfl⟩
  |false =>rw[hb] at h;obtain⟨p,h1,h2⟩:=ih h;exact⟨p,List.mem_cons_of_mem _ h1,h2⟩
def Inj (mp:List (Nat×Option Nat)):Prop:=∀ t t' a,Qu mp t=some (some a)→Qu mp t'=some (some a)→t=t'
theorem Ho:∀ (l:List (Nat×Src)) (mp bQ:List (Nat×Option Nat)),Q34 s l mp=some bQ→Inj mp→Inj bQ
 |[],mp,bQ,h,hi=>by obtain rfl:=osj h;exact hi
 |(t,src)::r,mp,bQ,h,hi=>by
  simp only[Q34] at h;split at h
  ·rename_i a _;split at h
   ·cases h
   ·rename_i hc;refine Ho r _ _ h ?_;have cC:∀ d,Qu mp d≠some (some a):=fun d hd=>by
     obtain⟨p,h1,h2,h3⟩:=Lz hd;apply hc;simp only[Bool.or_eq_true];exact .inl (List.any_eq_true.2 ⟨p,h1,by rw[h3];simp⟩)
    intro t1 t2 a' h1 h2;rw[KD] at h1 h2;split at h1
    ·rename_i y1 e1;split at h2
     ·rename_i y2 e2;obtain rfl:=osj h1;obtain rfl:=osj h2;exact hi t1 t2 a' e1 e2
     ·split at h2
      ·obtain rfl:=osj (osj h2);obtain rfl:=osj h1;exact absurd e1 (cC t1)
      ·cases h2
    ·split at h1
     ·rename_i e1;obtain rfl:=osj (osj h1);split at h2
      ·rename_i y2 e2;obtain rfl:=osj h2;exact absurd e2 (cC t2)
      ·split at h2
       ·rename_i e2;omega
       ·cases h2
     ·cases h1
  ·split at h
   ·cases h
   ·refine Ho r _ _ h ?_;intro t1 t2 a' h1 h2;rw[KD] at h1 h2;split at h1
    ·rename_i y1 e1;split at h2
     ·rename_i y2 e2;obtain rfl:=osj h1;obtain rfl:=osj h2;exact hi t1 t2 a' e1 e2
     ·split at h2<;>cases h2
    ·split at h1<;>cases h1
  ·cases h
theorem S2 {mp:List (Nat×Option Nat)}:∀ {ow:List (Nat×Src×OB)},gmatch.obs s mp ow→∀ p∈ow,Q07 s mp p.1 p.2.2
 |[],_,p,hp=>by cases hp
 |(t,src,b)::r,h,p,hp=>by
  simp only[gmatch.obs] at h;rcases List.mem_cons.1 hp with rfl|hp
  ·exact h.1
  ·exact S2 h.2 p hp
theorem Vv {f:List (Nat×Src×OB)}:∀ (own:Own) (t:Nat),(∃ p∈f,p.1=t∧Qc (f.foldl (fun o p=>oset o p.1 p.2.2) own) t=p.2.2)∨Qc (f.foldl (fun o p=>oset o p.1 p.2.2) own) t=Qc own t:=by
 induction f with
 |nil=>intro own t;exact .inr rfl
 |cons p f ih =>
  intro own t;simp only[List.foldl_cons];rcases ih (oset own p.1 p.2.2) t with⟨q,h1,h2⟩|h
  ·exact .inl ⟨q,List.mem_cons_of_mem _ h1,h2⟩
  ·rw[h,Qy];by_cases e:t=p.1
   ·rw[if_pos e];exact .inl ⟨p,List.mem_cons_self,e.symm,rfl⟩
   ·rw[if_neg e];exact .inr rfl
theorem Pq (hG:Gam P B F pl tb s env σ) {mp:List (Nat×Option Nat)}:∀ (st:List (Nat×SV)) {e:List SV}{eV:Env},gmatch.slots s mp st→SRs P B (NQ pl mp) JZ e eV→SRs P B (NQ pl mp) JZ (st.foldl (fun e p=>e.set p.1 p.2) e) (Xp (st.map (·.1)) (H9 (st.map (·.1)) env) eV)
 |[],e,eV,_,h=>h
 |(j,v)::r,e,eV,hs,h=>by simp only[gmatch.slots] at hs;simp only[List.foldl_cons,List.map_cons,H9,Xp];exact Pq hG r hs.2 (h.set j (Nf v _ _ hs.1 (hG.env.getD j poison)))
theorem O1 {B:Heap}{pl:Nat→Value}{tb:Nat→Option Bool}:∀ n,SRs P B pl tb (List.replicate n .any) (List.replicate n poison)
 |0=>by simp[SRs]
 |n+1=>by simp only[List.replicate_succ,SRs];exact⟨_,_,rfl,by simp[SR],O1 n⟩
theorem Bk {B0 F0 D0:Heap}(hR:GRel P B0 F0 D0 s env σ) {st:List (Nat×SV)}{ow:List (Nat×Src×OB)}(h:gmatch s st ow) (len:Nat):GRel P B0 F0 D0 (Zj len st ow) (Xp (st.map (·.1)) (H9 (st.map (·.1)) env) (List.replicate len poison)) σ:=by
 obtain⟨B,F,pl,tb,hB,hG⟩:=hR;unfold gmatch at h;split at h
 ·rename_i mp mW;obtain⟨h1,h2⟩:=h;have ec:=Ho _ _ _ mW (fun t t' a h=>by cases h);have aL:=S2 h2;have ak:∀ t,(Qc (Zj len st ow).own t).live=true→Q07 s mp t (Qc (Zj len st ow).own t):=fun t hl=>by
   rcases Vv (f:=ow) [] t with⟨p,h3,h4,h5⟩|h3
   ·have:=aL p h3;rw[h4,←h5] at this;exact this
   ·simp only[Zj] at hl;rw[h3] at hl;cases hl
  refine⟨B,F,NQ pl mp,JZ,hB,hG.bf,hG.le,Pq hG st h1 (O1 len),fun t=>?_,fun t i hl hi=>?_,fun t t' i aF hl b_ hi ck=>?_,fun _ _=>rfl⟩
  ·cases hl:(Qc (Zj len st ow).own t).live with
   |true=>exact(Zc hG (ak t hl)).1
   |false =>
    cases ho:Qc (Zj len st ow).own t with
    |dead=>trivial
    |stk l vals =>
     rcases Vv (f:=ow) [] t with⟨p,h3,h4,h5⟩|h3
     ·have:=aL p h3;simp only[Zj] at ho;rw[←h5,ho] at this;have h6:=(Zc hG this).1;rw[h4] at h6;exact h6
     ·simp only[Zj] at ho;rw[h3] at ho;cases ho
    |lpf l q u =>
     rcases Vv (f:=ow) [] t with⟨p,h3,h4,h5⟩|h3
     ·have:=aL p h3;simp only[Zj] at ho;rw[←h5,ho] at this;have h6:=(Zc hG this).1;rw[h4] at h6;exact h6
     ·simp only[Zj] at ho;rw[h3] at ho;cases ho
    |_=>rw[ho] at hl;cases hl
  ·obtain⟨a,_,h4,h5⟩:=(Zc hG (ak t hl)).2 hl i hi;exact hG.fresh a i h4 h5
  ·obtain⟨a,e1,h4,h5⟩:=(Zc hG (ak t hl)).2 hl i hi;obtain⟨a',e2,fY,pH⟩:=(Zc hG (ak t' b_)).2 b_ i ck;by_cases e:a=a'
   ·subst e;exact aF (ec t t' a e1 e2)
   ·exact hG.sep a a' i e h4 fY h5 pH
 ·exact h.elim
theorem Dt:∀ {cY ct:List SV}{vs:List Value}{B F:Heap}{s s':St},Gam P B F pl tb s env σ→SRs P B pl tb cY vs→Q21 s cY=some (s',ct) →
  ∃ B' F',GBase B F σ B' F' σ∧Gam P B' F' pl tb s' env σ∧SRs P B' XH JZ ct vs∧s'.env=s.env
 |[],ct,vs,B,F,s,s',hG,hs,h=>by simp only[Q21,Option.some.injEq,Prod.mk.injEq] at h;obtain⟨rfl,rfl⟩:=h;exact⟨B,F,.of hG.bf (.refl _),hG,hs,rfl⟩
 |v::cY,ct,vs,B,F,s,s',hG,hs,h=>by
  simp only[SRs] at hs;obtain⟨u,us,rfl,h1,h2⟩:=hs
  have mX:∀ w:SV,SR P B pl tb w u→(bif w.pure then (match Q21 s cY with|some (s',r)=>some (s',w::r)|none=>none) else none)=some (s',ct) →
    ∃ B' F',GBase B F σ B' F' σ∧Gam P B' F' pl tb s' env σ∧SRs P B' XH JZ ct (u::us)∧s'.env=s.env:=fun w hw h=>by
   cases hp:w.pure with
   |false=>rw[hp] at h;cases h
   |true =>
    rw[hp] at h;simp only[_root_.cond_true] at h;split at h
    ·rename_i s1 r heq;simp only[Option.some.injEq,Prod.mk.injEq] at h;obtain⟨rfl,rfl⟩:=h;obtain⟨B',F',k1,k2,k3,k4⟩:=Dt hG h2 heq;exact⟨B',F',k1,k2,by simp only[SRs];exact⟨u,us,rfl,SR.mono k1.b (fun _ _ h=>h) _ _ (Rj w u hp hw),k3⟩,k4⟩
    ·cases h
  simp only[Q21] at h;split at h
  ·rename_i o;split at h
   ·rename_i l _ ho;cases hp:SVs.pure l with
    |false=>rw[hp] at h;cases h
    |true =>
     rw[hp] at h;simp only[_root_.cond_true] at h;split at h
     ·rename_i s1 r heq;simp only[Option.some.injEq,Prod.mk.injEq] at h;obtain⟨rfl,rfl⟩:=h;have ak:=hG.obj o;rw[ho] at ak;obtain⟨i,c,e,t,e1,e2,e3,_⟩:=ak;obtain⟨k1,k2⟩:=hG.freeze (o:=o) (i:=i) (by rw[ho];rfl) (by rw[e1];rfl);obtain⟨B',F',j1,j2,j3,j4⟩:=Dt k2 (SRs.mono k1.b (fun _ _ h=>h) _ _ h2) heq;refine⟨B',F',k1.trans j1,j2,?_,j4⟩;simp only[SRs];refine⟨u,us,rfl,?_,j3⟩;simp only[SR] at h1 ⊢;obtain⟨b,q1,q2⟩:=h1;rw[e1] at q1;obtain rfl:i=b:=by simpa using q1
      refine⟨i,c,e,true,t,j1.b.2 _ _ ?_,q2,SRs.mono (k1.trans j1).b (fun _ _ h=>h) _ _ (JC l c hp e3)⟩;rw[Heap.ins_self];exact e2
     ·cases h
   ·cases h
  ·exact mX _ h1 h
theorem Gam.lpUpd (hG:Gam P B F pl tb s env σ) {n:Nat}{b b0:Blk}(hF:F.get n=some b0) (hB:B.get n=none):Gam P B (F.upd n b) pl tb s env (σ.upd n b):=by
 have aF:∀ {d i},(Qc s.own d).live=true→Oid (pl d) i→i≠n:=fun h1 h2 e=>by have:=hG.fresh _ _ h1 h2;subst e;rw[hF] at this;cases this
 refine⟨⟨hG.bf.1,fun i c hc=>?_⟩,⟨hG.le.1,fun i c hc=>?_⟩,hG.env,fun d=>(hG.obj d).mono (.refl _) (fun _ _ h=>h) fun h1 i h2=>Heap.get_upd_ne _ _ (aF h1 h2),fun d i h1 h2=>?_,hG.sep,hG.free⟩
 ·have:i≠n:=by rintro rfl;rw[hB] at hc;cases hc
  rw[Heap.get_upd_ne _ _ this];exact hG.bf.2 _ _ hc
 ·by_cases e:i=n
  ·subst e;rw[Heap.get_upd_self _ _ (F.lt hF)] at hc;rw[Heap.get_upd_self _ _ (Nat.lt_of_lt_of_le (F.lt hF) hG.le.1)];exact hc
  ·rw[Heap.get_upd_ne _ _ e] at hc ⊢;exact hG.le.2 _ _ hc
 ·rw[Heap.get_upd_ne _ _ (aF h1 h2)];exact hG.fresh _ _ h1 h2
theorem Gam.lpKill (hG:Gam P B F pl tb s env σ) {n:Nat}{b0:Blk}(hF:F.get n=some b0) (hB:B.get n=none):Gam P B (F.kill n) pl tb s env (σ.kill n):=by
 have aF:∀ {d i},(Qc s.own d).live=true→Oid (pl d) i→i≠n:=fun h1 h2 e=>by have:=hG.fresh _ _ h1 h2;subst e;rw[hF] at this;cases this
 refine⟨⟨hG.bf.1,fun i c hc=>?_⟩,⟨hG.le.1,fun i c hc=>?_⟩,hG.env,fun d=>(hG.obj d).mono (.refl _) (fun _ _ h=>h) fun h1 i h2=>Heap.get_kill_ne _ (aF h1 h2),fun d i h1 h2=>?_,hG.sep,hG.free⟩
 ·have:i≠n:=by rintro rfl;rw[hB] at hc;cases hc
  rw[Heap.get_kill_ne _ this];exact hG.bf.2 _ _ hc
 ·by_cases e:i=n
  ·subst e;rw[Heap.get_kill_self] at hc;cases hc
  ·rw[Heap.get_kill_ne _ e] at hc ⊢;exact hG.le.2 _ _ hc
 ·rw[Heap.get_kill_ne _ (aF h1 h2)];exact hG.fresh _ _ h1 h2
theorem GRel.lpUpd {B1 F1 D0:Heap}(h:GRel P B1 F1 D0 s env σ) {n:Nat}{b b0:Blk}(hF:F1.get n=some b0) (hB:B1.get n=none):GRel P B1 (F1.upd n b) D0 s env (σ.upd n b):=by
 obtain⟨B,F,pl,tb,df,hG⟩:=h;have mY:=df.f.2 _ _ hF;have mZ:=df.x _ _ hF hB;refine⟨B,F.upd n b,pl,tb,⟨df.b,⟨df.f.1,fun i c hc=>?_⟩,fun i c h1 h2=>?_,⟨df.d.1,fun i h1 h2=>?_⟩⟩,hG.lpUpd mY mZ⟩
 ·by_cases e:i=n
  ·subst e;rw[Heap.get_upd_self _ _ (F1.lt hF)] at hc;rw[Heap.get_upd_self _ _ (F.lt mY)];exact hc
  ·rw[Heap.get_upd_ne _ _ e] at hc ⊢;exact df.f.2 _ _ hc
 ·by_cases e:i=n
  ·subst e;exact mZ
  ·rw[Heap.get_upd_ne _ _ e] at h1;exact df.x _ _ h1 h2
 ·have hd:=df.d.2 i h1 h2;have:i≠n:=by rintro rfl;rw[hG.le.2 _ _ mY] at hd;cases hd
  rw[Heap.get_upd_ne _ _ this];exact hd
theorem GRel.lpKill {B1 F1 D0:Heap}(h:GRel P B1 F1 D0 s env σ) {n:Nat}{b0:Blk}(hF:F1.get n=some b0) (hB:B1.get n=none):GRel P B1 (F1.kill n) D0 s env (σ.kill n):=by
 obtain⟨B,F,pl,tb,df,hG⟩:=h;have mY:=df.f.2 _ _ hF;have mZ:=df.x _ _ hF hB;refine⟨B,F.kill n,pl,tb,⟨df.b,⟨df.f.1,fun i c hc=>?_⟩,fun i c h1 h2=>?_,⟨df.d.1,fun i h1 h2=>?_⟩⟩,hG.lpKill mY mZ⟩
 ·by_cases e:i=n
  ·subst e;rw[Heap.get_kill_self] at hc;cases hc
  ·rw[Heap.get_kill_ne _ e] at hc ⊢;exact df.f.2 _ _ hc
 ·by_cases e:i=n
  ·subst e;exact mZ
  ·rw[Heap.get_kill_ne _ e] at h1;exact df.x _ _ h1 h2
 ·have hd:=df.d.2 i h1 h2;by_cases e:i=n
  ·subst e;exact Heap.get_kill_self _ _
  ·rw[Heap.get_kill_ne _ e];exact hd
theorem GRel.base {B0 F0 B1 F1 D0:Heap}(h:GRel P B1 F1 D0 s env σ) (hb:B0.Le B1) (hf:F0.Le F1) (hx:∀ i b,F0.get i=some b→B0.get i=none→B1.get i=none):GRel P B0 F0 D0 s env σ:=by obtain⟨B,F,pl,tb,df,hG⟩:=h;exact⟨B,F,pl,tb,⟨hb.trans df.b,hf.trans df.f,fun i b h1 h2=>df.x i b (hf.2 _ _ h1) (hx i b h1 h2),df.d⟩,hG⟩
theorem Bl (hG:Gam P B F pl tb s env σ) {mp:List (Nat×Option Nat)}:∀ (st:List (Nat×SV)) {e:List SV},gmatch.slots s mp st→SRs P B (NQ pl mp) JZ e env→SRs P B (NQ pl mp) JZ (st.foldl (fun e p=>e.set p.1 p.2) e) env
 |[],e,_,h=>h
 |(j,v)::r,e,hs,h=>by
  simp only[gmatch.slots] at hs;simp only[List.foldl_cons];refine Bl hG r hs.2 ?_;have:=h.set j (Nf v _ _ hs.1 (hG.env.getD j poison));by_cases hj:j<env.length
  ·rwa [List.getD_eq_getElem?_getD,List.getElem?_eq_getElem hj,Option.getD_some,List.set_getElem_self] at this
  ·rw[List.set_eq_of_length_le (by rw[h.length];omega)];exact h
theorem E6 {B:Heap}{pl:Nat→Value}{tb:Nat→Option Bool}:∀ (env:Env),SRs P B pl tb (List.replicate (List.length env) .any) env
 |[]=>by simp[SRs]
 |v::env=>by simp only[List.length_cons,List.replicate_succ,SRs];exact⟨_,_,rfl,by simp[SR],E6 env⟩
theorem VM {B0 F0 D0:Heap}(hR:GRel P B0 F0 D0 s env σ) {st:List (Nat×SV)}{ow:List (Nat×Src×OB)}(h:gmatch s st ow):GRel P B0 F0 D0 (Zj (List.length env) st ow) env σ:=by
 obtain⟨B,F,pl,tb,hB,hG⟩:=hR;unfold gmatch at h;split at h
 ·rename_i mp mW;obtain⟨h1,h2⟩:=h;have ec:=Ho _ _ _ mW (fun t t' a h=>by cases h);have aL:=S2 h2;have ak:∀ t,(Qc (Zj (List.length env) st ow).own t).live=true→Q07 s mp t (Qc (Zj (List.length env) st ow).own t):=fun t hl=>by
   rcases Vv (f:=ow) [] t with⟨p,h3,h4,h5⟩|h3
   ·have:=aL p h3;rw[h4,←h5] at this;exact this
   ·simp only[Zj] at hl;rw[h3] at hl;cases hl
  refine⟨B,F,NQ pl mp,JZ,hB,hG.bf,hG.le,Bl hG st h1 (E6 env),fun t=>?_,fun t i hl hi=>?_,fun t t' i aF hl b_ hi ck=>?_,fun _ _=>rfl⟩
  ·cases hl:(Qc (Zj (List.length env) st ow).own t).live with
   |true=>exact(Zc hG (ak t hl)).1
   |false =>
    cases ho:Qc (Zj (List.length env) st ow).own t with
    |dead=>trivial
    |stk l vals =>
     rcases Vv (f:=ow) [] t with⟨p,h3,h4,h5⟩|h3
     ·have:=aL p h3;simp only[Zj] at ho;rw[←h5,ho] at this;have h6:=(Zc hG this).1;rw[h4] at h6;exact h6
     ·simp only[Zj] at ho;rw[h3] at ho;cases ho
    |lpf l q u =>
     rcases Vv (f:=ow) [] t with⟨p,h3,h4,h5⟩|h3
     ·have:=aL p h3;simp only[Zj] at ho;rw[←h5,ho] at this;have h6:=(Zc hG this).1;rw[h4] at h6;exact h6
     ·simp only[Zj] at ho;rw[h3] at ho;cases ho
    |_=>rw[ho] at hl;cases hl
  ·obtain⟨a,_,h4,h5⟩:=(Zc hG (ak t hl)).2 hl i hi;exact hG.fresh a i h4 h5
  ·obtain⟨a,e1,h4,h5⟩:=(Zc hG (ak t hl)).2 hl i hi;obtain⟨a',e2,fY,pH⟩:=(Zc hG (ak t' b_)).2 b_ i ck;by_cases e:a=a'
   ·subst e;exact aF (ec t t' a e1 e2)
   ·exact hG.sep a a' i e h4 fY h5 pH
 ·exact h.elim
theorem RQ {α:Type}{o:Option α}{f:α→Prop}(h:Z5 o f):∃ a,f a:=by
 cases o with
 |none=>exact h.elim
 |some a=>exact⟨a,h⟩
theorem COk.nx {C:Cx}(h:COk P C):COk P C.nx:=⟨h.cs,fun f x hx=>(by cases hx),h.it,h.yl,h.iy,fun f j _ x hx=>(by cases hx)⟩
theorem Wa {S:VSpecs}{Q:Prop}:∀ {ops:List DOper}{env:Env}{hs:List Heap}{σ:Heap}{pend:List (Nat×(Heap→Prop))},Ja S ops env hs σ pend (fun _ _=>Q)→Q
 |[],_,_,_,_,h=>h
 |o::r,env,hs,σ,pend,h=>by
  simp only[Ja] at h;obtain⟨b,h⟩:=RQ h;cases b with
  |true =>
   have h:=h.1 rfl;split at h
   ·obtain⟨v,σ',_,_,h⟩:=h;exact Wa h
   ·split at h
    ·obtain⟨p,_,h⟩:=RQ h;exact Wa h
    ·obtain⟨p,h⟩:=RQ h;exact Wa h
  |false =>
   have h:=h.2 rfl;split at h
   ·exact Wa h.2
   ·exact Wa h
theorem Pu {C:Cx}{s:St}{st:List (Nat×SV)}{ow:List (Nat×Src×OB)}{Q:Prop}:∀ (ls:List (List DOper)),Q1v C ls s st ow Q→(∀ l∈ls,Xe C.nx l s 1 0 [] [] fun s'=>DD s.env.length s' st ow)∧Q
 |[],h=>⟨fun l hl=>(by cases hl),h⟩
 |l::ls,h=>by obtain⟨h1,h2⟩:=h;obtain⟨h3,h4⟩:=Pu ls h2;exact⟨fun l' b_=>(List.mem_cons.1 b_).elim (fun e=>e▸h1) (h3 l'),h4⟩
theorem VN {B0 F0 D0:Heap}{s:St}{env:Env}{σ:Heap}{n:Nat}(hR:GRel P B0 F0 D0 s env σ) {st:List (Nat×SV)}{ow:List (Nat×Src×OB)}(h:DD n s st ow):GRel P B0 F0 D0 (Zj n st ow) env σ:=by
 unfold DD at h;cases hb:Nat.beq s.env.length n with
 |false=>rw[hb] at h;exact h.elim
 |true =>
  rw[hb] at h;have hl:env.length=n:=by rw[←Nat.eq_of_beq_eq_true hb];obtain⟨_,_,_,_,_,hG⟩:=hR;exact hG.env.length.symm
  rw[←hl];exact VM hR h
theorem Wk {C:Cx}(az:COk P C) {B0 F0 D0:Heap}:∀ (aN:List DSeg) {s:St}{env:Env}{σ:Heap},GRel P B0 F0 D0 s env σ→∀ {K:St→Prop},Sm C aN s K→∀ {R:Env→Heap→Prop},(∀ s' ae σ',K s'→GRel P B0 F0 D0 s' ae σ'→R ae σ')→NB (Q1 P) aN env σ R
 |[],s,env,σ,hR,K,h,R,hK=>hK s env σ h hR
 |.one o::r,s,env,σ,hR,K,h,R,hK=>by refine Nb az [o] hR (K:=fun s'=>Sm C r s' K) h fun s' ae σ' h1 h2=>?_;exact Wk az r h2 h1 hK
 |.alts [l]::r,s,env,σ,hR,K,h,R,hK=>by
  simp only[Sm] at h;cases hd:Q1d l with
  |false =>
   rw[hd] at h;simp only[_root_.cond_false] at h;cases hk:l.all (fun o=>o.kind==o.op.kind) with
   |false=>rw[hk] at h;exact h.elim
   |true =>
    rw[hk] at h;simp only[_root_.cond_true] at h;intro ops ho;obtain rfl:=List.mem_singleton.1 ho;obtain⟨B,F,pl,tb,hB,hG⟩:=hR;have one:∀ (j:Nat) (τ:Heap),([σ]:List Heap)[j]?=some τ→τ=σ:=fun j τ ht=>by
     cases j with
     |zero=>simpa using ht.symm
     |succ j=>simp at ht
    exact Qp az ops (fun o ho=>by simpa using List.all_eq_true.1 hk o ho) hB hG (hl:=1) (chg:=0) (A:=[]) (Rd:=[]) ⟨rfl,fun j τ _ ht=>one j τ ht,(fun c hc=>absurd hc (by simp)),fun j τ q i ht _ _ _=>by rw[one j τ ht]⟩ (pend:=[]) (pd:=[]) (fun c hc=>absurd hc (by simp)) (fun j τ ht _=>by rw[one j τ ht];exact hG.leB) (Nat.zero_le _) (Nat.succ_pos _) h fun s' ae σ' h1 h2=>⟨ae,σ',.refl _ _ _,Wk az r h2 h1 hK⟩
  |true =>rw[hd] at h;refine IL (l:=l) hd ?_;exact Nb az _ hR h fun s' ae σ' h1 h2=>Wk az r h2 h1 hK
 |.alts []::r,s,env,σ,hR,K,h,R,hK=>h.elim
 |.alts (l::l2::ls)::r,s,env,σ,hR,K,h,R,hK=>by
  simp only[Sm] at h;cases hk:(l::l2::ls).all (fun l=>l.all fun o=>o.kind==o.op.kind) with
  |false=>rw[hk] at h;exact h.elim
  |true =>
   rw[hk] at h;simp only[_root_.cond_true] at h;obtain⟨B,F,pl,tb,hB,hG⟩:=hR;have one:∀ (j:Nat) (τ:Heap),([σ]:List Heap)[j]?=some τ→τ=σ:=fun j τ ht=>by
    cases j with
    |zero=>simpa using ht.symm
    |succ j=>simp at ht
   have run:∀ l'∈l::l2::ls,∀ {K':St→Prop},Xe C.nx l' s 1 0 [] [] K'→∀ {R':Env→Heap→Prop},(∀ s' ae σ',K' s'→GRel P B0 F0 D0 s' ae σ'→R' ae σ')→Ja (Q1 P) l' env [σ] σ [] R':=fun l' b_ K' h' R' pE =>
    Qn az.nx rfl l' (fun o ho=>by simpa using List.all_eq_true.1 (List.all_eq_true.1 hk l' b_) o ho) hB hG (hl:=1) (chg:=0) (A:=[]) (Rd:=[]) ⟨rfl,fun j τ _ ht=>one j τ ht,(fun c hc=>absurd hc (by simp)),fun j τ q i ht _ _ _=>by rw[one j τ ht]⟩ (pend:=[]) (pd:=[]) (fun c hc=>absurd hc (by simp)) (fun j τ ht _=>by rw[one j τ ht];exact hG.leB) (Nat.zero_le _) (Nat.succ_pos _) h' pE
   obtain⟨s0,h0,h1⟩:=Wa (run l List.mem_cons_self h (R':=fun _ _=>∃ s0:St,_) fun s' _ _ h' _=>⟨s',h'⟩);obtain⟨h2,h3⟩:=Pu _ h1;intro ops ho;rcases List.mem_cons.1 ho with rfl|eu
   ·refine W6 ?_;exact run ops ho h fun s' ae σ' h' pI=>⟨ae,σ',.refl _ _ _,by
     obtain⟨k1,k2⟩:=h';exact Wk az r (VN pI k1) (Pu _ k2).2 hK⟩
   ·refine W6 ?_;exact run ops ho (h2 ops eu) fun s' ae σ' h' pI=>⟨ae,σ',.refl _ _ _,Wk az r (VN pI h') h3 hK⟩
theorem HW:∀ (l:List Nat) (vs:List SV),(Q2q l vs).map (·.1)=l
 |[],_=>rfl
 |j::js,[]=>by simp[Q2q,HW js []]
 |j::js,v::vs=>by simp[Q2q,HW js vs]
theorem N4 {B:Heap}{pl:Nat→Value}{tb:Nat→Option Bool}:∀ {ps:List Nat}{xs:List SV}{us:List Value}{e:List SV}{env:Env},SRs P B pl tb xs us→SRs P B pl tb e env→SRs P B pl tb (Da e ps xs) (HL env ps us)
 |[],xs,us,e,env,_,h=>by simpa [Da,HL] using h
 |p::ps,[],us,e,env,hx,h=>by simp only[SRs] at hx;subst hx;simpa [Da,HL] using h
 |p::ps,x::xs,us,e,env,hx,h=>by simp only[SRs] at hx;obtain⟨u,ll,rfl,h1,h2⟩:=hx;simp only[Da,HL];exact N4 h2 (h.set p h1)
def Q8p (F0:Heap):Option Nat→Prop
 |none=>True
 |some i=>∃ env r st pend,F0.get i=some (.obj (.lp env r st pend) true)
theorem Gam.dropLp {B F:Heap}{pl:Nat→Value}{tb:Nat→Option Bool}{s:St}{env:Env}{σ:Heap}(hG:Gam P B F pl tb s env σ) {o:Nat}{l:List SV}{q:LpD}{u:LpS}(ho:Qc s.own o=.lpf l q u) (hl:u.live=true) :
  Gam P B F pl tb ⟨l,oset s.own o .dead,s.nx⟩ q.vals (σ.kill q.i)∧σ.get q.i=some (.obj (.lp q.vals q.r u.st u.pend) true):=by
 have ak:=hG.obj o;rw[ho] at ak;obtain⟨h1,h2,h3⟩:=ak;have iB:(Qc s.own o).live=true:=by rw[ho];exact hl
 have iT:Oid (pl o) q.i:=by rw[h1];rfl
 have hF:=hG.fresh o q.i iB iT;have lv:∀ d,(Qc (oset s.own o .dead) d).live=true→d≠o∧(Qc s.own d).live=true:=fun d h=>by
  rw[Qy] at h;by_cases e:d=o
  ·rw[if_pos e] at h;cases h
  ·rw[if_neg e] at h;exact⟨e,h⟩
 refine⟨⟨hG.bf,⟨hG.le.1,fun j b hb=>?_⟩,h2,fun d=>?_,fun d i hd hi=>hG.fresh d i (lv d hd).2 hi,fun d d' i e h h'=>hG.sep d d' i e (lv d h).2 (lv d' h').2,hG.free⟩,h3 hl⟩
 ·have e:j≠q.i:=by rintro rfl;rw[hF] at hb;cases hb
  rw[Heap.get_kill_ne _ e];exact hG.le.2 _ _ hb
 ·rw[Qy];by_cases e:d=o
  ·rw[if_pos e];trivial
  ·rw[if_neg e];refine (hG.obj d).mono (.refl _) (fun _ _ h=>h) fun hd i hi=>?_;have:i≠q.i:=by rintro rfl;exact hG.sep d o q.i e hd iB hi iT
   exact Heap.get_kill_ne _ this
theorem Ir (s:St) (o:Nat) (b:OB) (j:Nat):Qc (s.make o b).own j=if j=o then b else (Qc s.own j).kill o:=by
 simp only[St.make,Qy];by_cases h:j=o
 ·subst h;simp
 ·simp only[h,if_false,St.kill,Vc]
theorem Gam.enterLp {B F:Heap}{pl:Nat→Value}{tb:Nat→Option Bool}{s:St}{env:Env}{σ:Heap}(hG:Gam P B F pl tb s env σ) {o aH:Nat}{l:List SV}{q:LpD}(ho:Qc s.own o=.lpf l q .rdy) (aF:o≠aH)
  {args:List SV}{us:List Value}(ax:SRs P B pl tb args us) (ps:List Nat) :
  Gam P B (F.ins σ q.i hG.le.1) (JN pl aH poison) tb ⟨Da (SVs.kill aH l) ps (SVs.kill aH args),oset (Cl aH env s).own o (.lpf (SVs.kill aH l) q .busy),s.nx⟩ (HL q.vals ps us) σ:=by
 have q3:Gam P B F (JN pl aH poison) tb (Cl aH env s) env σ:=by refine hG.make aH _ poison hG.le (fun _ _ _ _ _=>rfl) ?_ (fun i hl _=>by cases hl);exact SRs.upd (.refl _) (fun _ _ h=>h) (fun j hj=>by simp[JN,hj]) _ _ hG.env
 have ak:=hG.obj o;rw[ho] at ak;obtain⟨h1,h2,h3⟩:=ak;have iB:(Qc s.own o).live=true:=by rw[ho];rfl
 have nY:JN pl aH poison o=.pointer (some ⟨q.i,0,none⟩):=by simp[JN,aF,h1]
 have tj:Qc (Cl aH env s).own o=.lpf (SVs.kill aH l) q .rdy:=by have:=Ir s aH (.stk (SVs.kill aH s.env) env) o;unfold Cl;rw[this,if_neg aF,ho];rfl
 have m8:(Qc (Cl aH env s).own o).live=true:=by rw[tj];rfl
 have iT:Oid (JN pl aH poison o) q.i:=by rw[nY];rfl
 have hF:=q3.fresh o q.i m8 iT;have cg:SRs P B (JN pl aH poison) tb (SVs.kill aH l) q.vals:=SRs.upd (.refl _) (fun _ _ h=>h) (fun j hj=>by simp[JN,hj]) _ _ h2;have nZ:SRs P B (JN pl aH poison) tb (SVs.kill aH args) us:=SRs.upd (.refl _) (fun _ _ h=>h) (fun j hj=>by simp[JN,hj]) _ _ ax;have lv:∀ d,(Qc (oset (Cl aH env s).own o (.lpf (SVs.kill aH l) q .busy)) d).live=true→d≠o∧(Qc (Cl aH env s).own d).live=true:=fun d h=>by
  rw[Qy] at h;by_cases e:d=o
  ·rw[if_pos e] at h;cases h
  ·rw[if_neg e] at h;exact⟨e,h⟩
 refine⟨q3.bf.trans (hG.le.ins _),hG.le.ins_le _,N4 nZ cg,fun d=>?_,fun d i hd hi=>?_,fun d d' i e h h'=>q3.sep d d' i e (lv d h).2 (lv d' h').2,q3.free⟩
 ·show OR P B _ tb σ _ (Qc (oset _ o _) d);rw[Qy];by_cases e:d=o
  ·subst e;rw[if_pos rfl];exact⟨nY,cg,fun h=>by cases h⟩
  ·rw[if_neg e];exact q3.obj d
 ·obtain⟨e,qS⟩:=lv d hd;have:i≠q.i:=by rintro rfl;exact q3.sep d o q.i e qS m8 hi iT
  rw[Heap.ins_ne _ _ _ this];exact q3.fresh d i qS hi
theorem Gam.leaveLp {B F:Heap}{pl:Nat→Value}{tb:Nat→Option Bool}{s:St}{env:Env}{σ:Heap}(hG:Gam P B F pl tb s env σ) {o aH:Nat}{l l2:List SV}{jB:List Value}{q:LpD}{b0:Blk}(hF:F.get q.i=some b0) (hB:B.get q.i=none)
  (h2:Qc s.own aH=.stk l2 jB) (ho:Qc s.own o=.lpf l q .busy) (u:LpS) :
  Gam P B (F.kill q.i) pl tb ⟨l2,oset (oset s.own aH .dead) o (.lpf l q u),s.nx⟩ jB (σ.upd q.i (.obj (.lp q.vals q.r u.st u.pend) true)):=by
 have ak:=hG.obj o;rw[ho] at ak;obtain⟨k1,k2,_⟩:=ak;have hk:=hG.obj aH;rw[h2] at hk;have hi:q.i<σ.n:=σ.lt (hG.le.2 _ _ hF);have aF:∀ {d i},(Qc s.own d).live=true→Oid (pl d) i→i≠q.i:=fun h1 h2 e=>by have:=hG.fresh _ _ h1 h2;subst e;rw[hF] at this;cases this
 have iT:∀ i,Oid (pl o) i→i=q.i:=fun i h=>by rw[k1] at h;exact(osj h).symm
 have hg:∀ d,Qc (oset (oset s.own aH .dead) o (.lpf l q u)) d=if d=o then .lpf l q u else if d=aH then .dead else Qc s.own d:=fun d=>by rw[Qy,Qy]
 have lv:∀ d,d≠o→(Qc (oset (oset s.own aH .dead) o (.lpf l q u)) d).live=true→(Qc s.own d).live=true:=fun d e h=>by
  rw[hg,if_neg e] at h;split at h
  ·cases h
  ·exact h
 refine⟨⟨hG.bf.1,fun j b hb=>?_⟩,⟨hG.le.1,fun j b hb=>?_⟩,hk,fun d=>?_,fun d i hd ck=>?_,fun d d' i e h h' h1 ie=>?_,hG.free⟩
 ·have e:j≠q.i:=by rintro rfl;rw[hB] at hb;cases hb
  rw[Heap.get_kill_ne _ e];exact hG.bf.2 _ _ hb
 ·by_cases e:j=q.i
  ·subst e;rw[Heap.get_kill_self] at hb;cases hb
  ·rw[Heap.get_kill_ne _ e] at hb;rw[Heap.get_upd_ne _ _ e];exact hG.le.2 _ _ hb
 ·show OR P B pl tb _ _ (Qc (oset _ o _) d);rw[hg];by_cases e:d=o
  ·subst e;rw[if_pos rfl];exact⟨k1,k2,fun _=>Heap.get_upd_self _ _ hi⟩
  ·rw[if_neg e];split
   ·trivial
   ·exact(hG.obj d).mono (.refl _) (fun _ _ h=>h) fun hd i hi=>Heap.get_upd_ne _ _ (aF hd hi)
 ·by_cases e:d=o
  ·subst e;rw[iT i ck];exact Heap.get_kill_self _ _
  ·rw[Heap.get_kill_ne _ (aF (lv d e hd) ck)];exact hG.fresh d i (lv d e hd) ck
 ·by_cases e1:d=o
  ·subst e1;have e2:d'≠d:=fun h=>e h.symm;exact aF (lv d' e2 h') ie (iT i h1)
  ·by_cases e2:d'=o
   ·subst e2;exact aF (lv d e1 h) h1 (iT i ie)
   ·exact hG.sep d d' i e (lv d e1 h) (lv d' e2 h') h1 ie
theorem Cf {C:Cx}(az:COk P C) {L:List (Nat×LoopAnn)}(vc:VCode):∀ {B0 F0 D0:Heap}(n:Nat) (K:Exit→St→Prop) (s:St) (env:Env) (σ:Heap) (ro:Option Nat) (Q:Exit→Env→Heap→Prop),Q8p F0 ro→GRel P B0 F0 D0 s env σ→gwp C L vc n K s→(∀ e s' ae σ',K e s'→GRel P B0 F0 D0 s' ae σ'→Q e ae σ')→vwp (Q1 P) vc ro Q env σ:=by
 induction vc with
 |skip=>intro B0 F0 D0 n K s env σ ro Q bF hR h hK;exact hK _ _ _ _ h hR
 |region ops=>intro B0 F0 D0 n K s env σ ro Q bF hR h hK;exact Nb az ops hR h fun s' ae σ' h1 h2=>hK _ _ _ _ h1 h2
 |regionD aN=>intro B0 F0 D0 n K s env σ ro Q bF hR h hK;exact Wk az aN hR h fun s' ae σ' h1 h2=>hK _ _ _ _ h1 h2
 |rangeF g ps a b eK ef =>
  intro B0 F0 D0 n K s env σ ro Q bF hR h hK;simp only[gwp] at h;split at h
  ·rename_i f first cY hg
   split at h
   ·
    rename_i x hx;obtain⟨B,F,pl,tb,hB,hG⟩:=hR;have fS:=hG.evs (Gds.nil (tb:=tb)) g;rw[hg] at fS;simp only[SR] at fS;obtain⟨x',y',a_,kM,m9⟩:=fS;obtain⟨gB,lq⟩:=az.iy f x hx;show vwp (Q1 P) (.rangeF g ps a b) ro Q env σ;simp only[vwp,Cg,a_];have kN:(Q1 P).it f=some fun i Y args σ K=>KZ P i Y→VCallsTo P f args σ K:=by simp only[Q1];rw[if_pos gB]
    rw[kN];refine⟨?_,fun r hY=>?_⟩
    ·cases ro with
     |none=>trivial
     |some i =>obtain⟨e1,r1,st1,pJ,hi⟩:=bF;exact⟨e1,r1,st1,pJ,hG.le.2 _ _ (hB.f.2 _ _ hi)⟩
    generalize kZ:C.off+2000000+n=o at h;generalize eW:100000*(o+1)-1=aH at h;have ai:o≠aH:=by omega
    let q:LpD:=⟨σ.n,env,r⟩;let rdy:Blk:=.obj (.lp env r .ready none) true;let eC:Blk:=.obj (.lp env r .busy none) true;let p0:Value:=.pointer (some ⟨σ.n,0,none⟩);have gV:Gam P B F (JN pl o p0) tb (Z0m o q s) env (σ.push rdy):=by refine hG.push o (.lpf (SVs.kill o s.env) q .rdy) p0 rdy rfl ⟨rfl,SRs.upd (.refl _) (fun _ _ h=>h) (fun j hj=>by simp[JN,hj]) _ _ hG.env,fun _=>Heap.get_push_self _ _⟩
    have kl:∀ {xs us},SRs P B pl tb xs us→SRs P B (JN pl o p0) tb (SVs.kill o xs) us:=fun h=>SRs.upd (.refl _) (fun _ _ h=>h) (fun j hj=>by simp[JN,hj]) _ _ h;have ax:SRs P B (JN pl o p0) tb (SVs.kill o first++(.dd o .yv::SVs.kill o cY)) (x'++(.func (.yield σ.n) #[] #[]::y')):=by refine (kl kM).append ?_;simp only[SRs,SR,DR];exact⟨_,_,rfl,⟨σ.n,by simp[JN,p0],rfl⟩,kl m9⟩
    have tk:Oy P o (O6 o aH ps.length q (fun K' s'=>gwp C L a n (ON (fun s3=>gwp C L b n K' s3) fun _ _=>False) s') ps):=by
     intro B F pl tb s ae σ args us K R i hG ha hy nY hK;unfold O6 at hy;split at hy
     ·rename_i l q' u ho;split at hy
      ·cases hlen:Nat.beq args.length ps.length with
       |false=>rw[hlen] at hy;exact hy.elim
       |true =>
       rw[hlen] at hy;simp only[_root_.cond_true] at hy;obtain⟨rfl,hy⟩:=hy;have ak:=hG.obj o;rw[ho] at ak;have hi:i=q.i:=by have h1:=ak.1;rw[nY] at h1;have:=osj (Value.pointer.inj h1);exact(Addr.mk.inj this).1
       subst hi;have kO:σ.get q.i=some rdy:=ak.2.2 rfl;have iB:(Qc s.own o).live=true:=by rw[ho];rfl
       have lu:F.get q.i=none:=hG.fresh o q.i iB (by rw[ak.1];rfl);have qT:B.get q.i=none:=by
        cases hb:B.get q.i with
        |none=>rfl
        |some b=>rw[hG.bf.2 _ _ hb] at lu;cases lu
       have jI:=hG.enterLp ho ai ha ps;have gW:(F.ins σ q.i hG.le.1).get q.i=some rdy:=by rw[Heap.ins_self];exact kO
       have eQ:(F.ins σ q.i hG.le.1).n=σ.n:=rfl;have aK:q.i<σ.n:=σ.lt kO;refine hY us σ R ⟨kO,by rw[←ha.length];exact(Nat.eq_of_beq_eq_true hlen),?_⟩;refine eK (B0:=B) (F0:=F.ins σ q.i hG.le.1) (D0:=σ) n _ _ _ σ (some q.i) _ ⟨env,r,_,_,gW⟩ ⟨B,_,_,tb,.of jI.bf (Dead.refl _),jI⟩ (hy ae) fun e s3 pK σ3 h7 h8=>?_;cases e with
       |normal =>
        have iI:σ3.get q.i=some rdy:=by obtain⟨B',F',pl',tb',q1,q2⟩:=h8;exact q2.le.2 _ _ (q1.f.2 _ _ gW)
        refine⟨iI,?_⟩;have h9:=h8.lpUpd (b:=eC) gW qT;have lx:((F.ins σ q.i hG.le.1).upd q.i eC).get q.i=some eC:=Heap.get_upd_self _ _ (by rw[eQ];exact aK);refine ef (B0:=B) (F0:=(F.ins σ q.i hG.le.1).upd q.i eC) (D0:=σ) n _ _ _ _ (some q.i) _ ⟨env,r,_,_,lx⟩ h9 h7 fun e s4 pL σ4 bL e_=>?_;obtain⟨B',F',pl',tb',q1,q2⟩:=e_;have n6:=q1.f.2 _ _ lx;have pM:=q1.x _ _ lx qT;have m_:σ4.get q.i=some eC:=q2.le.2 _ _ n6;unfold gyK at bL;split at bL
        ·rename_i l2 jB l3 q3 u3 aq pN;split at bL
         ·obtain⟨rfl,rfl,bL⟩:=bL;have base:∀ b,GBase B F σ B' (F'.kill q.i) (σ4.upd q.i b):=fun b=>by
           refine⟨q1.b,⟨?_,fun j c hc=>?_⟩,fun j c h1 h2=>?_,q1.d.trans (Dead.upd _ _ _ (by rw[m_];rfl))⟩
           ·have h1:=q1.f.1;have h2:=hG.le.1;show F.n≤F'.n;have h3:((F.ins σ q.i hG.le.1).upd q.i eC).n=σ.n:=rfl;omega
           ·have e:j≠q.i:=by rintro rfl;rw[lu] at hc;cases hc
            rw[Heap.get_kill_ne _ e];refine q1.f.2 _ _ ?_;rw[Heap.get_upd_ne _ _ e,Heap.ins_ne _ _ _ e];exact hc
           ·have e:j≠q.i:=by rintro rfl;rw[lu] at h1;cases h1
            refine q1.x j c ?_ h2;rw[Heap.get_upd_ne _ _ e,Heap.ins_ne _ _ _ e];exact h1
          refine⟨m_,?_⟩;cases e with
          |normal=>exact hK _ _ B' _ pl' tb' _ _ bL (base _) (q2.leaveLp n6 pM aq pN .rdy) (by simp[SR,KC])
          |ret=>exact hK _ _ B' _ pl' tb' _ _ bL (base _) (q2.leaveLp n6 pM aq pN .ret) (by simp[SR,KC])
          |exit id=>exact hK _ _ B' _ pl' tb' _ _ bL (base _) (q2.leaveLp n6 pM aq pN (.exit id)) (by simp[SR,KC])
          |_=>exact bL.elim
         ·exact bL.elim
        ·exact bL.elim
       |_=>exact h7.elim
      ·exact hy.elim
     ·exact hy.elim
    have aU:=lq B F _ tb _ env (σ.push rdy) o _ _ _ (Q23 o q K) (fun τ=>Q0a Q env σ.n poison τ) gV ax tk (h q) fun s' B' F' pl' tb' ae σ' hk hb dh=>by
     unfold Q23 at hk;split at hk
     ·rename_i l q' u ho;have fin:∀ {e:Exit},u.live=true→q'=q→K e ⟨l,oset s'.own o .dead,s'.nx⟩→Q e env (σ'.kill σ.n)∧σ'.get σ.n=some (.obj (.lp env r u.st u.pend) true):=fun {e} hu hq tm=>by
       subst hq;obtain⟨g1,g2⟩:=dh.dropLp ho hu;refine⟨hK _ _ _ _ tm ⟨B',F',pl',tb',⟨hB.b.trans hb.b,hB.f.trans hb.f,fun j c h1 h2=>hb.x j c (hB.f.2 _ _ h1) (hB.x j c h1 h2),hB.d.trans ((Dead.push _ _).trans (hb.d.trans (Dead.kill _ _)))⟩,g1⟩,g2⟩
      cases u with
      |busy=>exact hk.elim
      |rdy =>obtain⟨hq,hk⟩:=hk;obtain⟨k1,k2⟩:=fin rfl hq hk;unfold Q0a;rw[k2];exact⟨(by intro h;cases h),k1⟩
      |ret =>obtain⟨hq,hk⟩:=hk;obtain⟨k1,k2⟩:=fin rfl hq hk;unfold Q0a;rw[k2];exact⟨(by intro h;cases h),k1⟩
      |exit id =>obtain⟨hq,hk⟩:=hk;obtain⟨k1,k2⟩:=fin rfl hq hk;unfold Q0a;rw[k2];exact⟨(by intro h;cases h),k1⟩
     ·exact hk.elim
    refine VCallsTo.mono (R:=fun _ τ=>Q0a Q env σ.n poison τ) (by simpa using aU) fun v τ h=>h
   split at h
   rotate_left
   ·exact h.elim
   split at h
   ·rename_i it s1 ct A l9 pO hA;split at h
    ·rename_i c m ar xs hc;cases er:Nat.beq ps.length ar with
     |false=>rw[er] at h;exact h.elim
     |true =>
     rw[er] at h;simp only[_root_.cond_true] at h;obtain⟨dy,p,d0,eU,I,tn,qU,qV⟩:=h;have er:=Nat.eq_of_beq_eq_true er;have hlen:s.env.length=env.length:=by obtain⟨B,F,pl,tb,_,hG⟩:=hR;exact hG.env.length
     rw[hlen] at qU qV;have mQ:=hR;obtain⟨B,F,pl,tb,hB,hG⟩:=hR;have fS:=hG.evs Gds.nil g;rw[hg] at fS;simp only[SR] at fS;obtain⟨x,y,a_,hx,hy⟩:=fS;simp only[SRs] at hx;subst hx;obtain⟨B1,F1,na,nb,tq,jd⟩:=Dt hG hy pO;obtain⟨gB,pP⟩:=az.it f it l9;obtain⟨nh,pQ⟩:=pP B1 ct y c m ar xs tq hc dy;have tu:GRel P B1 F1 D0 (Zj (List.length env) (A.st p d0) (A.own p d0)) env σ:=VM ⟨B1,F1,pl,tb,⟨.refl _,.refl _,fun _ _ _ h=>h,(hB.trans na).d⟩,nb⟩ eU;have ly:B1.get σ.n=none:=B1.wf _ nb.leB.1;have tv:F1.get σ.n=none:=F1.wf _ nb.le.1;show vwp (Q1 P) (.rangeF g ps a b) ro Q env σ;simp only[vwp,Cg,a_];have kN:(Q1 P).it f=some fun i Y args σ K=>KZ P i Y→VCallsTo P f args σ K:=by simp only[Q1];rw[if_pos gB]
     rw[kN];refine⟨?_,fun r hY=>?_⟩
     ·cases ro with
      |none=>trivial
      |some i =>obtain⟨e1,r1,st1,pJ,hi⟩:=bF;exact⟨e1,r1,st1,pJ,hG.le.2 _ _ (hB.f.2 _ _ hi)⟩
     ·let rdy:Blk:=.obj (.lp env r .ready none) true;let eC:Blk:=.obj (.lp env r .busy none) true;have jJ:F1.Le (σ.push rdy):=nb.le.push rdy;let Fr:=F1.ins (σ.push rdy) σ.n jJ.1;have gW:Fr.get σ.n=some rdy:=by
       show (F1.ins _ _ _).get σ.n=_;rw[Heap.ins_self,Heap.get_push_self]
      have eQ:Fr.n=σ.n+1:=rfl;have tw:F1.Le Fr:=jJ.ins σ.n;let J:Nat→Heap→Prop:=fun k τ=>∃ d,I k d∧GRel P B1 Fr D0 (Zj (List.length env) (A.st p d) (A.own p d)) env τ;let E:Heap→Prop:=fun τ=>∃ cd e,τ.get σ.n=some (.obj (.lp env r .done (some cd)) true)∧((cd=.ret∧e=Exit.ret)∨∃ id,cd=.exit id∧e=Exit.exit id)∧Q e env (τ.kill σ.n);have back:∀ {s':St}{τ:Heap},GRel P B1 (Fr.upd σ.n eC) D0 s' env τ→∀ b,GRel P B1 ((Fr.upd σ.n eC).upd σ.n b) D0 s' env (τ.upd σ.n b):=fun h b =>
       h.lpUpd (b0:=eC) (Heap.get_upd_self _ _ (by rw[eQ];omega)) ly
      have gX:∀ {Fx:Heap}{b0:Blk}{s':St}{τ:Heap},Fx.get σ.n=some b0→(∀ i,i≠σ.n→Fx.get i=F1.get i)→Fx.n=σ.n+1→GRel P B1 Fx D0 s' env τ→GRel P B0 F0 D0 s' env (τ.kill σ.n):=fun {Fx b0 s' τ} h1 h2 h3 h4=>by
       refine (h4.lpKill h1 ly).base (hB.b.trans na.b) ⟨?_,fun i b hb=>?_⟩ fun i b k1 k2=>(hB.trans na).x i b k1 k2
       ·show F0.n≤Fx.n;rw[h3];have:=(hB.trans na).f.1;have:=nb.le.1;omega
       ·have bc:=(hB.trans na).f.2 _ _ hb;have e:i≠σ.n:=by rintro rfl;rw[tv] at bc;cases bc
        rw[Heap.get_kill_ne _ e,h2 i e];exact bc
      have iU:∀ i,i≠σ.n→Fr.get i=F1.get i:=fun i e=>Heap.ins_ne _ _ _ e;have aU:=pQ σ.n _ J E (σ.push rdy) hY (fun k τ ⟨d,_,hd⟩=>?_) (fun k us τ hk ⟨d,pR,hd⟩ dS=>?_) ⟨d0,tn,?_⟩
      ·refine VCallsTo.mono (R:=fun _ τ=>J m τ∨E τ) (by simpa using aU) fun v τ o5=>?_;unfold Q0a;rcases o5 with⟨d,pR,hd⟩|⟨cd,e,h1,h2,h3⟩
       ·have kO:τ.get σ.n=some rdy:=by
         obtain⟨B',F',pl',tb',q1,q2⟩:=hd;exact q2.le.2 _ _ (q1.f.2 _ _ gW)
        rw[kO];exact⟨(by intro h;cases h),hK _ _ _ _ (qV d pR) (gX gW iU eQ hd)⟩
       ·rw[h1];refine⟨(by intro h;cases h),?_⟩;rcases h2 with⟨rfl,rfl⟩|⟨id,rfl,rfl⟩<;>exact h3
      ·obtain⟨B',F',pl',tb',q1,q2⟩:=hd;exact q1.b.trans q2.leB
      ·
       have kO:τ.get σ.n=some rdy:=by obtain⟨B',F',pl',tb',q1,q2⟩:=hd;exact q2.le.2 _ _ (q1.f.2 _ _ gW)
       refine⟨kO,by rw[er,←(nh k).1,dS.length],?_⟩;have hF:=qU k d hk pR env;have bA:GRel P B1 Fr D0 ⟨Da (Cl (2000000+n) env (Zj (List.length env) (A.st p d) (A.own p d))).env ps (xs k),(Cl (2000000+n) env (Zj (List.length env) (A.st p d) (A.own p d))).own,0⟩ (HL env ps us) τ:=by
        obtain⟨B',F',pl',tb',q1,q2⟩:=hd;have q3:Gam P B' F' (JN pl' (2000000+n) poison) tb' (Cl (2000000+n) env (Zj (List.length env) (A.st p d) (A.own p d))) env τ:=by refine q2.make (2000000+n) _ poison q2.le (fun _ _ _ _ _=>rfl) ?_ (fun i hl _=>by cases hl);exact SRs.upd (.refl _) (fun _ _ h=>h) (fun j hj=>by simp[JN,hj]) _ _ q2.env
        refine⟨B',F',JN pl' (2000000+n) poison,tb',q1,⟨q3.bf,q3.le,N4 ?_ q3.env,q3.obj,q3.fresh,q3.sep,?_⟩⟩
        ·exact SRs.mono q1.b (fun _ _ h=>h) _ _ (JC _ _ (nh k).2 dS)
        ·exact q3.free
       refine eK (B0:=B1) (F0:=Fr) n _ _ _ τ (some σ.n) _ ⟨env,r,_,_,gW⟩ bA hF fun e s3 pK σ3 h7 h8=>?_;cases e with
       |normal =>
        have iI:σ3.get σ.n=some rdy:=by obtain⟨B',F',pl',tb',q1,q2⟩:=h8;exact q2.le.2 _ _ (q1.f.2 _ _ gW)
        refine⟨iI,?_⟩;have h9:=h8.lpUpd (b:=eC) gW ly;have lx:(Fr.upd σ.n eC).get σ.n=some eC:=Heap.get_upd_self _ _ (by rw[eQ];omega);refine ef (B0:=B1) (F0:=Fr.upd σ.n eC) n _ _ _ _ (some σ.n) _ ⟨env,r,_,_,lx⟩ h9 h7 fun e s4 pL σ4 bL e_=>?_;have m_:σ4.get σ.n=some eC:=by obtain⟨B',F',pl',tb',q1,q2⟩:=e_;exact q2.le.2 _ _ (q1.f.2 _ _ lx)
        have qW:σ.n<σ4.n:=σ4.lt m_;unfold Fw at bL;split at bL
        ·rename_i l vs kP;obtain⟨rfl,bL⟩:=bL;have cC:GRel P B1 (Fr.upd σ.n eC) D0 ⟨l,s4.own,s4.nx⟩ vs σ4:=by
          obtain⟨B',F',pl',tb',q1,q2⟩:=e_;have:=q2.obj (2000000+n);rw[kP] at this;exact⟨B',F',pl',tb',q1,q2.bf,q2.le,this,q2.obj,q2.fresh,q2.sep,q2.free⟩
         have kQ:∀ b,((Fr.upd σ.n eC).upd σ.n b).get σ.n=some b:=fun b=>Heap.get_upd_self _ _ (by show σ.n<Fr.n;rw[eQ];omega);have pS:∀ b i,i≠σ.n→((Fr.upd σ.n eC).upd σ.n b).get i=F1.get i:=fun b i e=>by rw[Heap.get_upd_ne _ _ e,Heap.get_upd_ne _ _ e,iU i e]
         refine⟨m_,?_⟩;cases e with
         |normal =>
          obtain⟨d',jC,nV⟩:=bL;refine .inl ⟨rfl,d',nV,?_⟩;have:=(back (VM cC jC) rdy).base (B0:=B1) (F0:=Fr) (.refl _) ⟨Nat.le_refl _,fun i b hb=>?_⟩ fun i b k1 k2=>k2
          ·exact this
          ·by_cases e:i=σ.n
           ·subst e;rw[gW] at hb;rw[kQ];exact hb
           ·rw[pS _ _ e,←iU i e];exact hb
         |ret =>refine .inr ⟨rfl,_,_,Heap.get_upd_self _ _ qW,.inl ⟨rfl,rfl⟩,hK _ _ _ _ bL (gX (kQ _) (pS _) (by show Fr.n=_;exact eQ) (back cC _))⟩
         |exit id =>refine .inr ⟨rfl,_,_,Heap.get_upd_self _ _ qW,.inr ⟨id,rfl,rfl⟩,hK _ _ _ _ bL (gX (kQ _) (pS _) (by show Fr.n=_;exact eQ) (back cC _))⟩
         |_=>exact bL.elim
        ·exact bL.elim
       |_=>exact h7.elim
      ·
       obtain⟨B',F',pl',tb',q1,q2⟩:=tu;have hle:F'.Le (σ.push rdy):=q2.le.push rdy;have tx:F'.get σ.n=none:=F'.wf _ q2.le.1;have ak:∀ d i,(Qc (Zj (List.length env) (A.st p d0) (A.own p d0)).own d).live=true→Oid (pl' d) i→i<σ.n:=fun d i h1 h2=>(q2.obj d).id_lt h1 h2;refine⟨B',F'.ins (σ.push rdy) σ.n hle.1,pl',tb',⟨q1.b,Heap.ins_ins q1.f _ _ _,fun i b k1 k2=>?_,q1.d.trans (Dead.push _ _)⟩,⟨q2.bf.trans (hle.ins _),hle.ins_le _,q2.env,fun d=>(q2.obj d).mono (.refl _) (fun _ _ h=>h) fun h1 i h2=>Heap.get_push_lt _ _ (ak d i h1 h2),fun d i h1 h2=>?_,q2.sep,q2.free⟩⟩
       ·by_cases e:i=σ.n
        ·subst e;exact B'.wf _ q2.leB.1
        ·rw[iU i e] at k1;exact q1.x i b k1 k2
       ·rw[Heap.ins_ne _ _ _ (Nat.ne_of_lt (ak d i h1 h2))];exact q2.fresh d i h1 h2
    ·exact h.elim
   ·exact h.elim
  ·exact h.elim
 |bad=>intro B0 F0 D0 n K s env σ ro Q bF hR h hK;exact h.elim
 |ret=>intro B0 F0 D0 n K s env σ ro Q bF hR h hK;exact hK _ _ _ _ h hR
 |exit id=>intro B0 F0 D0 n K s env σ ro Q bF hR h hK;exact hK _ _ _ _ h hR
 |seq a b eK ef =>
  intro B0 F0 D0 n K s env σ ro Q bF hR h hK;refine eK n _ s env σ ro _ bF hR h fun e s' ae σ' h1 h2=>?_;cases e with
  |normal=>exact ef n K s' ae σ' ro Q bF h2 h1 hK
  |_=>exact hK _ _ _ _ h1 h2
 |cond c a b eK ef =>
  intro B0 F0 D0 n K s env σ ro Q bF hR h hK;simp only[gwp] at h;split at h
  ·rename_i t ht;have mQ:=hR;obtain⟨B,F,pl,tb,hB,hG⟩:=hR;have:=UX hG ht;simp only[vwp,this,Iu];cases t with
   |true=>exact⟨fun _=>eK n K s env σ ro Q bF mQ h hK,fun e=>by cases e⟩
   |false=>exact⟨(fun e=>by cases e),fun _=>ef n K s env σ ro Q bF mQ h hK⟩
  split at h
  ·rename_i t ht;obtain⟨B,F,pl,tb,hB,hG⟩:=hR;have:=Xt ht (hG.evs Gds.nil c);simp only[vwp,this,Iu];split at h
   ·rename_i A hA;obtain⟨p,I,hF,hI⟩:=h;have fin:∀ e s' ae σ',Q1p s.env.length A p I K e s'→GRel P B0 F0 D0 s' ae σ'→Q e ae σ':=fun e s' ae σ' h1 h2=>by
     cases e with
     |normal =>obtain⟨d,h3,h4⟩:=h1;exact hK _ _ _ _ (hI d h4) (VN h2 h3)
     |_=>exact hK _ _ _ _ h1 h2
    exact⟨fun e=>eK n _ s env σ ro Q bF ⟨B,F,pl,tb,hB,hG⟩ (hF.1 e) fin,fun e=>ef n _ s env σ ro Q bF ⟨B,F,pl,tb,hB,hG⟩ (hF.2 e) fin⟩
   exact⟨fun e=>eK n K s env σ ro Q bF ⟨B,F,pl,tb,hB,hG⟩ (h.1 e) hK,fun e=>ef n K s env σ ro Q bF ⟨B,F,pl,tb,hB,hG⟩ (h.2 e) hK⟩
  ·exact h.elim
 |block id b ih =>
  intro B0 F0 D0 n K s env σ ro Q bF hR h hK;refine ih id _ s env σ ro _ bF hR h fun e s' ae σ' h1 h2=>?_;cases e with
  |exit gj =>
   simp only[IT] at h1;simp only[Ac];split
   ·rename_i e;rw[if_pos e] at h1;exact hK _ _ _ _ h1 h2
   ·rename_i e;rw[if_neg e] at h1;exact hK _ _ _ _ h1 h2
  |_=>exact hK _ _ _ _ h1 h2
 |loop b ih =>
  intro B0 F0 D0 n K s env σ ro Q bF hR h hK;simp only[gwp] at h;split at h
  ·rename_i A hA;obtain⟨p,d0,h1,I,μ,h2,h3⟩:=h;have hlen:s.env.length=env.length:=by obtain⟨B,F,pl,tb,_,hG⟩:=hR;exact hG.env.length
   have hk:∀ d,(A.st p d).map (·.1)=A.sl:=fun d=>HW _ _;refine⟨A.sl,fun m vs σ'=>∃ d,I d∧μ d=m∧GRel P B0 F0 D0 (Zj s.env.length (A.st p d) (A.own p d)) (Xp A.sl vs (List.replicate env.length poison)) σ',μ d0,⟨d0,h2,rfl,?_⟩,fun m vs σ' ⟨d,h4,h5,h6⟩=>?_⟩
   ·have:=Bk hR h1 s.env.length;rw[hk d0,hlen] at this;rw[hlen];exact this
   ·refine ih n _ _ _ σ' ro _ bF h6 (h3 d h4) fun e s' ae aJ h7 h8=>?_;cases e with
    |normal =>
     simp only[Q15] at h7;cases mw:Q8z s'.own with
     |false=>rw[mw] at h7;exact h7.elim
     |true =>
     rw[mw] at h7;obtain⟨d',h9,bL,e_⟩:=h7;refine⟨μ d',by omega,d',bL,rfl,?_⟩;have:=Bk h8 h9 s.env.length;rw[hk d',hlen] at this;rw[hlen];exact this
    |_=>exact hK _ _ _ _ h7 h8
  ·exact h.elim
end
end Go.V
namespace Go.V
open Go
def Ld (s:St):VResult→Option SV
 |.tmp t=>some (s.env.getD t .any)
 |.cell a agg size=>bif Nat.blt 0 size then Q09 s.own agg size (s.env.getD a .any) else none
def GK (s:St) (rs:List VResult):Option SV :=
 match rs with
 |[r]=>Ld s r
 |rs=>(rs.mapM (Ld s)).map .tup
def Q0r (mp:List (Nat×Option Nat)) (j:Nat) (a:Option Nat):Option (List (Nat×Option Nat)) :=
 if (Qu mp j).isSome then none else match a with
 |some x=>if mp.any fun p=>p.2==some x then none else some (mp++[(j,a)])
 |none=>some (mp++[(j,a)])
mutual
def IW:SV→SV→List (Nat×Option Nat)→Option (List (Nat×Option Nat))
 |.lst j,v,mp=>match v with|.lst a=>Q0r mp j (some a)|.nilS=>Q0r mp j none|_=>none
 |.map j,v,mp=>match v with|.map a=>Q0r mp j (some a)|_=>none
 |.dd j w,v,mp=>match w with
  |.out=>(match v with
   |.dd a w'=>(match w' with|.out=>Q0r mp j (some a)|_=>none)
   |.nilS=>Q0r mp j none
   |_=>none)
  |_=>none
 |.box j _,v,mp=>match v with|.box a _=>Q0r mp j (some a)|_=>none
 |.agg l,v,mp=>match v with|.agg l'=>Fi l l' mp|_=>none
 |.tup l,v,mp=>match v with|.tup l'=>Fi l l' mp|_=>none
 |.any,_,mp=>some mp
 |.val _ _,_,mp=>some mp
 |.nilS,_,mp=>some mp
 |.nilP,_,mp=>some mp
 |.nilM,_,mp=>some mp
 |.nilF,_,mp=>some mp
 |.sub _ _ _ _,_,_|.elp _ _ _ _,_,_|.grd _ _,_,_|.cp _ _,_,_|.fn _ _ _,_,_|.rop _ _ _ _,_,_|.pf _ _ _ _,_,_|.bid _ _,_,_=>none
def Fi:List SV→List SV→List (Nat×Option Nat)→Option (List (Nat×Option Nat))
 |[],_,mp=>some mp
 |s::ss,l,mp=>match l with
  |v::vs=>match IW s v mp with|some mp=>Fi ss vs mp|none=>none
  |[]=>none
end
def OU (s:St) (mp:List (Nat×Option Nat)):Nat→List OB→Prop
 |_,[]=>True
 |j,b::r=>Q07 s mp j b∧OU s mp (j+1) r
def WI (rs:List VResult) (v:SV) (bs:List OB):Exit→St→Prop:=fun e s =>
 let fin:=match GK s rs with
  |some r=>(match IW v r [] with
   |some mp=>Tn mp v r∧OU s mp 0 bs
   |none=>False)
  |none=>False
 match e with
 |.normal=>fin
 |.ret=>fin
 |_=>False
section
variable {P:Program}{B F:Heap}{pl:Nat→Value}{tb:Nat→Option Bool}{s:St}{env:Env}{σ:Heap}
theorem HC (hG:Gam P B F pl tb s env σ) {r:VResult}{v:SV}(h:Ld s r=some v):∃ u,Jv env σ r=some u∧SR P B pl tb v u:=by
 cases r with
 |tmp t=>obtain rfl:=osj h;exact⟨_,rfl,hG.env.getD t undef⟩
 |cell a agg size =>
  simp only[Ld] at h;cases hb:Nat.blt 0 size with
  |false=>rw[hb] at h;cases h
  |true =>rw[hb] at h;obtain⟨i,o,c,e,wr,t,u,h1,h2,h3,h4⟩:=HE hG.leB hG.obj (by simpa [Nat.blt_eq] using hb) h (hG.env.getD a undef);refine⟨u,?_,h4⟩;simp only[Jv,Q4,Q2,h1,h2,h3];rfl
theorem Md (hG:Gam P B F pl tb s env σ) {rs:List VResult}{v:SV}(h:GK s rs=some v):∃ u,Xk env σ rs=some u∧SR P B pl tb v u:=by
 have all:∀ (rs:List VResult) (l:List SV),rs.mapM (Ld s)=some l→∃ us,rs.mapM (Jv env σ)=some us∧SRs P B pl tb l us:=by
  intro rs;induction rs with
  |nil=>intro l h;simp at h;subst h;exact⟨[],rfl,rfl⟩
  |cons r rs ih =>
   intro l h;rw[List.mapM_cons] at h;cases h1:Ld s r with
   |none=>simp[h1] at h
   |some a =>
    cases h2:rs.mapM (Ld s) with
    |none=>simp[h1,h2] at h
    |some l' =>simp[h1,h2] at h;subst h;obtain⟨u,h3,h4⟩:=HC hG h1;obtain⟨us,h5,h6⟩:=ih l' h2;exact⟨u::us,by rw[List.mapM_cons];simp[h3,h5],by simp only[SRs];exact⟨u,us,rfl,h4,h6⟩⟩
 have tup:(rs.mapM (Ld s)).map SV.tup=some v→∃ u,(rs.mapM (Jv env σ)).map (fun vs=>Value.tuple vs.toArray)=some u∧SR P B pl tb v u:=fun h=>by simp only[Option.map_eq_some_iff] at h;obtain⟨l,h1,rfl⟩:=h;obtain⟨us,h2,h3⟩:=all rs l h1;exact⟨.tuple us.toArray,by rw[h2];rfl,by simp only[SR];exact⟨us,rfl,h3⟩⟩
 match rs,h,tup with
 |[r],h,_=>exact HC hG h
 |[],h,tup=>exact tup h
 |_::_::_,h,tup=>exact tup h
theorem Ni {mp bQ:List (Nat×Option Nat)}{j:Nat}{a:Option Nat}(h:Q0r mp j a=some bQ) (hi:Inj mp):Inj bQ:=by
 unfold Q0r at h;split at h
 ·cases h
 ·split at h
  ·rename_i x;split at h
   ·cases h
   ·rename_i hc;obtain rfl:=osj h;have cC:∀ d,Qu mp d≠some (some x):=fun d hd=>by
     obtain⟨p,h1,h2,h3⟩:=Lz hd;exact hc (List.any_eq_true.2 ⟨p,h1,by rw[h3];simp⟩)
    intro t1 t2 a' h1 h2;rw[KD] at h1 h2;split at h1
    ·rename_i y1 e1;split at h2
     ·rename_i y2 e2;obtain rfl:=osj h1;obtain rfl:=osj h2;exact hi t1 t2 a' e1 e2
     ·split at h2
      ·obtain rfl:=osj (osj h2);obtain rfl:=osj h1;exact absurd e1 (cC t1)
      ·cases h2
    ·split at h1
     ·obtain rfl:=osj (osj h1);split at h2
      ·rename_i y2 e2;obtain rfl:=osj h2;exact absurd e2 (cC t2)
      ·split at h2
       ·omega
       ·cases h2
     ·cases h1
  ·obtain rfl:=osj h;intro t1 t2 a' h1 h2;rw[KD] at h1 h2;split at h1
   ·rename_i y1 e1;split at h2
    ·rename_i y2 e2;obtain rfl:=osj h1;obtain rfl:=osj h2;exact hi t1 t2 a' e1 e2
    ·split at h2<;>cases h2
   ·split at h1<;>cases h1
mutual
theorem E2:∀ (v r:SV) (mp bQ:List (Nat×Option Nat)),IW v r mp=some bQ→Inj mp→Inj bQ
 |.lst j,r,mp,bQ,h,hi=>by
  simp only[IW] at h;split at h
  ·exact Ni h hi
  ·exact Ni h hi
  ·cases h
 |.map j,r,mp,bQ,h,hi=>by
  simp only[IW] at h;split at h
  ·exact Ni h hi
  ·cases h
 |.dd j w,r,mp,bQ,h,hi=>by
  simp only[IW] at h;split at h
  ·split at h
   ·split at h
    ·exact Ni h hi
    ·cases h
   ·exact Ni h hi
   ·cases h
  ·cases h
 |.box j _,r,mp,bQ,h,hi=>by
  simp only[IW] at h;split at h
  ·exact Ni h hi
  ·cases h
 |.agg l,r,mp,bQ,h,hi=>by
  simp only[IW] at h;split at h
  ·exact HH l _ mp bQ h hi
  ·cases h
 |.tup l,r,mp,bQ,h,hi=>by
  simp only[IW] at h;split at h
  ·exact HH l _ mp bQ h hi
  ·cases h
 |.any,r,mp,bQ,h,hi|.val _ _,r,mp,bQ,h,hi|.nilS,r,mp,bQ,h,hi|.nilP,r,mp,bQ,h,hi|.nilM,r,mp,bQ,h,hi|.nilF,r,mp,bQ,h,hi=>by simp only[IW] at h;obtain rfl:=osj h;exact hi
 |.sub _ _ _ _,r,mp,bQ,h,hi|.elp _ _ _ _,r,mp,bQ,h,hi|.grd _ _,r,mp,bQ,h,hi|.cp _ _,r,mp,bQ,h,hi|.fn _ _ _,r,mp,bQ,h,hi|.rop _ _ _ _,r,mp,bQ,h,hi|.pf _ _ _ _,r,mp,bQ,h,hi|.bid _ _,r,mp,bQ,h,hi=>by cases h
theorem HH:∀ (v r:List SV) (mp bQ:List (Nat×Option Nat)),Fi v r mp=some bQ→Inj mp→Inj bQ
 |[],r,mp,bQ,h,hi=>by simp only[Fi] at h;obtain rfl:=osj h;exact hi
 |s::ss,[],mp,bQ,h,hi=>by cases h
 |s::ss,r::rs,mp,bQ,h,hi=>by
  simp only[Fi] at h;split at h
  ·rename_i qX h1;exact HH ss rs qX bQ h (E2 s r mp qX h1 hi)
  ·cases h
end
theorem LO {mp:List (Nat×Option Nat)}:∀ (bs:List OB) (n:Nat),OU s mp n bs→∀ j b,bs[j]?=some b→Q07 s mp (n+j) b
 |[],n,_,j,b,hj=>by simp at hj
 |b0::r,n,h,j,b,hj=>by
  obtain⟨h1,h2⟩:=h;cases j with
  |zero=>simp at hj;subst hj;exact h1
  |succ j =>
   have:=LO r (n+1) h2 j b (by simpa using hj)
   rwa [Nat.add_assoc,Nat.add_comm 1 j] at this
mutual
theorem Ar {n:Nat}{π:Nat→Nat}:∀ (v:SV) (u:Value),v.ret 0=true→SR P B pl tb v u→Ren n π u u
 |.val k x,u,h,hs=>by
  simp only[SR] at hs;cases k with
  |i ik=>simp only[KC] at hs;obtain rfl:=(List.cons.inj hs).1;exact .plain _ rfl
  |bo=>simp only[KC] at hs;obtain rfl:=(List.cons.inj hs).1;exact .plain _ rfl
  |st=>simp only[KC] at hs;obtain rfl:=(List.cons.inj hs).1;exact .plain _ rfl
  |list k=>cases h
  |pair a b =>have h1:=KC.length hs;have h2:=a.size_pos;have h3:=b.size_pos;simp only[Kind.size,List.length_singleton] at h1;omega
 |.nilS,u,_,hs|.nilP,u,_,hs|.nilM,u,_,hs|.nilF,u,_,hs=>by simp only[SR] at hs;subst hs;exact .plain _ rfl
 |.lst j,u,h,_|.box j _,u,h,_|.map j,u,h,_=>by simp[SV.ret,Nat.blt_eq] at h
 |.dd j w,u,h,_=>by cases w<;>simp[SV.ret,Nat.blt_eq] at h
 |.agg l,u,h,hs=>by simp only[SR] at hs;obtain⟨cs,rfl,h2⟩:=hs;have:=HY (n:=n) (π:=π) l cs h h2;exact .agg _ _ rfl fun i h3 _=>this _ (by simp)
 |.tup l,u,h,hs=>by simp only[SR] at hs;obtain⟨cs,rfl,h2⟩:=hs;have:=HY (n:=n) (π:=π) l cs h h2;exact .tuple _ _ rfl fun i h3 _=>this _ (by simp)
 |.any,_,h,_|.bid _ _,_,h,_|.grd _ _,_,h,_|.sub _ _ _ _,_,h,_|.elp _ _ _ _,_,h,_|.rop _ _ _ _,_,h,_|.cp _ _,_,h,_|.fn _ _ _,_,h,_|.pf _ _ _ _,_,h,_=>by cases h
theorem HY {n:Nat}{π:Nat→Nat}:∀ (v:List SV) (u:List Value),SVs.ret 0 v=true→SRs P B pl tb v u→∀ x∈u,Ren n π x x
 |[],u,_,hs=>by simp only[SRs] at hs;subst hs;intro x hx;cases hx
 |s::ss,u,h,hs=>by
  simp only[SVs.ret,Bool.and_eq_true] at h;simp only[SRs] at hs;obtain⟨x,y,rfl,h1,h2⟩:=hs;intro z hz;rcases List.mem_cons.1 hz with rfl|hz
  ·exact Ar s z h.1 h1
  ·exact HY ss y h.2 h2 z hz
end
theorem EW (exact:Bool) {σ0:Heap}{sf:St}{kR:Env}{σf:Heap}(hR:GRel P σ0 σ0 σ0 sf kR σf) {rs:List VResult}{v:SV}{bs:List OB}{e:Exit}(hv:v.ret bs.length=true) (hb:bs.all OB.ret=true) (h:WI rs v bs e sf) (hx:exact=true→bs.all OB.isL=true∧V0 v=true) :
  Q6w σ0 rs (fun u σ'=>if exact then u=V4 (R2 σ0 bs) v∧σ'=Pz σ0 bs else Ret P σ0 v bs u σ') e kR σf:=by
 have main:(match GK sf rs with
  |some r=>(match IW v r [] with
   |some mp=>Tn mp v r∧OU sf mp 0 bs
   |none=>False)
  |none=>False)→Z5 (Xk kR σf rs) fun u=>∃ v' σ',DropTo σ0 u σf v' σ'∧(if exact then v'=V4 (R2 σ0 bs) v∧σ'=Pz σ0 bs else Ret P σ0 v bs v' σ'):=fun h=>by
  split at h
  ·rename_i r hr;split at h
   ·rename_i mp mW;obtain⟨h1,h2⟩:=h;obtain⟨B,F,pl,tb,⟨hB,hF,_,hd⟩,hG⟩:=hR;obtain⟨u,h3,h4⟩:=Md hG hr;have ig:=Nf v r u h1 h4;have ec:=E2 v r [] mp mW (fun t t' a h=>by cases h);have ak:∀ j b,bs[j]?=some b→Q07 sf mp j b:=fun j b hj=>by have:=LO bs 0 h2 j b hj;rwa [Nat.zero_add] at this
    rw[h3];have hle:σ0.Le σf:=hF.trans hG.le;have hA:Agree σ0 σf:=fun i hi=>by
     cases hg:σ0.get i with
     |none=>exact hd.2 i hi hg
     |some b=>exact hle.2 i b hg
    have aO:∀ j b,bs[j]?=some b→OR P hNil (NQ pl mp) JZ σf (NQ pl mp j) b∧∀ i,Oid (NQ pl mp j) i→σ0.get i=none∧σ0.n≤i:=fun j b hj=>by
     obtain⟨k1,k2⟩:=Zc hG (ak j b hj);have c_:=List.all_eq_true.1 hb b (List.mem_of_getElem? hj);have au:b.live=true:=by cases b<;>first|rfl|cases c_
     refine⟨k1.retd c_ fun _ _=>rfl,fun i hi=>?_⟩;obtain⟨a,e1,e2,e3⟩:=k2 au i hi;have ly:=hG.fresh a i e2 e3;have hn:σ0.get i=none:=by
      cases hg:σ0.get i with
      |none=>rfl
      |some b=>rw[hF.2 i b hg] at ly;cases ly
     refine⟨hn,Nat.le_of_not_lt fun ah=>?_⟩;have bn:=hd.2 i ah hn;have ak:=hG.obj a;cases ho:Qc sf.own a with
     |dead=>rw[ho] at e2;cases e2
     |lst ty k xs nl =>
      rw[ho] at ak;rcases ak with⟨_,_,h2⟩|⟨_,i',cap,c,t,h2,_,h3,_⟩
      ·rw[h2] at e3;cases e3
      ·rw[h2] at e3;obtain rfl:=osj e3;rw[h3] at bn;cases bn
     |cells l u=>rw[ho] at ak;obtain⟨i',c,e,t,h2,h3,_⟩:=ak;rw[h2] at e3;obtain rfl:=osj e3;rw[h3] at bn;cases bn
     |mapE kk vk m key n=>rw[ho] at ak;obtain⟨i',es,cl,r,e,h2,h3,_⟩:=ak;rw[h2] at e3;obtain rfl:=osj e3;rw[h3] at bn;cases bn
     |map kk vk m=>rw[ho] at ak;obtain⟨i',es,cl,h2,h3,_⟩:=ak;rw[h2] at e3;obtain rfl:=osj e3;rw[h3] at bn;cases bn
     |stk l vals=>rw[ho] at e2;cases e2
     |lpf l q s=>rw[ho] at ak e2;obtain⟨h2,_,h3⟩:=ak;rw[h2] at e3;obtain rfl:=osj e3;have h3:=h3 e2;rw[bn] at h3;cases h3
     |iter kk vk m dn=>rw[ho] at ak;obtain⟨j',i',es,cl,wr,seen,h2,h3,_⟩:=ak;rw[h2] at e3;obtain rfl:=osj e3;rw[h3] at bn;cases bn
     |deep ty q k xs nl hh =>rw[ho] at ak;obtain⟨is,_,d2,d3,_⟩:=DP.open ak;obtain⟨c,e,t,h⟩:=d2.cells i ((d3 i).1 e3);rw[h] at bn;cases bn
    have eN:∀ j j' i,j<bs.length→j'<bs.length→j≠j'→Oid (NQ pl mp j) i→Oid (NQ pl mp j') i→False:=fun j j' i hj cS aF hi ck=>by
     have bc:=List.getElem?_eq_getElem hj;have bV:=List.getElem?_eq_getElem cS;have r1:=List.all_eq_true.1 hb _ (List.getElem_mem hj);have r2:=List.all_eq_true.1 hb _ (List.getElem_mem cS);have l1:(bs[j]).live=true:=by cases nH:bs[j]<;>first|rfl|(rw[nH] at r1;cases r1)
     have l2:(bs[j']).live=true:=by cases nH:bs[j']<;>first|rfl|(rw[nH] at r2;cases r2)
     obtain⟨a,e1,e2,e3⟩:=(Zc hG (ak j _ bc)).2 l1 i hi;obtain⟨a',tz,ln,tA⟩:=(Zc hG (ak j' _ bV)).2 l2 i ck;by_cases e:a=a'
     ·subst e;exact aF (ec j j' a e1 tz)
     ·exact hG.sep a a' i e e2 ln e3 tA
    cases hex:exact with
    |true =>obtain⟨hl,cm⟩:=hx hex;have ni:=EG (P:=P) hA hle.1 hv cm hb hl (pl:=NQ pl mp) (u:=u) (fun j b hj=>⟨(aO j b hj).1,fun i hi=>((aO j b hj).2 i (CI hi)).2⟩) (fun j j' i a b c d e=>eN j j' i a b c (CI d) (CI e)) (ig.retd (fun j hj=>rfl) _ _ hv);exact⟨_,_,ni,by simp⟩
    |false =>
     simp only[Bool.false_eq_true,if_false];by_cases bR:bs=[]
     ·subst bR;refine⟨u,σ0,.rename (fun i=>i) (Nat.le_refl _) (fun i hi=>⟨rfl,(hA i hi).symm,.inl (hA i hi)⟩) (fun i k1 k2=>by omega) (fun _ _ _ _ _ _ h=>h) (Ar v u hv ig),?_⟩;exact⟨⟨Heap.Le.refl _,Dead.refl _⟩,fun _=>rfl,XH,(fun j b hj=>by simp at hj),(fun j j' i hj=>by simp at hj),ig.retd (fun j hj=>by simp at hj) _ _ hv⟩
     ·exact⟨u,σf,.refl _ _ _,⟨hle,hd⟩,fun e=>absurd e bR,NQ pl mp,aO,eN,ig.retd (fun j hj=>rfl) _ _ hv⟩
   ·exact h.elim
  ·exact h.elim
 cases e with
 |normal=>exact main h
 |ret=>exact main h
 |_=>exact h.elim
def Qs (nt:Nat) (args:List SV):St:=⟨args++List.replicate (nt-args.length) .any,[],0⟩
theorem EU {args:List SV}{vs:List Value}(h:SRs P σ XH JZ args vs) (nt:Nat):GRel P σ σ σ (Qs nt args) (vs++List.replicate (nt-vs.length) undef) σ:=by
 have tB:∀ n,SRs P σ XH JZ (List.replicate n .any) (List.replicate n undef):=by
  intro n;induction n with
  |zero=>simp[SRs]
  |succ n ih=>simp only[List.replicate_succ,SRs];exact⟨_,_,rfl,by simp[SR],ih⟩
 refine⟨σ,σ,XH,JZ,⟨Heap.Le.refl _,Heap.Le.refl _,(fun i b h1 h2=>by rw[h2] at h1;cases h1),Dead.refl _⟩,Heap.Le.refl _,Heap.Le.refl _,?_,fun d=>trivial,(fun d i hl=>by cases hl),(fun d d' i _ hl=>by cases hl),fun _ _=>rfl⟩;have:=h.length;simp only[Qs,this];exact h.append (tB _)
theorem Fun.okC {f:Nat}{vc:VCode}{rs:List VResult}{nt:Nat}(h:Fun P f vc rs nt) (hm:P.follows .mixedOrders=true) {sp:CSp}
  (hb:∀ ap,Q2r P ap→∀ args c v bs,sp ap args=some (c,v,bs)→c→∃ (C:Cx) (L:List (Nat×LoopAnn)) (gY:List SV),(∀ σ vs,SRs P σ XH JZ args vs→SRs P σ XH JZ gY vs)∧COk P C∧gwp C L vc 0 (WI rs v bs) (Qs nt gY)):OkC P f sp:=by
 intro ap eR σ args vs c v bs ax fa hv bR hc;obtain⟨C,L,gY,h1,h2,h3⟩:=hb ap eR args c v bs fa hc;have main:∀ exact:Bool,(exact=true→bs.all OB.isL=true∧V0 v=true)→VCalled P f vs σ fun u σ'=>if exact then u=V4 (R2 σ bs) v∧σ'=Pz σ bs else Ret P σ v bs u σ':=fun exact hx=>by refine h.calls hm C9 ?_;exact Cf h2 vc 0 _ _ _ σ none _ trivial (EU (h1 σ vs ax) nt) h3 fun e s' ae σ' k1 k2=>EW exact k2 hv bR k1 hx
 refine⟨(main false fun e=>by cases e).mono fun u σ' hr=>by simpa using hr,fun hl cm=>(main true fun _=>⟨hl,cm⟩).mono fun u σ' hr=>by simpa using hr⟩
theorem OkC.true {f:Nat}{sp:CSp}(h:OkC P f sp) (he:Xg P f) {σ:Heap}{args:List SV}{vs:List Value}(ha:SRs P σ XH JZ args vs) {c:Prop}(hs:sp (fun _ _=>none) args=some (c,.val .bo true,[])) (hc:c) :
  VCallsTo P f vs σ fun v _=>v=.bool true:=by
 have:=(h (fun _ _=>none) (fun _ _ _ _ _ _ _ _ _ h=>by cases h) σ args vs c _ [] ha hs rfl rfl hc).1;intro ρ w aw hH hL;rcases this ρ w aw hH hL with⟨_,h2⟩|⟨c',_,h2⟩
 ·refine h2.mono fun e w' ⟨c',h3,h4⟩=>⟨c',h3,h4.mono fun u σ' hr=>?_⟩;have:=(hr.flat rfl).2;simpa only [SR,KC,List.cons.injEq,and_true] using this
 ·have:=h2 w (Like.refl ρ w);rw[N3 he aw w] at this;cases this
end
end Go.V
namespace Go.V
open Go
mutual
inductive AP:Type→Type 1 where
 |k (k:Kind):AP k.T
 |agg {D:Type}(l:AL D):AP D
 |ptr {D:Type}(l:AL D):AP D
 |fn (ks:List Kind) (r:Kind):AP ((AT ks→Prop)×(AT ks→r.T))
 |nilS:AP Unit
 |any:AP Unit
inductive AL:Type→Type 1 where
 |nil:AL Unit
 |one {D:Type}(a:AP D):AL D
 |cons {D E:Type}(a:AP D) (r:AL E):AL (D×E)
end
def L3:(ks:List Kind)→AT ks→List SV
 |[],_=>[]
 |[k],x=>[Iz k x]
 |k::k'::ks,x=>Iz k x.1::L3 (k'::ks) x.2
abbrev Ap:=SV→List SV→Option (Prop×SV)
def Q0b (ap:Ap) (f:SV) (ks:List Kind) (r:Kind) (x:AT ks):Prop:=match ap f (L3 ks x) with
 |some (c,v)=>(match gap.asV r v with|some _=>c|none=>False)
 |none=>False
def fnP (ap:Ap) (f:SV) (ks:List Kind) (r:Kind) (x:AT ks):r.T:=match ap f (L3 ks x) with
 |some (_,v)=>(match gap.asV r v with|some y=>y|none=>r.dflt)
 |none=>r.dflt
mutual
def AP.dec (ap:Ap):{D:Type}→(p:AP D)→SV→Option D
 |_,.k k,v=>match k with
  |.list k=>view [] k v
  |.i ik=>Rl (.i ik) [v]
  |.bo=>Rl .bo [v]
  |.st=>Rl .st [v]
  |.pair _ _=>none
 |_,.agg l,v=>match v with|.agg vs=>AL.dec ap l vs|_=>none
 |_,.nilS,v=>match v with|.nilS=>some ()|_=>none
 |_,.any,_=>some ()
 |_,.ptr l,v=>match v with|.cp vs 0=>AL.dec ap l vs|_=>none
 |_,.fn ks r,v=>match v with
  |.fn g a b=>some (Q0b ap (.fn g a b) ks r,fnP ap (.fn g a b) ks r)
  |.pf qY r' cE p=>some (Q0b ap (.pf qY r' cE p) ks r,fnP ap (.pf qY r' cE p) ks r)
  |_=>none
def AL.dec (ap:Ap):{D:Type}→(l:AL D)→List SV→Option D
 |_,.nil,vs=>match vs with|[]=>some ()|_=>none
 |_,.one a,vs=>match vs with|[v]=>AP.dec ap a v|_=>none
 |_,.cons a r,vs=>match vs with
  |v::vs=>(match AP.dec ap a v,AL.dec ap r vs with|some x,some y=>some (x,y)|_,_=>none)
  |[]=>none
end
mutual
def AP.can:{D:Type}→(p:AP D)→D→SV
 |_,.k k,x=>.val k x
 |_,.agg l,x=>.agg (AL.can l x)
 |_,.nilS,_=>.nilS
 |_,.any,_=>.any
 |_,.ptr l,x=>.cp (AL.can l x) 0
 |_,.fn ks r,x=>.pf ks r x.1 x.2
def AL.can:{D:Type}→(l:AL D)→D→List SV
 |_,.nil,_=>[]
 |_,.one a,x=>[AP.can a x]
 |_,.cons a r,x=>AP.can a x.1::AL.can r x.2
end
def XE {D:Type}(l:AL D) (pre:D→Prop) (res:D→SV) (obs:D→List OB):CSp:=fun ap args=>match AL.dec ap l args with
 |some d=>some (pre d,res d,obs d)
 |none=>none
section
variable {P:Program}{σ:Heap}
theorem My:∀ {ks:List Kind}{x:AT ks}{vs:List Value},Rp σ ks x vs→SRs P σ XH JZ (L3 ks x) vs
 |[],x,vs,h=>by simp only[Rp] at h;subst h;simp[L3,SRs]
 |[k],x,vs,h=>by obtain⟨v,rfl,h1⟩:=h;simp only[L3,SRs];exact⟨v,[],rfl,X1 h1,rfl⟩
 |k::k'::ks,x,vs,h=>by obtain⟨v,cK,rfl,h1,h2⟩:=h;simp only[L3,SRs];exact⟨v,cK,rfl,X1 h1,My h2⟩
theorem A9 {ap:Ap}(eR:Q2r P ap) {f:SV}{v:Value}(hf:SR P σ XH JZ f v) (hv:∃ g a b,v=.func (.func g) a b) (ks:List Kind) (r:Kind):SR P σ XH JZ (.pf ks r (Q0b ap f ks r) (fnP ap f ks r)) v:=by
 obtain⟨g,a,b,rfl⟩:=hv;simp only[SR];refine⟨g,a,b,rfl,fun x hd τ vs hle cj=>?_⟩;unfold Q0b at hd;split at hd
 ·rename_i c u nj;split at hd
  ·rename_i y hy;obtain⟨h1,g',a',b',h2,h3⟩:=eR τ f (L3 ks x) c u (.func (.func g) a b) vs (SR.mono hle (fun _ _ h=>h) _ _ hf) (My cj) nj hd;obtain⟨rfl,rfl,rfl⟩:=(by simpa using h2:g=g'∧a=a'∧b=b');have hp:fnP ap f ks r x=y:=by simp[fnP,nj,hy]
   rw[hp];exact h3.mono fun u' σ' hu=>⟨hu.1,(Hp hy hu.2).vcall (AG _)⟩
  ·exact hd.elim
 ·exact hd.elim
mutual
theorem AP.dec_sound {ap:Ap}(eR:Q2r P ap):∀ {D:Type}(p:AP D) {v:SV}{x:D}{u:Value},AP.dec ap p v=some x→SR P σ XH JZ v u→SR P σ XH JZ (AP.can p x) u
 |_,.k k,v,x,u,h,hs=>by
  have one:SRs P σ XH JZ [v] [u]:=by simp only[SRs];exact⟨u,[],rfl,hs,rfl⟩
  simp only[AP.can,SR];cases k with
  |list k =>have:=Wg (own:=[]) (Heap.Le.refl σ) (fun d=>(trivial:OR P σ XH JZ σ (XH d) .dead)) (show view [] k v=some x from h) hs;exact⟨u,rfl,this⟩
  |i ik=>exact QE (k:=.i ik) h one
  |bo=>exact QE (k:=.bo) h one
  |st=>exact QE (k:=.st) h one
  |pair a b=>cases h
 |_,.agg l,v,x,u,h,hs=>by
  simp only[AP.dec] at h;split at h
  ·simp only[SR] at hs;obtain⟨cs,rfl,hs⟩:=hs;simp only[AP.can,SR];exact⟨cs,rfl,AL.dec_sound eR l h hs⟩
  ·cases h
 |_,.any,v,x,u,h,hs=>by simp only[AP.can,SR]
 |_,.nilS,v,x,u,h,hs=>by
  simp only[AP.dec] at h;split at h
  ·simp only[AP.can];exact hs
  ·cases h
 |_,.ptr l,v,x,u,h,hs=>by
  simp only[AP.dec] at h;split at h
  ·simp only[SR] at hs;obtain⟨b,c,e,wr,t,h1,rfl,h3⟩:=hs;simp only[AP.can,SR];exact⟨b,c,e,wr,t,h1,rfl,AL.dec_sound eR l h h3⟩
  ·cases h
 |_,.fn ks r,v,x,u,h,hs=>by
  simp only[AP.dec] at h;split at h
  ·obtain rfl:=osj h;exact A9 eR hs (by simp only[SR] at hs;obtain⟨x,y,rfl,_⟩:=hs;exact⟨_,_,_,rfl⟩) ks r
  ·obtain rfl:=osj h;exact A9 eR hs (by simp only[SR] at hs;obtain⟨g,x,y,rfl,_⟩:=hs;exact⟨_,_,_,rfl⟩) ks r
  ·cases h
theorem AL.dec_sound {ap:Ap}(eR:Q2r P ap):∀ {D:Type}(l:AL D) {vs:List SV}{x:D}{us:List Value},AL.dec ap l vs=some x→SRs P σ XH JZ vs us→SRs P σ XH JZ (AL.can l x) us
 |_,.nil,vs,x,us,h,hs=>by
  simp only[AL.dec] at h;split at h
  ·exact hs
  ·cases h
 |_,.one a,vs,x,us,h,hs=>by
  simp only[AL.dec] at h;split at h
  ·obtain⟨u,rfl,h1⟩:=hs.one;simp only[AL.can,SRs];exact⟨u,[],rfl,AP.dec_sound eR a h h1,rfl⟩
  ·cases h
 |_,.cons a r,vs,x,us,h,hs=>by
  simp only[AL.dec] at h;split at h
  ·rename_i v cK;split at h
   ·rename_i y z h1 h2;obtain rfl:=osj h;simp only[SRs] at hs;obtain⟨u,ll,rfl,h3,h4⟩:=hs;simp only[AL.can,SRs];exact⟨u,ll,rfl,AP.dec_sound eR a h1 h3,AL.dec_sound eR r h2 h4⟩
   ·cases h
  ·cases h
end
theorem CsOk.nil:CsOk P []:=fun f sp h=>by cases h
theorem CsOk.cons {f:Nat}{sp:CSp}{cs:List (Nat×CSp)}(h:OkC P f sp) (t:CsOk P cs):CsOk P ((f,sp)::cs):=fun g tC hg=>by
 simp only[Qu] at hg;cases hb:Nat.beq f g with
 |true=>rw[hb] at hg;obtain rfl:=Nat.eq_of_beq_eq_true hb;obtain rfl:=osj hg;exact h
 |false=>rw[hb] at hg;exact t g tC hg
theorem COk.cons {C:Cx}{f:Nat}{sp:CSp}(h:OkC P f sp) (t:COk P C):COk P {C with cs:=(f,sp)::C.cs}:=⟨CsOk.cons h t.cs,t.xs,t.it,t.yl,t.iy,t.xf⟩
theorem Q58 {f:Nat}{vc:VCode}{rs:List VResult}{nt:Nat}(h:Fun P f vc rs nt) (hm:P.follows .mixedOrders=true) {D:Type}{l:AL D}{pre:D→Prop}{res:D→SV}{obs:D→List OB}
  {C:Cx}(az:COk P C) (L:D→List (Nat×LoopAnn)) (hb:∀ d,pre d→gwp C (L d) vc 0 (WI rs (res d) (obs d)) (Qs nt (AL.can l d))):OkC P f (XE l pre res obs):=by
 refine h.okC hm fun ap eR args c v bs hs hc=>?_;unfold XE at hs;split at hs
 ·rename_i d hd;obtain⟨rfl,rfl,rfl⟩:=(by simpa using hs:pre d=c∧res d=v∧obs d=bs);exact⟨C,L d,AL.can l d,fun σ vs hv=>AL.dec_sound eR l hd hv,az,hb d hc⟩
 ·cases hs
theorem QA {f:Nat}{vc:VCode}{rs:List VResult}{nt:Nat}(h:Fun P f vc rs nt) (hm:P.follows .mixedOrders=true) {D:Type}{l:AL D}{pre:D→Prop}{res:D→SV}{obs:D→List OB}
  {C:Cx}(az:COk P C) {L:D→List (Nat×LoopAnn)}{V:D→Prop}(hq:∀ d,gwp C (L d) vc 0 (WI rs (res d) (obs d)) (Qs nt (AL.can l d))=V d) (hb:∀ d,pre d→V d):OkC P f (XE l pre res obs) :=
 Q58 h hm az L fun d hp=>(hq d).mpr (hb d hp)
end
end Go.V
namespace Go.V
open Go
def Q8e (key:Nat) (vals:List Value) (rs:List VResult) (K:SV→St→Prop):Exit→St→Prop:=fun e s =>
 let fin:=match GK s rs,Qc s.own key with
  |some r,.stk l vs=>vs=vals∧K r ⟨l,s.own,s.nx⟩
  |_,_=>False
 match e with
 |.normal=>fin
 |.ret=>fin
 |_=>False
def Q8k (C:Cx) (L:List Value→List (Nat×LoopAnn)) (vc:VCode) (rs:List VResult) (nt:Nat):XSp:=fun d args s K =>
 ∀ vals,gwp {C with off:=100000*(d+1)} (L vals) vc 0 (Q8e (100000*(d+1)-1) vals rs K) ⟨SVs.kill (100000*(d+1)-1) args++List.replicate (nt-args.length) .any,(Cl (100000*(d+1)-1) vals s).own,s.nx⟩
section
variable {P:Program}
theorem FB {B:Heap}{pl:Nat→Value}{tb:Nat→Option Bool}:∀ n,SRs P B pl tb (List.replicate n .any) (List.replicate n undef)
 |0=>by simp[SRs]
 |n+1=>by simp only[List.replicate_succ,SRs];exact⟨_,_,rfl,by simp[SR],FB n⟩
theorem FK {f:Nat}{vc:VCode}{rs:List VResult}{nt:Nat}(h:Fun P f vc rs nt) (hm:P.follows .mixedOrders=true) {C:Cx}(az:COk P C) (L:List Value→List (Nat×LoopAnn)):XOk P f (Q8k C L vc rs nt):=by
 intro B F pl tb s env σ d args vs K R hG ha hx hK;have hx:=hx env;refine h.calls hm C9 ?_;have q3:Gam P B F (JN pl (100000*(d+1)-1) poison) tb (Cl (100000*(d+1)-1) env s) env σ:=by refine hG.make _ _ poison hG.le (fun _ _ _ _ _=>rfl) ?_ (fun i hl _=>by cases hl);exact SRs.upd (.refl _) (fun _ _ h=>h) (fun j hj=>by simp[JN,hj]) _ _ hG.env
 have pT:COk P {C with off:=100000*(d+1)}:=⟨az.cs,az.xs,az.it,az.yl,az.iy,az.xf⟩;have ax:=SRs.upd (P:=P) (Heap.Le.refl B) (fun _ _ h=>h) (pl':=JN pl (100000*(d+1)-1) poison) (tb':=tb) (o:=100000*(d+1)-1) (fun j hj=>by simp[JN,hj]) _ _ ha;have bA:GRel P B F σ ⟨SVs.kill (100000*(d+1)-1) args++List.replicate (nt-args.length) .any,(Cl (100000*(d+1)-1) env s).own,s.nx⟩ (vs++List.replicate (nt-vs.length) undef) σ:=by refine⟨B,F,_,tb,.of hG.bf (.refl _),⟨q3.bf,q3.le,?_,q3.obj,q3.fresh,q3.sep,q3.free⟩⟩;rw[ha.length];exact ax.append (FB _)
 refine Cf pT vc 0 _ _ _ σ none _ trivial bA hx fun e s' ae σ' h1 h2=>?_
 ·have main:(match GK s' rs,Qc s'.own (100000*(d+1)-1) with
   |some r,.stk l vs=>vs=env∧K r ⟨l,s'.own,s'.nx⟩
   |_,_=>False)→Z5 (Xk ae σ' rs) fun v=>∃ v' aJ,DropTo σ v σ' v' aJ∧R v' aJ:=fun h=>by
   obtain⟨B',F',pl',tb',k1,k2⟩:=h2;split at h
   ·rename_i r l cK hr kP;obtain⟨rfl,h⟩:=h;obtain⟨u,h3,h4⟩:=Md k2 hr;rw[h3];have ak:=k2.obj (100000*(d+1)-1);rw[kP] at ak;exact⟨u,σ',.refl _ _ _,hK r _ B' F' pl' tb' u σ' h k1 ⟨k2.bf,k2.le,ak,k2.obj,k2.fresh,k2.sep,k2.free⟩ h4⟩
   ·exact h.elim
  cases e with
  |normal=>exact main h1
  |ret=>exact main h1
  |_=>exact h1.elim
end
end Go.V
namespace Go.V
open Go
abbrev lI {α:Type}(l:List α):Int:=(l.length:Int)
abbrev gD {α:Type}(l:List α) (i:Int) (d:α):α:=l.getD i.toNat d
abbrev sT {α:Type}(l:List α) (i:Int) (x:α):List α:=l.set i.toNat x
abbrev I64 (x:Int):Prop:=InK .i64 x
theorem QN (x:Int):InK .i64 x↔-9223372036854775808≤x∧x≤9223372036854775807:=by simp[InK,IntKind.min,IntKind.max,IntKind.bits,IntKind.signed]
theorem UJ (x:Int):InK .u8 x↔0≤x∧x≤255:=by simp[InK,IntKind.min,IntKind.max,IntKind.bits,IntKind.signed]
theorem IX (x:Int):InK .u16 x↔0≤x∧x≤65535:=by simp[InK,IntKind.min,IntKind.max,IntKind.bits,IntKind.signed]
theorem T3 (x:Int):InK .u64 x↔0≤x∧x≤18446744073709551615:=by simp[InK,IntKind.min,IntKind.max,IntKind.bits,IntKind.signed]
theorem LoopP.count {F:Int→(Int→Prop)→Prop}(n:Nat) (J:Nat→Prop) (h0:J 0) (hr:∀ k:Nat,k≤n→J k→∀ q:Int→Prop,(k<n→J (k+1)→q ((k:Int)+1))→F k q):LoopP F 0:=by refine⟨fun d=>∃ k:Nat,d=k∧k≤n∧J k,fun d=>n-d.toNat,⟨0,rfl,Nat.zero_le _,h0⟩,fun d ⟨k,hd,hk,hJ⟩=>?_⟩;subst hd;refine hr k hk hJ _ fun ah pU=>⟨⟨k+1,by simp,ah,pU⟩,?_⟩;simp;omega
theorem LoopP.count2 {X:Type}{F:X×Int→(X×Int→Prop)→Prop}(n:Nat) (J:Nat→X→Prop) {x0:X}(h0:J 0 x0) (hr:∀ (k:Nat) (x:X),k≤n→J k x→∀ q:X×Int→Prop,(∀ x',k<n→J (k+1) x'→q (x',(k:Int)+1))→F (x,(k:Int)) q):LoopP F (x0,0):=by refine⟨fun d=>∃ k:Nat,d.2=k∧k≤n∧J k d.1,fun d=>n-d.2.toNat,⟨0,rfl,Nat.zero_le _,h0⟩,fun ⟨x,d⟩ ⟨k,hd,hk,hJ⟩=>?_⟩;simp only at hd hJ;subst hd;refine hr k x hk hJ _ fun x' ah pU=>⟨⟨k+1,by simp,ah,pU⟩,?_⟩;simp;omega
theorem Q5 {α:Type}{l:List α}{k:Nat}{d:α}(h:k<l.length):l.getD k d=l[k]:=by simp[List.getD_eq_getElem?_getD,List.getElem?_eq_getElem h]
theorem Zq {α:Type}{l:List α}{k:Nat}(h:k<l.length):l.take (k+1)=l.take k++[l[k]]:=by rw[List.take_succ_eq_append_getElem h]
end Go.V
namespace Go.V
open Go
section
variable {P:Program}
theorem st1 {S:VSpecs}{d:Nat}{op:VOp}{rest:List VOper}{env:Env}{σ:Heap}{K:Env→Heap→Prop}{v:Value}(hv:∀ K',vop S op env σ K'=Z5 (Q4 op (Q2 env) σ) fun p=>K' p.1 p.2) (h:Q4 op (Q2 env) σ=some (v,σ)) (hr:PJ S rest (env.set d v) σ K):PJ S (⟨some d,op,none⟩::rest) env σ K:=by show Z5 (some true) _;refine⟨fun _=>?_,fun e=>by cases e⟩;rw[hv,h];exact hr
theorem YlOk.nil:∀ o y,Qu ([]:List (Nat×YSp)) o=some y→Oy P o y:=fun o y h=>by cases h
theorem IysOk.nil:∀ f x,Qu ([]:List (Nat×Q35)) f=some x→Q33 P f x:=fun f x h=>by cases h
theorem IysOk.cons {f:Nat}{x:Q35}{l:List (Nat×Q35)}(h:Q33 P f x) (t:∀ g y,Qu l g=some y→Q33 P g y):∀ g y,Qu ((f,x)::l) g=some y→Q33 P g y:=fun g y hg=>by
 simp only[Qu] at hg;cases hb:Nat.beq f g with
 |true=>rw[hb] at hg;obtain rfl:=Nat.eq_of_beq_eq_true hb;obtain rfl:=osj hg;exact h
 |false=>rw[hb] at hg;exact t g y hg
theorem XsOk.nil:∀ f x,Qu ([]:List (Nat×XSp)) f=some x→XOk P f x:=fun f x h=>by cases h
theorem XsOk.cons {f:Nat}{x:XSp}{l:List (Nat×XSp)}(h:XOk P f x) (t:∀ g y,Qu l g=some y→XOk P g y):∀ g y,Qu ((f,x)::l) g=some y→XOk P g y:=fun g y hg=>by
 simp only[Qu] at hg;cases hb:Nat.beq f g with
 |true=>rw[hb] at hg;obtain rfl:=Nat.eq_of_beq_eq_true hb;obtain rfl:=osj hg;exact h
 |false=>rw[hb] at hg;exact t g y hg
theorem ItsOk.nil:∀ f x,Qu ([]:List (Nat×ISp)) f=some x→Q30 P f x:=fun f x h=>by cases h
theorem ItsOk.cons {f:Nat}{x:ISp}{l:List (Nat×ISp)}(h:Q30 P f x) (t:∀ g y,Qu l g=some y→Q30 P g y):∀ g y,Qu ((f,x)::l) g=some y→Q30 P g y:=fun g y hg=>by
 simp only[Qu] at hg;cases hb:Nat.beq f g with
 |true=>rw[hb] at hg;obtain rfl:=Nat.eq_of_beq_eq_true hb;obtain rfl:=osj hg;exact h
 |false=>rw[hb] at hg;exact t g y hg
end
end Go.V
namespace Go.V
open Go
section
variable {P:Program}
theorem XfOk.nil {xs:List (Nat×XSp)}:∀ f j,Qu ([]:List (Nat×Nat)) f=some j→∀ x,Qu xs f=some x→Q46 P f x j:=fun f j h=>by cases h
theorem XfOk.cons {xs:List (Nat×XSp)}{g k:Nat}{y:XSp}{l:List (Nat×Nat)}(hy:Qu xs g=some y) (h:Q46 P g y k) (t:∀ f j,Qu l f=some j→∀ x,Qu xs f=some x→Q46 P f x j):∀ f j,Qu ((g,k)::l) f=some j→∀ x,Qu xs f=some x→Q46 P f x j:=fun f j hf x hx=>by
 simp only[Qu] at hf;cases hb:Nat.beq g f with
 |true =>rw[hb] at hf;obtain rfl:=Nat.eq_of_beq_eq_true hb;obtain rfl:=osj hf;obtain rfl:=osj (hy.symm.trans hx);exact h
 |false=>rw[hb] at hf;exact t f j hf x hx
end
end Go.V
namespace Go.V
open Go
def callV (ap:Ap) (sp:CSp):XSp:=fun d args s K =>
 let s1:=(⟨s.env++args,s.own,s.nx⟩:St).frzs (Dv args);let a1:=s1.env.drop s.env.length
 bif SVs.pure a1 then (match sp ap a1 with
  |some (c,v,bs)=>bif v.ret bs.length&&bs.all OB.isL then c∧K (v.ren d 500000) ((⟨s1.env.take s.env.length,s1.own,s1.nx⟩:St).makes d 500000 0 bs) else False
  |none=>False) else False
section
variable {P:Program}
theorem SRs.split {B:Heap}{pl:Nat→Value}{tb:Nat→Option Bool}:∀ {a:List SV}{u v:List Value},SRs P B pl tb a (u++v)→SRs P B pl tb (a.take u.length) u∧SRs P B pl tb (a.drop u.length) v
 |a,[],v,h=>⟨by simp[SRs],by simpa using h⟩
 |[],x::u,v,h=>by simp only[SRs] at h;cases h
 |s::a,x::u,v,h=>by simp only[SRs,List.cons_append] at h;obtain⟨y,ys,e,h1,h2⟩:=h;obtain⟨rfl,rfl⟩:=List.cons.inj e;obtain⟨h3,h4⟩:=SRs.split h2;simp only[List.length_cons,List.take_succ_cons,List.drop_succ_cons,SRs];exact⟨⟨_,_,rfl,h1,h3⟩,h4⟩
end
end Go.V
namespace Go.V
open Go
theorem FE (x:Nat):BitVec.ofInt 64 (x:Int)=BitVec.ofNat 64 x:=by apply BitVec.eq_of_toNat_eq;simp
end Go.V
set_option linter.unusedVariables false
namespace Go.Proofs.Tryz
open Go Go.V Go.Proofs
abbrev q4 {A B C D E:Type}(x:A×B×C×D×E):E:=x.2.2.2.2
def inI (n a b:Int):Bool:=decide (a≤n)&&decide (n≤b)
def Oa (l:List Int) (p:Int→Bool):Int:=match l.findIdx? p with|some i=>(i:Int)|none=>-1
def Sg {α:Type}(l:List α) (p:α→Bool):Int:=match l.findIdx? p with|some i=>(i:Int)|none=>-1
def u8s (l:List Int):Prop:=∀ x∈l,0≤x∧x≤255
theorem HV {α:Type}{l:List α}{p:α→Bool}{k:Nat}(hk:k<l.length) (h:p l[k]=true) (hJ:(l.take k).any p=false):Sg l p=k:=by
 have:l.findIdx? p=some k:=by rw[List.findIdx?_eq_some_iff_getElem];refine⟨hk,h,fun j hj=>?_⟩;have hn:=List.any_eq_false.1 hJ l[j] (List.mem_take_iff_getElem.2 ⟨j,by omega,rfl⟩);simpa using hn
 simp[Sg,this]
theorem D7 {α:Type}{l:List α}{p:α→Bool}(hJ:l.any p=false):Sg l p=-1:=by
 have:l.findIdx? p=none:=by rw[List.findIdx?_eq_none_iff];intro x hx;have:=List.any_eq_false.1 hJ x hx;simpa using this
 simp[Sg,this]
theorem SE {α:Type}(l:List α) (p:α→Bool):(decide (Sg l p≥0))=l.any p:=by
 cases h:l.any p with
 |false=>rw[D7 h];rfl
 |true =>
  have:(l.findIdx? p).isSome=true:=by rw[List.findIdx?_isSome,h]
  obtain⟨i,hi⟩:=Option.isSome_iff_exists.1 this;have e:Sg l p=(i:Int):=by simp[Sg,hi]
  rw[e];exact decide_eq_true (Int.natCast_nonneg i)
def rowAt (rows:List Int) (p:Int):Nat:=(rows.getD (p.toNat % rows.length) 0).toNat
abbrev Sp:=Int×Int
abbrev En:=Int×Int
def JM (s:Int) (x:En):Sp:=(GY 0 (x.2-s),x.2+s)
def EF (a b:Sp):Sp:=(GY a.1 b.1,Lj a.2 b.2)
def Q6k:Sp:=(0,1099511627776)
def Z1 (s:Int) (p:Sp) (x:En):Sp:=if x.1=1 then EF Q6k (p.1-(JM s x).2,p.2-(JM s x).1) else if x.1=2 then (p.1+(JM s x).1,p.2+(JM s x).2) else EF p (JM s x)
def stB (g s:Int) (l:List En) (k:Nat):Sp:=(l.take k).foldl (Z1 s) (g,g)
def Q1e (g s:Int) (l:List En) (k:Nat):Bool:=decide ((stB g s l (k+1)).1 > (stB g s l (k+1)).2)
def Q4r (g s:Int) (l:List En):Option Nat:=(List.range l.length).find? (Q1e g s l)
def VD (g s:Int) (l:List En):Int:=match Q4r g s l with|some k=>(k:Int)|none=>-1
def Zl (g s:Int) (l:List En):List Sp:=(List.range (match Q4r g s l with|some k=>k+1|none=>l.length+1)).map (stB g s l)
def Q6t (x:En):Prop:=1≤x.1∧x.1≤3∧0≤x.2∧x.2≤12000000
def YR (g s:Int) (l:List En):Prop:=1≤g∧g≤1000000∧0≤s∧s≤1000∧l.length≤40∧∀ x∈l,Q6t x
def Xj (g s:Int) (l:List En):Int:=if !inI g 1 1000000||!inI s 0 1000 then 2 else if 40<l.length then 5 else if l.any (fun x=>!inI x.1 1 3||!inI x.2 0 12000000) then 2 else 0
def Qo (g s:Int) (l:List En):Int:=if Xj g s l≠0 then Xj g s l else if VD g s l≥0 then 90 else 0
def Zp (g s:Int) (l:List En):Int:=if Xj g s l=0∧VD g s l≥0 then VD g s l else 0
def Qh (g s:Int) (l:List En):Sp:=if Qo g s l=0 then stB g s l l.length else (0,0)
theorem nIb (n a b:Int):(!inI n a b)=(decide (n<a)||decide (b<n)):=by simp only[inI,Bool.not_and];by_cases h1:a≤n<;>by_cases h2:n≤b<;>simp[h1,h2]<;>omega
theorem W8 (a b:Int):GY a b=max a b:=by unfold GY;split<;>omega
theorem G6 (a b:Int):Lj a b=min a b:=by unfold Lj;split<;>omega
theorem AM (g s:Int) (l:List En):stB g s l 0=(g,g):=rfl
theorem He {g s:Int}{l:List En}{k:Nat}(h:k<l.length):stB g s l (k+1)=Z1 s (stB g s l k) l[k]:=by unfold stB;rw[Zq h,List.foldl_append];rfl
def Sub (a b:Sp):Prop:=b.1≤a.1∧a.2≤b.2
def Ne (a:Sp):Prop:=a.1≤a.2
theorem IY {s:Int}{p:Sp}{x:En}{B:Int}(hs:0≤s∧s≤1000) (hx:Q6t x) (hp:0≤p.1∧p.1≤B∧-100000000≤p.2∧p.2≤B):0≤(Z1 s p x).1∧(Z1 s p x).1≤B+12001000∧-100000000≤(Z1 s p x).2+12001000∧(Z1 s p x).2≤B+12001000:=by
 obtain⟨h1,h2,h3,h4⟩:=hx;unfold Z1 EF JM Q6k;simp only[W8,G6];split
 ·dsimp only;omega
 ·split
  ·dsimp only;omega
  ·dsimp only;omega
theorem Sub.refl (a:Sp):Sub a a:=⟨Int.le_refl _,Int.le_refl _⟩
theorem DQ {g s:Int}{l:List En}:VD g s l<0↔∀ k,k<l.length→Ne (stB g s l (k+1)):=by
 unfold VD Q4r;cases h:(List.range l.length).find? (Q1e g s l) with
 |none =>rw[List.find?_eq_none] at h;refine⟨fun _ k hk=>?_,fun _=>by simp⟩;have:=h k (List.mem_range.2 hk);simp only[Q1e,decide_eq_true_eq] at this;unfold Ne;omega
 |some k =>rw[List.find?_eq_some_iff_getElem] at h;obtain⟨h1,i,hi,hk,h2⟩:=h;simp only[List.length_range] at hi;simp only[List.getElem_range] at hk;subst hk;refine⟨fun h=>by simp at h;omega,fun h=>?_⟩;have:=h i hi;simp only[Q1e,decide_eq_true_eq] at h1;unfold Ne at this;omega
theorem CS {g s:Int}{l:List En}(h:Xj g s l=0):YR g s l:=by
 unfold Xj at h;split at h
 ·cases h
 ·rename_i h1;split at h
  ·cases h
  ·rename_i h2;split at h
   ·cases h
   ·rename_i h3;simp only[Bool.or_eq_true,Bool.not_eq_true',inI,Bool.and_eq_false_iff,decide_eq_false_iff_not] at h1;refine⟨by omega,by omega,by omega,by omega,by omega,fun x hx=>?_⟩;have:=List.any_eq_false.1 (Bool.eq_false_iff.2 h3) x hx;simp only[Bool.or_eq_true,Bool.not_eq_true',inI,Bool.and_eq_false_iff,decide_eq_false_iff_not] at this;unfold Q6t;omega
theorem I1 {g s:Int}{l:List En}(h:YR g s l):Xj g s l=0:=by
 obtain⟨h1,h2,h3,h4,h5,h6⟩:=h;unfold Xj;rw[if_neg,if_neg (by omega),if_neg]
 ·rw[Bool.not_eq_true,List.any_eq_false];intro x hx;obtain⟨a,b,c,d⟩:=h6 x hx;simp only[Bool.or_eq_true,Bool.not_eq_true',inI,Bool.and_eq_false_iff,decide_eq_false_iff_not];omega
 ·simp only[Bool.or_eq_true,Bool.not_eq_true',inI,Bool.and_eq_false_iff,decide_eq_false_iff_not];omega
theorem I4 {g s:Int}{l:List En}(h:YR g s l):∀ k,k≤l.length→(∀ j,j<k→j+1<k→Ne (stB g s l (j+1)))→0≤(stB g s l k).1∧(stB g s l k).1≤1000000+12001000*k∧-100000000≤(stB g s l k).2∧(stB g s l k).2≤1000000+12001000*k
 |0,_,_=>by obtain⟨h1,h2,_⟩:=h;simp only[AM];omega
 |k+1,hk,hn=>by
  have ih:=I4 h k (by omega) fun j h1 h2=>hn j (by omega) (by omega);obtain⟨h1,h2,h3,h4,h5,h6⟩:=h;have hx:=h6 _ (List.getElem_mem (show k<l.length by omega));have h0:0≤(stB g s l k).2:=by
   cases k with
   |zero=>simp only[AM];omega
   |succ j=>have:=hn j (by omega) (by omega);unfold Ne at this;omega
  have:=IY (B:=1000000+12001000*k) (p:=stB g s l k) ⟨h3,h4⟩ hx (by omega);rw[He (by omega)];have e:(12001000*((k+1:Nat):Int))=12001000*k+12001000:=by omega
  rw[e];refine⟨this.1,by omega,?_,by omega⟩;obtain⟨a,b,c,d⟩:=hx;unfold Z1 EF JM Q6k;simp only[W8,G6];split
  ·dsimp only;omega
  ·split
   ·dsimp only;omega
   ·dsimp only;omega
def InB (p:Sp) (v:Int):Prop:=p.1≤v∧v≤p.2
def stepT (v:Int) (x:En) (t:Int):Int:=if x.1=1 then v-t else if x.1=2 then v+t else v
def okT (s v:Int) (x:En) (t:Int):Prop:=InB (JM s x) t∧(x.1=1→t≤v)∧(x.1≠1→x.1≠2→t=v)
def vT (g:Int) (l:List En) (w:List Int):Nat→Int
 |0=>g
 |k+1=>stepT (vT g l w k) (l.getD k (0,0)) (w.getD k 0)
structure Truth (g s:Int) (l:List En) (w:List Int):Prop where
 wl:w.length=l.length
 v0:∀ k,k≤l.length→0≤vT g l w k∧vT g l w k≤1000000000
 ok:∀ k,k<l.length→okT s (vT g l w k) (l.getD k (0,0)) (w.getD k 0)
theorem Q0d {s v t:Int}{p:Sp}{x:En}(hv:InB p v) (h0:0≤stepT v x t∧stepT v x t≤1000000000) (ht:okT s v x t):InB (Z1 s p x) (stepT v x t):=by
 obtain⟨h1,h2,h3⟩:=ht;unfold InB at *
 unfold stepT Z1 EF Q6k at *
 unfold JM at *
 simp only[W8,G6] at *
 split
 ·rename_i hx;have:=h2 hx;rw[if_pos hx] at h0;dsimp only at *;omega
 ·rename_i hx;rw[if_neg hx] at h0;split
  ·rename_i hy;rw[if_pos hy] at h0;dsimp only at *;omega
  ·rename_i hy;have:=h3 hx hy;dsimp only at *;omega
theorem RW {g s:Int}{l:List En}{w:List Int}(h:Truth g s l w):∀ k,k≤l.length→InB (stB g s l k) (vT g l w k)
 |0,_=>⟨Int.le_refl _,Int.le_refl _⟩
 |k+1,hk=>by have ah:k<l.length:=hk;rw[He ah,←Q5 (d:=((0,0):En)) ah];exact Q0d (RW h k (by omega)) (h.v0 (k+1) hk) (h.ok k ah)
theorem Cr {g s:Int}{l:List En}{w:List Int}(h:Truth g s l w):VD g s l<0:=by rw[DQ];intro k hk;have:=RW h (k+1) (by omega);unfold InB at this;unfold Ne;omega
theorem Ow {g:Int}{l:List En}{w:List Int}(T:Nat→Int) (h0:T 0=g) (hs:∀ k,k<l.length→T (k+1)=stepT (T k) (l.getD k (0,0)) (w.getD k 0)):∀ k,k≤l.length→vT g l w k=T k
 |0,_=>h0.symm
 |k+1,hk=>by have:=Ow T h0 hs k (by omega);unfold vT;rw[this,hs k hk]
theorem Oe {g s:Int}{l:List En}{w:List Int}(T:Nat→Int) (h0:T 0=g) (hl:w.length=l.length) (hs:∀ k,k<l.length→T (k+1)=stepT (T k) (l.getD k (0,0)) (w.getD k 0)) (hb:∀ k,k≤l.length→0≤T k∧T k≤1000000000) (ho:∀ k,k<l.length→okT s (T k) (l.getD k (0,0)) (w.getD k 0)):Truth g s l w where
 wl:=hl
 v0:=fun k hk=>by rw[Ow T h0 hs k hk];exact hb k hk
 ok:=fun k hk=>by rw[Ow T h0 hs k (by omega)];exact ho k hk
theorem ES {g s:Int}{l:List En}{w:List Int}(hb:YR g s l) (h:Truth g s l w):Qo g s l=0∧Qh g s l=stB g s l l.length∧InB (Qh g s l) (vT g l w l.length)∧0≤(Qh g s l).1:=by
 have hr:=Cr h;have he:Qo g s l=0:=by unfold Qo;rw[I1 hb,if_neg (by omega),if_neg (by omega)]
 have fa:Qh g s l=stB g s l l.length:=by unfold Qh;rw[if_pos he]
 refine⟨he,fa,by rw[fa];exact RW h _ (Nat.le_refl _),?_⟩;rw[fa];exact(I4 hb _ (Nat.le_refl _) fun j h1 h2=>DQ.1 hr j (by omega)).1
theorem E3 {g:Int}{l:List En}{w:List Int}(h:Truth g 0 l w):∀ k,k≤l.length→(∀ j,j<l.length→(l.getD j (0,0)).2=w.getD j 0)→(∀ j,j<l.length→0≤w.getD j 0)→stB g 0 l k=(vT g l w k,vT g l w k)
 |0,_,_,_=>rfl
 |k+1,hk,hw,h0=>by
  have ih:=E3 h k (by omega) hw h0;have ah:k<l.length:=hk;rw[He ah,ih,←Q5 (d:=((0,0):En)) ah];obtain⟨o1,o2,o3⟩:=h.ok k ah;have e:=hw k ah;have p:=h0 k ah;have v:=h.v0 k (by omega);have v':=h.v0 (k+1) hk;have ev:vT g l w (k+1)=stepT (vT g l w k) (l.getD k (0,0)) (w.getD k 0):=rfl;rw[ev] at v' ⊢;generalize vT g l w k=a at *
  generalize l.getD k (0,0)=x at *
  generalize w.getD k 0=t at *
  unfold stepT at v' ⊢;unfold Z1 EF JM Q6k;simp only[W8,G6];by_cases e1:x.1=1
  ·have:=o2 e1;rw[if_pos e1] at v' ⊢;rw[if_pos e1];simp only[Prod.mk.injEq];omega
  ·rw[if_neg e1] at v' ⊢;rw[if_neg e1];by_cases e2:x.1=2
   ·rw[if_pos e2] at v' ⊢;rw[if_pos e2];simp only[Prod.mk.injEq];omega
   ·have:=o3 e1 e2;rw[if_neg e2,if_neg e2];simp only[Prod.mk.injEq];omega
theorem AY {α β:Type}{f:α→Option β}:∀ {L:List α}{ys:List β},L.mapM f=some ys→ys.length=L.length∧∀ (i:Nat) (h:i<L.length) (h2:i<ys.length),f L[i]=some ys[i]
 |[],ys,h=>by simp at h;subst h;simp
 |a::L,ys,h=>by
  simp only[List.mapM_cons,Option.bind_eq_bind,Option.bind_eq_some_iff,Option.pure_def,Option.some.injEq] at h;obtain⟨y,hy,zs,hz,rfl⟩:=h;obtain⟨e1,e2⟩:=AY hz;refine⟨by simp[e1],fun i h1 h2=>?_⟩;cases i with
  |zero=>exact hy
  |succ i=>exact e2 i (by simpa using h1) (by simpa using h2)
theorem OD {H:Type}{enc:TypeId×Value→H}{P:Program}{w:World}{base:Nat}{sp:Nat→Bool}{held:Bool}{fuel:Nat}{t:TypeId}{k:IntKind}{c:Value}{y:DataW H×List MemPlace}
  (ht:P.underlying t=some (.int k)) (h:DataW.trod enc P w base sp held fuel t [c]=some y):∃ n,c=.int k n∧y=(.lit (.int k n),[]):=by
 cases fuel with
 |zero=>simp[DataW.trod] at h
 |succ fuel =>cases c<;>simp[DataW.trod,ht] at h;rename_i k' n;obtain⟨⟨rfl,_⟩,rfl⟩:=h;exact⟨n,rfl,rfl⟩
theorem Q02 {H:Type}{enc:TypeId×Value→H}{P:Program}{w:World}{base:Nat}{sp:Nat→Bool}{held:Bool}{fuel:Nat}{t e:TypeId}{k:IntKind}{n:Nat}{l:List Value}{xs:List Int}{p:List MemPlace}
  (ht:P.underlying t=some (.array n e)) (he:P.underlying e=some (.int k)) (h1:P.cellsOf e=1) (hc:P.cellsOf t=n) (h:DataW.trod enc P w base sp held fuel t l=some (.agg (xs.map fun x=>.lit (.int k x)),p)):l=xs.map fun x=>.int k x:=by
 cases fuel with
 |zero=>simp[DataW.trod] at h
 |succ fuel =>
  simp only[DataW.trod,ht,h1,hc,Nat.mul_one] at h;split at h
  ·rename_i hl;simp only[Option.map_eq_some_iff,Prod.mk.injEq,DataW.agg.injEq] at h;obtain⟨ys,hm,hx,_⟩:=h;obtain⟨e1,e2⟩:=AY hm;rw[List.length_range] at e1;have hlen:xs.length=ys.length:=by
    have:=congrArg List.length hx;simpa using this.symm
   refine List.ext_getElem (by rw[List.length_map];omega) fun i k1 k2=>?_;have hy:=e2 i (by rw[List.length_range];omega) (by omega);rw[List.getElem_range,List.drop_eq_getElem_cons k1] at hy;simp only[List.take_succ_cons,List.take_zero] at hy;obtain⟨m,ic,gf⟩:=OD he hy;rw[ic,List.getElem_map];have pV:(ys.map (·.1))[i]'(by rw[List.length_map];omega)=(xs.map fun x=>(DataW.lit (Lit.int k x):DataW H))[i]'(by rw[List.length_map];omega):=by
    simp only[hx]
   rw[List.getElem_map,List.getElem_map,gf] at pV;simp only[DataW.lit.injEq,Lit.int.injEq,true_and] at pV;rw[pV]
  ·cases h
theorem tab_heap {P:Program}{nm:String}{g G:Nat}{t e:TypeId}{k:IntKind}{n fuel:Nat}{cs:Array Value}{xs:List Int}{p:List MemPlace}{W:World}(hv:W.var? P nm=some cs) (hG:P.globalNamed nm=some G) (hg:P.globalNamed nm=some g) {T:TypeId}(hT:(P.globals[G]?).map (·.type)=some T) (lQ:(P.globals[g]?).map (·.type)=some t)
  (ht:P.underlying T=some (.array n e)) (he:P.underlying e=some (.int k)) (h1:P.cellsOf e=1) (hc:P.cellsOf T=n) (hd:DataW.trod (fun _=>()) P W 0 (fun _=>true) false fuel t cs.toList=some (.agg (xs.map fun x=>.lit (.int k x)),p)):∃ e f,W.heap[G]?=some (.cells (xs.map fun x=>Value.int k x).toArray e f):=by
 obtain rfl:=osj (hG.symm.trans hg);obtain rfl:=osj (hT.symm.trans lQ);have hl:=Q02 ht he h1 hc hd;unfold World.var? at hv;rw[hG] at hv;simp only[Option.bind_some] at hv;split at hv
 ·rename_i cs' a b hh;obtain rfl:=osj hv;refine⟨a,b,?_⟩;rw[hh,←hl]
 ·cases hv
end Go.Proofs.Tryz
set_option linter.unusedVariables false
namespace Go.Proofs.Tryz
open Go Go.V Go.Proofs
def Vm:AL (Int×Int×Int):=(.cons (.k (.i .i64)) (.cons (.ptr (.one (.k (.i .i64)))) (.one (.ptr (.one (.k (.i .i64)))))))
def Gv (d:Int×Int×Int):Prop:=True
def KB (d:Int×Int×Int):SV:=.val .bo (decide (d.1<d.2.1)||decide (d.2.2<d.1))
def Kp (d:Int×Int×Int):List OB:=[]
def WJ:CSp:=XE Vm Gv KB Kp
def Wj (n:Int) (a:Int) (b:Int):Prop :=
 (((decide (n<a))||(decide (n > b)))=(decide (n<a)||decide (b<n))∧(True))
def Vp:Cx:=⟨[],[],13,[],0,[],[],[],[],false,[],[],[],[]⟩
def DI (n:Int) (a:Int) (b:Int):List (Nat×LoopAnn):=[]
set_option maxRecDepth 100000 in
theorem B3 (d:Int×Int×Int):gwp (Vp) (DI d.1 d.2.1 d.2.2) c74 0 (WI [.tmp 4] (KB d) (Kp d)) (Qs 13 (AL.can Vm d))=Wj d.1 d.2.1 d.2.2:=by kernel_rfl
abbrev Dq:Prop:=OkC Tryz.prog 74 WJ
theorem DC (h:∀ (n:Int) (a:Int) (b:Int),(True)→Wj n a b):OkC Tryz.prog 74 WJ :=
 QA Q4a mixed (C:=Vp) (V:=fun (d:Int×Int×Int)=>Wj d.1 d.2.1 d.2.2) ⟨.nil,XsOk.nil,ItsOk.nil,YlOk.nil,IysOk.nil,XfOk.nil⟩ (B3) fun d hp=>h d.1 d.2.1 d.2.2 hp
theorem Dk:Dq:=DC fun n a b _=>by exact⟨rfl,trivial⟩
def JT:AL (List Int×((Int→Prop)×(Int→Bool))):=(.cons (.k (.list (.i .i64))) (.one (.fn [(.i .i64)] .bo)))
def Ye (d:List Int×((Int→Prop)×(Int→Bool))):Prop:=d.1.length≤1000000∧∀ x∈d.1,d.2.1 x
def JH (d:List Int×((Int→Prop)×(Int→Bool))):SV:=.val (.i .i64) (Oa d.1 d.2.2)
def JK (d:List Int×((Int→Prop)×(Int→Bool))):List OB:=[]
def ZL:CSp:=XE JT Ye JH JK
def Z6 (l:List Int) (p:(Int→Prop)×(Int→Bool)):Prop :=
 ∃ (e2:Unit) (d20:Int),((l=l∧(SV.pf [(.i .i64)] .bo p.1 p.2=SV.pf [(.i .i64)] .bo p.1 p.2)∧(lI l)=(lI l)∧(0:Int)=d20∧True)∧(True)) ∧
 LoopP (fun (d2:Int) (q2:(Int)→Prop) =>
  ((decide (d2<(lI l)))=true →
   (0≤d2)∧(d2<(List.length l))∧(p.1 (gD l d2 0))∧((p.2 (gD l d2 0))=true →
    (d2=(Oa l p.2)∧(True))) ∧
   ((p.2 (gD l d2 0))=false →
    (I64 (d2+(1:Int)))∧(∃ d3:Int,((l=l∧(SV.pf [(.i .i64)] .bo p.1 p.2=SV.pf [(.i .i64)] .bo p.1 p.2)∧(lI l)=(lI l)∧(d2+(1:Int))=d3∧True)∧(True))∧q2 d3))) ∧
  ((decide (d2<(lI l)))=false →
   ((-1:Int)=(Oa l p.2)∧(True)))) d20
def JX:Cx:=⟨[],[],19,[],0,[],[],[],[],false,[],[],[],[]⟩
def YM (l:List Int) (p:(Int→Prop)×(Int→Bool)):List (Nat×LoopAnn):=[(0,⟨Unit,Int,[0,1,7,8],fun e x=>[.val (.list (.i .i64)) l,.pf [(.i .i64)] .bo p.1 p.2,.val (.i .i64) (((List.length l):Nat):Int),.val (.i .i64) x],fun e x=>[]⟩)]
set_option maxRecDepth 100000 in
theorem YI (d:List Int×((Int→Prop)×(Int→Bool))):gwp (JX) (YM d.1 d.2) c89 0 (WI [.tmp 4] (JH d) (JK d)) (Qs 19 (AL.can JT d))=Z6 d.1 d.2:=by kernel_rfl
abbrev K1:Prop:=OkC Tryz.prog 89 ZL
theorem YT (h:∀ (l:List Int) (p:(Int→Prop)×(Int→Bool)),(l.length≤1000000∧∀ x∈l,p.1 x)→Z6 l p):OkC Tryz.prog 89 ZL :=
 QA Q5l mixed (C:=JX) (V:=fun (d:List Int×((Int→Prop)×(Int→Bool)))=>Z6 d.1 d.2) ⟨.nil,XsOk.nil,ItsOk.nil,YlOk.nil,IysOk.nil,XfOk.nil⟩ (YI) fun d hp=>h d.1 d.2 hp
theorem IQ {l:List Int}{p:Int→Bool}{k:Nat}(hk:k<l.length) (h:p l[k]=true) (hJ:(l.take k).any p=false):Oa l p=k:=by
 have:l.findIdx? p=some k:=by rw[List.findIdx?_eq_some_iff_getElem];refine⟨hk,h,fun j hj=>?_⟩;have hn:=List.any_eq_false.1 hJ l[j] (List.mem_take_iff_getElem.2 ⟨j,by omega,rfl⟩);simpa using hn
 simp[Oa,this]
theorem I3 {l:List Int}{p:Int→Bool}(hJ:l.any p=false):Oa l p=-1:=by
 have:l.findIdx? p=none:=by rw[List.findIdx?_eq_none_iff];intro x hx;have:=List.any_eq_false.1 hJ x hx;simpa using this
 simp[Oa,this]
theorem Cn (l:List Int) (p:Int→Bool):decide (Oa l p≥0)=l.any p:=by
 unfold Oa;cases h:l.findIdx? p with
 |none =>
  have:=List.findIdx?_eq_none_iff.1 h;have:l.any p=false:=by rw[List.any_eq_false];intro x hx;simp[this x hx]
  rw[this];rfl
 |some i =>obtain⟨h1,h2,_⟩:=List.findIdx?_eq_some_iff_getElem.1 h;rw[List.any_eq_true.2 ⟨l[i],List.getElem_mem h1,h2⟩];simp
theorem YU:K1:=YT fun l p hp=>by
 unfold Z6;(try delta lI gD sT I64);simp only[true_and,and_true,exists_eq_left',exists_const,decide_eq_true_eq,decide_eq_false_iff_not];refine LoopP.count l.length (fun k=>(l.take k).any p.2=false) (by simp) fun k aV hJ q hq=>?_;simp only[Int.toNat_natCast,Int.ofNat_lt,QN];refine⟨fun ah=>?_,fun a_=>?_⟩
 ·rw[Q5 ah];refine⟨by omega,ah,hp.2 _ (List.getElem_mem ah),fun hx=>?_,fun hx=>⟨by omega,hq ah ?_⟩⟩
  ·rw[IQ ah hx hJ]
  ·rw[Zq ah,List.any_append,hJ];simp[hx]
 ·rw[List.take_of_length_le (by omega)] at hJ;rw[I3 hJ]
def Jq:AL (List Int×((Int→Prop)×(Int→Bool))):=(.cons (.k (.list (.i .i64))) (.one (.fn [(.i .i64)] .bo)))
def Wf (d:List Int×((Int→Prop)×(Int→Bool))):Prop:=d.1.length≤1000000∧∀ x∈d.1,d.2.1 x
def J8 (d:List Int×((Int→Prop)×(Int→Bool))):SV:=.val .bo (d.1.any d.2.2)
def Jg (d:List Int×((Int→Prop)×(Int→Bool))):List OB:=[]
def QU:CSp:=XE Jq Wf J8 Jg
def Zh (l:List Int) (p:(Int→Prop)×(Int→Bool)):Prop :=
 (l.length≤1000000∧∀ x∈l,(fun (x1:Int)=>p.1 x1) x)∧((decide ((Oa l (fun (x1:Int)=>(p.2 x1)))≥(0:Int)))=(l.any p.2)∧(True))
def Js:Cx:=⟨[],[(89,ZL)],9,[],0,[],[],[],[],false,[],[],[],[]⟩
def Wy (l:List Int) (p:(Int→Prop)×(Int→Bool)):List (Nat×LoopAnn):=[]
set_option maxRecDepth 100000 in
theorem WC (d:List Int×((Int→Prop)×(Int→Bool))):gwp (Js) (Wy d.1 d.2) c61 0 (WI [.tmp 4] (J8 d) (Jg d)) (Qs 9 (AL.can Jq d))=Zh d.1 d.2:=by kernel_rfl
abbrev Ws:Prop:=OkC Tryz.prog 61 QU
theorem Wx (h:∀ (l:List Int) (p:(Int→Prop)×(Int→Bool)),(l.length≤1000000∧∀ x∈l,p.1 x)→Zh l p):OkC Tryz.prog 61 QU :=
 QA Q4g mixed (C:=Js) (V:=fun (d:List Int×((Int→Prop)×(Int→Bool)))=>Zh d.1 d.2) ⟨(.cons YU .nil),XsOk.nil,ItsOk.nil,YlOk.nil,IysOk.nil,XfOk.nil⟩ (WC) fun d hp=>h d.1 d.2 hp
theorem Jt:Ws:=Wx fun l p hp=>by exact⟨hp,Cn l p.2,trivial⟩
def Na:AL (Int×Int×List Int):=(.cons (.k (.i .i64)) (.cons (.k (.i .i64)) (.one (.k (.list (.i .i64))))))
def BB (d:Int×Int×List Int):Prop:=d.2.2.length≤1000000
def VX (d:Int×Int×List Int):SV:=.val .bo (!(d.2.2.any fun n=>decide (n<d.1)||decide (d.2.1<n)))
def VV (d:Int×Int×List Int):List OB:=[]
def Zf:CSp:=XE Na BB VX VV
def Kg (a:Int) (b:Int) (l:List Int):Prop :=
 (l.length≤1000000∧∀ x∈l,(fun (x1:Int)=>True) x)∧((!(l.any (fun (x1:Int)=>(decide (x1<a)||decide (b<x1)))))=(!(l.any fun n=>decide (n<a)||decide (b<n)))∧(True))
def Us:Cx:=⟨[],[(61,QU),(74,WJ)],11,[],0,[],[],[],[],false,[],[],[],[]⟩
def PQ (a:Int) (b:Int) (l:List Int):List (Nat×LoopAnn):=[]
set_option maxRecDepth 100000 in
theorem PO (d:Int×Int×List Int):gwp (Us) (PQ d.1 d.2.1 d.2.2) c46 0 (WI [.tmp 6] (VX d) (VV d)) (Qs 11 (AL.can Na d))=Kg d.1 d.2.1 d.2.2:=by kernel_rfl
abbrev PD:Prop:=OkC Tryz.prog 46 Zf
theorem PC (h:∀ (a:Int) (b:Int) (l:List Int),(l.length≤1000000)→Kg a b l):OkC Tryz.prog 46 Zf :=
 QA Q4s mixed (C:=Us) (V:=fun (d:Int×Int×List Int)=>Kg d.1 d.2.1 d.2.2) ⟨(.cons Jt (.cons Dk .nil)),XsOk.nil,ItsOk.nil,YlOk.nil,IysOk.nil,XfOk.nil⟩ (PO) fun d hp=>h d.1 d.2.1 d.2.2 hp
theorem Zz:PD:=PC fun a b l h=>by exact⟨⟨h,fun _ _=>trivial⟩,rfl,trivial⟩
def Kn:AL (Int×Int):=(.one (.agg (.cons (.k (.i .i64)) (.one (.k (.i .i64))))))
def MD (d:Int×Int):Prop:=True
def YX (d:Int×Int):SV:=.val .bo (!inI d.1 1 3||!inI d.2 0 12000000)
def YH (d:Int×Int):List OB:=[]
def J_:CSp:=XE Kn MD YX YH
def JI (k:Int) (x:Int):Prop :=
 ([k].length≤1000000)∧((!(!([k].any fun n=>decide (n<(1:Int))||decide ((3:Int)<n))))=false→True)∧((!(!([k].any fun n=>decide (n<(1:Int))||decide ((3:Int)<n))))=false→[x].length≤1000000)∧(((!(!([k].any fun n=>decide (n<(1:Int))||decide ((3:Int)<n))))||(!(!([x].any fun n=>decide (n<(0:Int))||decide ((12000000:Int)<n)))))=(!inI k 1 3||!inI x 0 12000000)∧(True))
def Kx:Cx:=⟨[(3,(.i .i64))],[(46,Zf)],15,[],0,[],[],[],[],false,[],[],[],[]⟩
def GW (k:Int) (x:Int):List (Nat×LoopAnn):=[]
set_option maxRecDepth 100000 in
theorem Gr (d:Int×Int):gwp (Kx) (GW d.1 d.2) c52 0 (WI [.tmp 2] (YX d) (YH d)) (Qs 15 (AL.can Kn d))=JI d.1 d.2:=by kernel_rfl
abbrev D4:Prop:=OkC Tryz.prog 52 J_
theorem Gu (h:∀ (k:Int) (x:Int),(True)→JI k x):OkC Tryz.prog 52 J_ :=
 QA Q3h mixed (C:=Kx) (V:=fun (d:Int×Int)=>JI d.1 d.2) ⟨(.cons Zz .nil),XsOk.nil,ItsOk.nil,YlOk.nil,IysOk.nil,XfOk.nil⟩ (Gr) fun d hp=>h d.1 d.2 hp
theorem Kv:D4:=Gu fun k x _=>by unfold JI;(try delta lI gD sT I64);simp only[List.any_cons,List.any_nil,Bool.or_false,Bool.not_not,←nIb,List.length_cons,List.length_nil];refine⟨by omega,fun _=>trivial,fun _=>by omega,?_⟩;and_intros<;>first|rfl|trivial
def QL:AL ((List (Int×Int))×((Int×Int→Prop)×(Int×Int→Bool))):=(.cons (.k (.list (.pair (.i .i64) (.i .i64)))) (.one (.fn [(.pair (.i .i64) (.i .i64))] .bo)))
def ZD (d:(List (Int×Int))×((Int×Int→Prop)×(Int×Int→Bool))):Prop:=d.1.length≤1000000∧∀ x∈d.1,d.2.1 x
def QG (d:(List (Int×Int))×((Int×Int→Prop)×(Int×Int→Bool))):SV:=.val (.i .i64) (Sg d.1 d.2.2)
def QF (d:(List (Int×Int))×((Int×Int→Prop)×(Int×Int→Bool))):List OB:=[]
def Qj:CSp:=XE QL ZD QG QF
def Q8 (l:List (Int×Int)) (p:(Int×Int→Prop)×(Int×Int→Bool)):Prop :=
 ∃ (e2:Unit) (d20:Int),((l=l∧(SV.pf [(.pair (.i .i64) (.i .i64))] .bo p.1 p.2=SV.pf [(.pair (.i .i64) (.i .i64))] .bo p.1 p.2)∧(lI l)=(lI l)∧(0:Int)=d20∧True)∧(True)) ∧
 LoopP (fun (d2:Int) (q2:(Int)→Prop) =>
  ((decide (d2<(lI l)))=true →
   (0≤d2)∧(d2<(List.length l))∧(p.1 ((gD l d2 (0,0)).1,(gD l d2 (0,0)).2))∧((p.2 ((gD l d2 (0,0)).1,(gD l d2 (0,0)).2))=true →
    (d2=(Sg l p.2)∧(True))) ∧
   ((p.2 ((gD l d2 (0,0)).1,(gD l d2 (0,0)).2))=false →
    (I64 (d2+(1:Int)))∧(∃ d3:Int,((l=l∧(SV.pf [(.pair (.i .i64) (.i .i64))] .bo p.1 p.2=SV.pf [(.pair (.i .i64) (.i .i64))] .bo p.1 p.2)∧(lI l)=(lI l)∧(d2+(1:Int))=d3∧True)∧(True))∧q2 d3))) ∧
  ((decide (d2<(lI l)))=false →
   ((-1:Int)=(Sg l p.2)∧(True)))) d20
def QM:Cx:=⟨[],[],19,[],0,[],[],[],[],false,[],[],[],[]⟩
def ZF (l:List (Int×Int)) (p:(Int×Int→Prop)×(Int×Int→Bool)):List (Nat×LoopAnn):=[(0,⟨Unit,Int,[0,1,7,8],fun e x=>[.val (.list (.pair (.i .i64) (.i .i64))) l,.pf [(.pair (.i .i64) (.i .i64))] .bo p.1 p.2,.val (.i .i64) (((List.length l):Nat):Int),.val (.i .i64) x],fun e x=>[]⟩)]
set_option maxRecDepth 100000 in
theorem ZK (d:(List (Int×Int))×((Int×Int→Prop)×(Int×Int→Bool))):gwp (QM) (ZF d.1 d.2) c78 0 (WI [.tmp 4] (QG d) (QF d)) (Qs 19 (AL.can QL d))=Q8 d.1 d.2:=by kernel_rfl
abbrev ZM:Prop:=OkC Tryz.prog 78 Qj
theorem ZJ (h:∀ (l:List (Int×Int)) (p:(Int×Int→Prop)×(Int×Int→Bool)),(l.length≤1000000∧∀ x∈l,p.1 x)→Q8 l p):OkC Tryz.prog 78 Qj :=
 QA Q61 mixed (C:=QM) (V:=fun (d:(List (Int×Int))×((Int×Int→Prop)×(Int×Int→Bool)))=>Q8 d.1 d.2) ⟨.nil,XsOk.nil,ItsOk.nil,YlOk.nil,IysOk.nil,XfOk.nil⟩ (ZK) fun d hp=>h d.1 d.2 hp
theorem ZI:ZM:=ZJ fun l p hp=>by
 unfold Q8;(try delta lI gD sT I64);simp only[true_and,and_true,exists_eq_left',exists_const,decide_eq_true_eq,decide_eq_false_iff_not];refine LoopP.count l.length (fun k=>(l.take k).any p.2=false) (by simp) fun k aV hJ q hq=>?_;simp only[Int.toNat_natCast,Int.ofNat_lt,QN];refine⟨fun ah=>?_,fun a_=>?_⟩
 ·have ah:k<l.length:=by omega
  rw[Q5 ah];refine⟨by omega,by omega,hp.2 _ (List.getElem_mem ah),fun hx=>?_,fun hx=>⟨by omega,hq ah ?_⟩⟩
  ·rw[HV ah hx hJ]
  ·rw[Zq ah,List.any_append,hJ];simp[hx]
 ·rw[List.take_of_length_le (by omega)] at hJ;rw[D7 hJ]
def QC:AL ((List (Int×Int))×((Int×Int→Prop)×(Int×Int→Bool))):=(.cons (.k (.list (.pair (.i .i64) (.i .i64)))) (.one (.fn [(.pair (.i .i64) (.i .i64))] .bo)))
def Zo (d:(List (Int×Int))×((Int×Int→Prop)×(Int×Int→Bool))):Prop:=d.1.length≤1000000∧∀ x∈d.1,d.2.1 x
def Qz (d:(List (Int×Int))×((Int×Int→Prop)×(Int×Int→Bool))):SV:=.val .bo (d.1.any d.2.2)
def Qx (d:(List (Int×Int))×((Int×Int→Prop)×(Int×Int→Bool))):List OB:=[]
def Q7:CSp:=XE QC Zo Qz Qx
def Q6 (l:List (Int×Int)) (p:(Int×Int→Prop)×(Int×Int→Bool)):Prop :=
 (l.length≤1000000∧∀ x∈l,(fun (x1:Int×Int)=>p.1 (x1.1,x1.2)) x)∧((decide ((Sg l (fun (x1:Int×Int)=>(p.2 (x1.1,x1.2))))≥(0:Int)))=(l.any p.2)∧(True))
def QD:Cx:=⟨[],[(78,Qj)],9,[],0,[],[],[],[],false,[],[],[],[]⟩
def Zv (l:List (Int×Int)) (p:(Int×Int→Prop)×(Int×Int→Bool)):List (Nat×LoopAnn):=[]
set_option maxRecDepth 100000 in
theorem Zw (d:(List (Int×Int))×((Int×Int→Prop)×(Int×Int→Bool))):gwp (QD) (Zv d.1 d.2) c53 0 (WI [.tmp 4] (Qz d) (Qx d)) (Qs 9 (AL.can QC d))=Q6 d.1 d.2:=by kernel_rfl
abbrev Zr:Prop:=OkC Tryz.prog 53 Q7
theorem Zu (h:∀ (l:List (Int×Int)) (p:(Int×Int→Prop)×(Int×Int→Bool)),(l.length≤1000000∧∀ x∈l,p.1 x)→Q6 l p):OkC Tryz.prog 53 Q7 :=
 QA Q6j mixed (C:=QD) (V:=fun (d:(List (Int×Int))×((Int×Int→Prop)×(Int×Int→Bool)))=>Q6 d.1 d.2) ⟨(.cons ZI .nil),XsOk.nil,ItsOk.nil,YlOk.nil,IysOk.nil,XfOk.nil⟩ (Zw) fun d hp=>h d.1 d.2 hp
theorem QB:Zr:=Zu fun l p hp=>by simp only[Q6];exact⟨hp,SE l p.2,trivial⟩
def Gf:AL ((Int×Int)×Int×Int):=(.cons (.agg (.cons (.k (.i .i64)) (.one (.k (.i .i64))))) (.one (.agg (.cons (.k (.i .i64)) (.one (.k (.i .i64)))))))
def TK (d:(Int×Int)×Int×Int):Prop:=True
def M6 (d:(Int×Int)×Int×Int):SV:=.agg [.val (.i .i64) (GY d.1.1 d.2.1),.val (.i .i64) (Lj d.1.2 d.2.2)]
def NX (d:(Int×Int)×Int×Int):List OB:=[]
def UT:CSp:=XE Gf TK M6 NX
def VR (a:Int) (b:Int) (c:Int) (d:Int):Prop :=
 (((GY a c)=(GY a c)∧(Lj b d)=(Lj b d)∧(([]:List SV)=[]))∧(True))
def Gg:Cx:=⟨[],[],16,[],0,[],[],[],[],false,[],[],[],[]⟩
def Sx (a:Int) (b:Int) (c:Int) (d:Int):List (Nat×LoopAnn):=[]
set_option maxRecDepth 100000 in
theorem SA (d:(Int×Int)×Int×Int):gwp (Gg) (Sx d.1.1 d.1.2 d.2.1 d.2.2) c80 0 (WI [.cell 4 true 2] (M6 d) (NX d)) (Qs 16 (AL.can Gf d))=VR d.1.1 d.1.2 d.2.1 d.2.2:=by kernel_rfl
abbrev Sj:Prop:=OkC Tryz.prog 80 UT
theorem S7 (h:∀ (a:Int) (b:Int) (c:Int) (d:Int),(True)→VR a b c d):OkC Tryz.prog 80 UT :=
 QA Q6f mixed (C:=Gg) (V:=fun (d:(Int×Int)×Int×Int)=>VR d.1.1 d.1.2 d.2.1 d.2.2) ⟨.nil,XsOk.nil,ItsOk.nil,YlOk.nil,IysOk.nil,XfOk.nil⟩ (SA) fun d hp=>h d.1.1 d.1.2 d.2.1 d.2.2 hp
theorem SW:Sj:=S7 fun a b c d _=>(by and_intros<;>first|rfl|trivial|simp)
def Vj:AL (Unit):=.nil
def D9 (d:Unit):Prop:=True
def KE (d:Unit):SV:=.agg [.val (.i .i64) (0:Int),.val (.i .i64) (1099511627776:Int)]
def Ky (d:Unit):List OB:=[]
def WT:CSp:=XE Vj D9 KE Ky
def Wh :Prop :=
 (((0:Int)=(0:Int)∧(1099511627776:Int)=(1099511627776:Int)∧(([]:List SV)=[]))∧(True))
def Vs:Cx:=⟨[],[],2,[],0,[],[],[],[],false,[],[],[],[]⟩
def B5 :List (Nat×LoopAnn):=[]
set_option maxRecDepth 100000 in
theorem B7 (d:Unit):gwp (Vs) (B5 ) c81 0 (WI [.cell 0 true 2] (KE d) (Ky d)) (Qs 2 (AL.can Vj d))=Wh :=by kernel_rfl
abbrev DZ:Prop:=OkC Tryz.prog 81 WT
theorem DH (h:(True)→Wh ):OkC Tryz.prog 81 WT :=
 QA Q68 mixed (C:=Vs) (V:=fun (d:Unit)=>Wh ) ⟨.nil,XsOk.nil,ItsOk.nil,YlOk.nil,IysOk.nil,XfOk.nil⟩ (B7) fun d hp=>h  hp
theorem Dx:DZ:=DH fun _=>(by and_intros<;>first|rfl|trivial|simp)
def KA:AL ((Int×Int×List (Int×Int))×Int×Int):=(.cons (.agg (.cons (.k (.i .i64)) (.cons (.k (.i .i64)) (.one (.k (.list (.pair (.i .i64) (.i .i64)))))))) (.one (.agg (.cons (.k (.i .i64)) (.one (.k (.i .i64)))))))
def G0 (d:(Int×Int×List (Int×Int))×Int×Int):Prop:=0≤d.1.2.1∧d.1.2.1≤1000∧0≤d.2.2∧d.2.2≤12000000
def YN (d:(Int×Int×List (Int×Int))×Int×Int):SV:=.agg [.val (.i .i64) ((JM d.1.2.1 (d.2.1,d.2.2)).1),.val (.i .i64) ((JM d.1.2.1 (d.2.1,d.2.2)).2)]
def Y_ (d:(Int×Int×List (Int×Int))×Int×Int):List OB:=[]
def W7:CSp:=XE KA G0 YN Y_
def JJ (g:Int) (s:Int) (l:List (Int×Int)) (k:Int) (x:Int):Prop :=
 (I64 (x-s))∧(I64 (x+s))∧(((GY (0:Int) (x-s))=((JM s (k,x)).1)∧(x+s)=((JM s (k,x)).2)∧(([]:List SV)=[]))∧(True))
def Kw:Cx:=⟨[],[],17,[],0,[],[],[],[],false,[],[],[],[]⟩
def Df (g:Int) (s:Int) (l:List (Int×Int)) (k:Int) (x:Int):List (Nat×LoopAnn):=[]
set_option maxRecDepth 100000 in
theorem GL (d:(Int×Int×List (Int×Int))×Int×Int):gwp (Kw) (Df d.1.1 d.1.2.1 d.1.2.2 d.2.1 d.2.2) c79 0 (WI [.cell 4 true 2] (YN d) (Y_ d)) (Qs 17 (AL.can KA d))=JJ d.1.1 d.1.2.1 d.1.2.2 d.2.1 d.2.2:=by kernel_rfl
abbrev Gy:Prop:=OkC Tryz.prog 79 W7
theorem Gm (h:∀ (g:Int) (s:Int) (l:List (Int×Int)) (k:Int) (x:Int),(0≤s∧s≤1000∧0≤x∧x≤12000000)→JJ g s l k x):OkC Tryz.prog 79 W7 :=
 QA Q3f mixed (C:=Kw) (V:=fun (d:(Int×Int×List (Int×Int))×Int×Int)=>JJ d.1.1 d.1.2.1 d.1.2.2 d.2.1 d.2.2) ⟨.nil,XsOk.nil,ItsOk.nil,YlOk.nil,IysOk.nil,XfOk.nil⟩ (GL) fun d hp=>h d.1.1 d.1.2.1 d.1.2.2 d.2.1 d.2.2 hp
theorem De:Gy:=Gm fun g s l k x h=>by obtain⟨h1,h2,h3,h4⟩:=h;unfold JJ;(try delta lI gD sT I64);refine⟨by rw[QN];omega,by rw[QN];omega,(by and_intros<;>first|rfl|trivial|simp)⟩
def K7:AL ((Int×Int×List (Int×Int))×(Int×Int)×Int×Int):=(.cons (.agg (.cons (.k (.i .i64)) (.cons (.k (.i .i64)) (.one (.k (.list (.pair (.i .i64) (.i .i64)))))))) (.cons (.agg (.cons (.k (.i .i64)) (.one (.k (.i .i64))))) (.one (.agg (.cons (.k (.i .i64)) (.one (.k (.i .i64))))))))
def NA (d:(Int×Int×List (Int×Int))×(Int×Int)×Int×Int):Prop:=0≤d.1.2.1∧d.1.2.1≤1000∧0≤d.2.2.2∧d.2.2.2≤12000000∧-2000000000000≤d.2.1.1∧d.2.1.1≤2000000000000∧-2000000000000≤d.2.1.2∧d.2.1.2≤2000000000000
def W_ (d:(Int×Int×List (Int×Int))×(Int×Int)×Int×Int):SV:=.agg [.val (.i .i64) ((Z1 d.1.2.1 (d.2.1.1,d.2.1.2) (d.2.2.1,d.2.2.2)).1),.val (.i .i64) ((Z1 d.1.2.1 (d.2.1.1,d.2.1.2) (d.2.2.1,d.2.2.2)).2)]
def WY (d:(Int×Int×List (Int×Int))×(Int×Int)×Int×Int):List OB:=[]
def XM:CSp:=XE K7 NA W_ WY
def JB (g:Int) (s:Int) (l:List (Int×Int)) (p:Int) (q:Int) (k:Int) (x:Int):Prop :=
 (0≤s∧s≤1000∧0≤x∧x≤12000000)∧((k==(1:Int))=true →
  (True)∧(I64 (p-((JM s (k,x)).2)))∧(I64 (q-((JM s (k,x)).1)))∧(True)∧(((GY (0:Int) (p-((JM s (k,x)).2)))=((Z1 s (p,q) (k,x)).1)∧(Lj (1099511627776:Int) (q-((JM s (k,x)).1)))=((Z1 s (p,q) (k,x)).2)∧(([]:List SV)=[]))∧(True))) ∧
 ((k==(1:Int))=false →
  ((k==(2:Int))=true →
   (I64 (p+((JM s (k,x)).1)))∧(I64 (q+((JM s (k,x)).2)))∧(((p+((JM s (k,x)).1))=((Z1 s (p,q) (k,x)).1)∧(q+((JM s (k,x)).2))=((Z1 s (p,q) (k,x)).2)∧(([]:List SV)=[]))∧(True))) ∧
  ((k==(2:Int))=false →
   (True)∧(((GY p ((JM s (k,x)).1))=((Z1 s (p,q) (k,x)).1)∧(Lj q ((JM s (k,x)).2))=((Z1 s (p,q) (k,x)).2)∧(([]:List SV)=[]))∧(True))))
def K8:Cx:=⟨[],[(79,W7),(81,WT),(80,UT)],44,[],0,[],[],[],[],false,[],[],[],[]⟩
def MJ (g:Int) (s:Int) (l:List (Int×Int)) (p:Int) (q:Int) (k:Int) (x:Int):List (Nat×LoopAnn):=[]
set_option maxRecDepth 100000 in
theorem MB (d:(Int×Int×List (Int×Int))×(Int×Int)×Int×Int):gwp (K8) (MJ d.1.1 d.1.2.1 d.1.2.2 d.2.1.1 d.2.1.2 d.2.2.1 d.2.2.2) c54 0 (WI [.cell 6 true 2] (W_ d) (WY d)) (Qs 44 (AL.can K7 d))=JB d.1.1 d.1.2.1 d.1.2.2 d.2.1.1 d.2.1.2 d.2.2.1 d.2.2.2:=by kernel_rfl
abbrev Mv:Prop:=OkC Tryz.prog 54 XM
theorem MA (h:∀ (g:Int) (s:Int) (l:List (Int×Int)) (p:Int) (q:Int) (k:Int) (x:Int),(0≤s∧s≤1000∧0≤x∧x≤12000000∧-2000000000000≤p∧p≤2000000000000∧-2000000000000≤q∧q≤2000000000000)→JB g s l p q k x):OkC Tryz.prog 54 XM :=
 QA Q3a mixed (C:=K8) (V:=fun (d:(Int×Int×List (Int×Int))×(Int×Int)×Int×Int)=>JB d.1.1 d.1.2.1 d.1.2.2 d.2.1.1 d.2.1.2 d.2.2.1 d.2.2.2) ⟨(.cons De (.cons Dx (.cons SW .nil))),XsOk.nil,ItsOk.nil,YlOk.nil,IysOk.nil,XfOk.nil⟩ (MB) fun d hp=>h d.1.1 d.1.2.1 d.1.2.2 d.2.1.1 d.2.1.2 d.2.2.1 d.2.2.2 hp
theorem Q1w {s k x:Int}(h1:0≤s) (h2:s≤1000) (h3:0≤x) (h4:x≤12000000):0≤(JM s (k,x)).1∧(JM s (k,x)).1≤12000000∧0≤(JM s (k,x)).2∧(JM s (k,x)).2≤12001000:=by unfold JM;rw[W8];dsimp only;omega
theorem MX:Mv:=MA fun g s l p q k x h=>by
 obtain⟨h1,h2,h3,h4,h5,h6,h7,h8⟩:=h;unfold JB;(try delta lI gD sT I64);simp only[beq_iff_eq,beq_eq_false_iff_ne,ne_eq];have hr:=Q1w (k:=k) h1 h2 h3 h4;refine⟨⟨h1,h2,h3,h4⟩,fun e=>?_,fun e=>⟨fun e2=>?_,fun e2=>?_⟩⟩
 ·have ea:Z1 s (p,q) (k,x)=(GY 0 (p-(JM s (k,x)).2),Lj 1099511627776 (q-(JM s (k,x)).1)):=by unfold Z1;rw[if_pos e];rfl
  simp only[ea,QN];and_intros<;>first|rfl|trivial|omega
 ·have ea:Z1 s (p,q) (k,x)=(p+(JM s (k,x)).1,q+(JM s (k,x)).2):=by unfold Z1;rw[if_neg e,if_pos e2]
  simp only[ea,QN];and_intros<;>first|rfl|trivial|omega
 ·have ea:Z1 s (p,q) (k,x)=(GY p (JM s (k,x)).1,Lj q (JM s (k,x)).2):=by unfold Z1;rw[if_neg e,if_neg e2];rfl
  simp only[ea];and_intros<;>first|rfl|trivial|omega
def Kd:AL (Int×Int×List (Int×Int)):=(.one (.agg (.cons (.k (.i .i64)) (.cons (.k (.i .i64)) (.one (.k (.list (.pair (.i .i64) (.i .i64)))))))))
def NN (d:Int×Int×List (Int×Int)):Prop:=YR d.1 d.2.1 d.2.2
def Y1 (d:Int×Int×List (Int×Int)):SV:=.tup [.lst 0,.val (.i .i64) (VD d.1 d.2.1 d.2.2)]
def Y8 (d:Int×Int×List (Int×Int)):List OB:=[.lst 37 (.pair (.i .i64) (.i .i64)) (Zl d.1 d.2.1 d.2.2) false]
def W1:CSp:=XE Kd NN Y1 Y8
def Jz (g:Int) (s:Int) (l:List (Int×Int)):Prop :=
 ∃ (e3:Unit) (d30:(List (Int×Int))×Int),((True∧True∧l=l∧(lI l)=(lI l)∧(0:Int)=d30.2∧True)∧((g=g∧s=s∧l=l∧(([]:List SV)=[]))∧([(g,g)]=d30.1∧false=false)∧True)) ∧
 LoopP (fun (d3:(List (Int×Int))×Int) (q3:((List (Int×Int))×Int)→Prop) =>
  ((decide (d3.2<(lI l)))=true →
   (0≤d3.2)∧(d3.2<(List.length l))∧(0≤d3.2)∧(d3.2<(List.length d3.1))∧(0≤s∧s≤1000∧0≤((gD l d3.2 (0,0)).2)∧((gD l d3.2 (0,0)).2)≤12000000∧-2000000000000≤((gD d3.1 d3.2 (0,0)).1)∧((gD d3.1 d3.2 (0,0)).1)≤2000000000000∧-2000000000000≤((gD d3.1 d3.2 (0,0)).2)∧((gD d3.1 d3.2 (0,0)).2)≤2000000000000)∧((True∧True∧d3.2=d3.2∧True∧l=l∧(lI l)=(lI l)∧d3.2=d3.2∧(((Z1 s (((gD d3.1 d3.2 (0,0)).1),((gD d3.1 d3.2 (0,0)).2)) (((gD l d3.2 (0,0)).1),((gD l d3.2 (0,0)).2))).1)=((Z1 s (((gD d3.1 d3.2 (0,0)).1),((gD d3.1 d3.2 (0,0)).2)) (((gD l d3.2 (0,0)).1),((gD l d3.2 (0,0)).2))).1)∧((Z1 s (((gD d3.1 d3.2 (0,0)).1),((gD d3.1 d3.2 (0,0)).2)) (((gD l d3.2 (0,0)).1),((gD l d3.2 (0,0)).2))).2)=((Z1 s (((gD d3.1 d3.2 (0,0)).1),((gD d3.1 d3.2 (0,0)).2)) (((gD l d3.2 (0,0)).1),((gD l d3.2 (0,0)).2))).2)∧(([]:List SV)=[]))∧True)∧((g=g∧s=s∧l=l∧(([]:List SV)=[]))∧((gD l d3.2 (0,0)).1=(gD l d3.2 (0,0)).1∧(gD l d3.2 (0,0)).2=(gD l d3.2 (0,0)).2∧(([]:List SV)=[]))∧((0:Int)=(0:Int)∧(0:Int)=(0:Int)∧(([]:List SV)=[]))∧(d3.1=d3.1∧false=false)∧True))∧((0≤d3.2)∧(d3.2<(List.length d3.1))∧(0≤s∧s≤1000∧0≤((gD l d3.2 (0,0)).2)∧((gD l d3.2 (0,0)).2)≤12000000∧-2000000000000≤((gD d3.1 d3.2 (0,0)).1)∧((gD d3.1 d3.2 (0,0)).1)≤2000000000000∧-2000000000000≤((gD d3.1 d3.2 (0,0)).2)∧((gD d3.1 d3.2 (0,0)).2)≤2000000000000)∧((True∧True∧d3.2=d3.2∧True∧l=l∧(lI l)=(lI l)∧d3.2=d3.2∧(((Z1 s (((gD d3.1 d3.2 (0,0)).1),((gD d3.1 d3.2 (0,0)).2)) (((gD l d3.2 (0,0)).1),((gD l d3.2 (0,0)).2))).1)=((Z1 s (((gD d3.1 d3.2 (0,0)).1),((gD d3.1 d3.2 (0,0)).2)) (((gD l d3.2 (0,0)).1),((gD l d3.2 (0,0)).2))).1)∧((Z1 s (((gD d3.1 d3.2 (0,0)).1),((gD d3.1 d3.2 (0,0)).2)) (((gD l d3.2 (0,0)).1),((gD l d3.2 (0,0)).2))).2)=((Z1 s (((gD d3.1 d3.2 (0,0)).1),((gD d3.1 d3.2 (0,0)).2)) (((gD l d3.2 (0,0)).1),((gD l d3.2 (0,0)).2))).2)∧(([]:List SV)=[]))∧True)∧((g=g∧s=s∧l=l∧(([]:List SV)=[]))∧((gD l d3.2 (0,0)).1=(gD l d3.2 (0,0)).1∧(gD l d3.2 (0,0)).2=(gD l d3.2 (0,0)).2∧(([]:List SV)=[]))∧((0:Int)=(0:Int)∧(0:Int)=(0:Int)∧(([]:List SV)=[]))∧(d3.1=d3.1∧false=false)∧True)))∧((decide (((Z1 s (((gD d3.1 d3.2 (0,0)).1),((gD d3.1 d3.2 (0,0)).2)) (((gD l d3.2 (0,0)).1),((gD l d3.2 (0,0)).2))).1) > ((Z1 s (((gD d3.1 d3.2 (0,0)).1),((gD d3.1 d3.2 (0,0)).2)) (((gD l d3.2 (0,0)).1),((gD l d3.2 (0,0)).2))).2)))=true →
    ((True∧d3.2=(VD g s l)∧(([]:List SV)=[]))∧((d3.1=(Zl g s l)∧false=false)∧True))) ∧
   ((decide (((Z1 s (((gD d3.1 d3.2 (0,0)).1),((gD d3.1 d3.2 (0,0)).2)) (((gD l d3.2 (0,0)).1),((gD l d3.2 (0,0)).2))).1) > ((Z1 s (((gD d3.1 d3.2 (0,0)).1),((gD d3.1 d3.2 (0,0)).2)) (((gD l d3.2 (0,0)).1),((gD l d3.2 (0,0)).2))).2)))=false →
    (((List.length d3.1)+(List.length [(((Z1 s (((gD d3.1 d3.2 (0,0)).1),((gD d3.1 d3.2 (0,0)).2)) (((gD l d3.2 (0,0)).1),((gD l d3.2 (0,0)).2))).1),((Z1 s (((gD d3.1 d3.2 (0,0)).1),((gD d3.1 d3.2 (0,0)).2)) (((gD l d3.2 (0,0)).1),((gD l d3.2 (0,0)).2))).2))]))*16≤70368744177664)∧(I64 (d3.2+(1:Int)))∧(∃ d4:(List (Int×Int))×Int,((True∧True∧l=l∧(lI l)=(lI l)∧(d3.2+(1:Int))=d4.2∧True)∧((g=g∧s=s∧l=l∧(([]:List SV)=[]))∧((d3.1++[(((Z1 s (((gD d3.1 d3.2 (0,0)).1),((gD d3.1 d3.2 (0,0)).2)) (((gD l d3.2 (0,0)).1),((gD l d3.2 (0,0)).2))).1),((Z1 s (((gD d3.1 d3.2 (0,0)).1),((gD d3.1 d3.2 (0,0)).2)) (((gD l d3.2 (0,0)).1),((gD l d3.2 (0,0)).2))).2))])=d4.1∧false=false)∧True))∧q3 d4))) ∧
  ((decide (d3.2<(lI l)))=false →
   ((True∧(-1:Int)=(VD g s l)∧(([]:List SV)=[]))∧((d3.1=(Zl g s l)∧false=false)∧True)))) d30
def K4:Cx:=⟨[(37,(.pair (.i .i64) (.i .i64)))],[(54,XM)],41,[],0,[],[],[],[1,2,4,6,14,15,16,27],false,[],[],[],[]⟩
def MV (g:Int) (s:Int) (l:List (Int×Int)):List (Nat×LoopAnn):=[(0,⟨Unit,(List (Int×Int))×Int,[1,2,14,15,16],fun e x=>[.box 1 0,.lst 12,.val (.list (.pair (.i .i64) (.i .i64))) l,.val (.i .i64) (((List.length l):Nat):Int),.val (.i .i64) x.2],fun e x=>[(1,.slot 1,.cells [.val (.i .i64) g,.val (.i .i64) s,.val (.list (.pair (.i .i64) (.i .i64))) l] (some 93)),(12,.slot 2,.lst 37 (.pair (.i .i64) (.i .i64)) x.1 false)]⟩)]
set_option maxRecDepth 100000 in
theorem MN (d:Int×Int×List (Int×Int)):gwp (K4) (MV d.1 d.2.1 d.2.2) c30 0 (WI [.tmp 2,.tmp 3] (Y1 d) (Y8 d)) (Qs 41 (AL.can Kd d))=Jz d.1 d.2.1 d.2.2:=by kernel_rfl
abbrev Mx:Prop:=OkC Tryz.prog 30 W1
theorem MH (h:∀ (g:Int) (s:Int) (l:List (Int×Int)),(YR g s l)→Jz g s l):OkC Tryz.prog 30 W1 :=
 QA Q42 mixed (C:=K4) (V:=fun (d:Int×Int×List (Int×Int))=>Jz d.1 d.2.1 d.2.2) ⟨(.cons MX .nil),XsOk.nil,ItsOk.nil,YlOk.nil,IysOk.nil,XfOk.nil⟩ (MN) fun d hp=>h d.1 d.2.1 d.2.2 hp
theorem A2 {g s:Int}{l:List En}{k:Nat}(hk:k<l.length) (hn:∀ j,j<k→Ne (stB g s l (j+1))) (hb:(stB g s l (k+1)).1 > (stB g s l (k+1)).2):Q4r g s l=some k :=
 List.find?_range_eq_some.2 ⟨by simpa [Q1e] using hb,by simpa using hk,fun j hj=>by have:=hn j hj;unfold Ne at this;simp[Q1e];omega⟩
theorem Ln {g s:Int}{l:List En}(hn:∀ j,j<l.length→Ne (stB g s l (j+1))):Q4r g s l=none :=
 List.find?_range_eq_none.2 fun j hj=>by have:=hn j hj;unfold Ne at this;simp[Q1e];omega
theorem Q14 {g s:Int}{l:List En}{n k:Nat}(h:k<n):((List.range n).map (stB g s l)).getD k (0,0)=stB g s l k:=by rw[Q5 (by simpa using h)];simp
theorem G3:Mx:=MH fun g s l hb=>by
 have bU:=hb;obtain⟨b1,b2,b3,b4,b5,b6⟩:=bU;unfold Jz;(try delta lI gD sT I64)
 (try simp only[decide_eq_true_eq,decide_eq_false_iff_not])
 refine⟨(),([(g,g)],0),(by and_intros<;>first|rfl|trivial|simp),?_⟩;refine LoopP.count2 l.length (fun k sp=>sp=(List.range (k+1)).map (stB g s l)∧∀ j,j<k→Ne (stB g s l (j+1))) ⟨rfl,fun j hj=>by omega⟩ fun k sp hk hI q hq=>?_;obtain⟨i1,i2⟩:=hI;subst i1;dsimp only;refine⟨fun ah=>?_,fun a_=>?_⟩
 ·have aM:k<l.length:=by omega
  have qB:=I4 hb k (by omega) fun j h1 h2=>i2 j (by omega);have hx:=b6 _ (List.getElem_mem aM);obtain⟨x1,x2,x3,x4⟩:=hx;have tD:=He (g:=g) (s:=s) aM;have hlen:((List.range (k+1)).map (stB g s l)).length=k+1:=by simp
  have hp:∀ y:Int×Int,(y.1,y.2)=y:=fun _=>rfl;have tF:-100000000≤(stB g s l k).2:=by omega
  simp only[Int.toNat_natCast,Q14 (show k<k+1 by omega),Q5 (d:=((0,0):Int×Int)) aM,hp,←tD,hlen,true_and,and_true,List.length_cons,List.length_nil];have hT:∀ P:Prop,P→P:=fun _ h=>h;refine⟨by omega,by omega,by omega,by omega,⟨b3,b4,by omega,by omega,by omega,by omega,by omega,by omega⟩,⟨by omega,by omega,b3,b4,by omega,by omega,by omega,by omega,by omega,by omega⟩,fun pW=>?_,fun ai=>⟨by omega,by rw[QN];omega,((List.range (k+1)).map (stB g s l)++[stB g s l (k+1)],(k:Int)+1),(by and_intros<;>first|rfl|trivial|simp),hq _ aM ⟨by rw[List.range_succ (n:=k+1),List.map_append];rfl,fun j hj=>?_⟩⟩⟩
  ·have hw:=A2 aM i2 pW;have pX:VD g s l=k:=by unfold VD;rw[hw]
   have pY:Zl g s l=(List.range (k+1)).map (stB g s l):=by unfold Zl;rw[hw]
   rw[pX,pY];exact⟨rfl,rfl⟩
  ·rcases Nat.lt_succ_iff_lt_or_eq.1 hj with hj|rfl
   ·exact i2 j hj
   ·unfold Ne;omega
 ·have:k=l.length:=by omega
  subst this;have hn:=Ln i2;have pX:VD g s l=-1:=by unfold VD;rw[hn]
  have pY:Zl g s l=(List.range (l.length+1)).map (stB g s l):=by unfold Zl;rw[hn]
  rw[pX,pY];and_intros<;>first|rfl|trivial
def Ud:Cx:=⟨[(3,(.i .i64))],[(52,J_),(46,Zf),(53,Q7)],33,[],0,[],[],[],[],false,[],[],[],[]⟩
def UP:XSp:=Q8k Ud (fun _=>[]) c29 [.cell 6 true 3,.tmp 7] 33
theorem B6:XOk Tryz.prog 29 UP:=FK Q6n mixed (C:=Ud) ⟨(.cons Kv (.cons Zz (.cons QB .nil))),XsOk.nil,ItsOk.nil,YlOk.nil,IysOk.nil,XfOk.nil⟩ _
end Go.Proofs.Tryz
set_option linter.unusedVariables false
namespace Go.Proofs.Tryz
open Go Go.V Go.Proofs
def GA:AL (Int×Int×List (Int×Int)):=(.cons (.k (.i .i64)) (.cons (.k (.i .i64)) (.one (.k (.list (.pair (.i .i64) (.i .i64)))))))
def Ti (d:Int×Int×List (Int×Int)):Prop:=d.2.2.length≤1000
def Mm (d:Int×Int×List (Int×Int)):SV:=.tup [.agg [.val (.i .i64) ((Qh d.1 d.2.1 d.2.2).1),.val (.i .i64) ((Qh d.1 d.2.1 d.2.2).2)],.val (.i .i64) (Zp d.1 d.2.1 d.2.2),.val (.i .i64) (Qo d.1 d.2.1 d.2.2)]
def Mc (d:Int×Int×List (Int×Int)):List OB:=[]
def Uq:CSp:=XE GA Ti Mm Mc
def Yj (g:Int) (s:Int) (l:List (Int×Int)):Prop :=
 ∀ w1:List Value,([g].length≤1000000)∧((!(!([g].any fun n=>decide (n<(1:Int))||decide ((1000000:Int)<n))))=true →
  ((!(!([g].any fun n=>decide (n<(1:Int))||decide ((1000000:Int)<n))))=true →
   w1=w1∧(((2:Int) != (0:Int))=true →
    ((((0:Int)=((Qh g s l).1)∧(0:Int)=((Qh g s l).2)∧(([]:List SV)=[]))∧(0:Int)=(Zp g s l)∧(2:Int)=(Qo g s l)∧(([]:List SV)=[]))∧(True))) ∧
   (((2:Int) != (0:Int))=false →
    (YR (0:Int) (0:Int) ([]:List (Int×Int)))∧((decide ((VD (0:Int) (0:Int) ([]:List (Int×Int)))≥(0:Int)))=true →
     ((((0:Int)=((Qh g s l).1)∧(0:Int)=((Qh g s l).2)∧(([]:List SV)=[]))∧(VD (0:Int) (0:Int) ([]:List (Int×Int)))=(Zp g s l)∧(90:Int)=(Qo g s l)∧(([]:List SV)=[]))∧(True))) ∧
    ((decide ((VD (0:Int) (0:Int) ([]:List (Int×Int)))≥(0:Int)))=false →
     (0≤(lI l))∧((lI l)<(List.length (Zl (0:Int) (0:Int) ([]:List (Int×Int)))))∧((((gD (Zl (0:Int) (0:Int) ([]:List (Int×Int))) (lI l) (0,0)).1=((Qh g s l).1)∧(gD (Zl (0:Int) (0:Int) ([]:List (Int×Int))) (lI l) (0,0)).2=((Qh g s l).2)∧(([]:List SV)=[]))∧(0:Int)=(Zp g s l)∧(0:Int)=(Qo g s l)∧(([]:List SV)=[]))∧(True))))) ∧
  ((!(!([g].any fun n=>decide (n<(1:Int))||decide ((1000000:Int)<n))))=false →
   ((decide ((lI l) > (40:Int)))=true →
    w1=w1∧(((5:Int) != (0:Int))=true →
     ((((0:Int)=((Qh g s l).1)∧(0:Int)=((Qh g s l).2)∧(([]:List SV)=[]))∧(0:Int)=(Zp g s l)∧(5:Int)=(Qo g s l)∧(([]:List SV)=[]))∧(True))) ∧
    (((5:Int) != (0:Int))=false →
     (YR (0:Int) (0:Int) ([]:List (Int×Int)))∧((decide ((VD (0:Int) (0:Int) ([]:List (Int×Int)))≥(0:Int)))=true →
      ((((0:Int)=((Qh g s l).1)∧(0:Int)=((Qh g s l).2)∧(([]:List SV)=[]))∧(VD (0:Int) (0:Int) ([]:List (Int×Int)))=(Zp g s l)∧(90:Int)=(Qo g s l)∧(([]:List SV)=[]))∧(True))) ∧
     ((decide ((VD (0:Int) (0:Int) ([]:List (Int×Int)))≥(0:Int)))=false →
      (0≤(lI l))∧((lI l)<(List.length (Zl (0:Int) (0:Int) ([]:List (Int×Int)))))∧((((gD (Zl (0:Int) (0:Int) ([]:List (Int×Int))) (lI l) (0,0)).1=((Qh g s l).1)∧(gD (Zl (0:Int) (0:Int) ([]:List (Int×Int))) (lI l) (0,0)).2=((Qh g s l).2)∧(([]:List SV)=[]))∧(0:Int)=(Zp g s l)∧(0:Int)=(Qo g s l)∧(([]:List SV)=[]))∧(True))))) ∧
   ((decide ((lI l) > (40:Int)))=false →
    (l.length≤1000000∧∀ x∈l,(fun (x1:Int×Int)=>True) x)∧((l.any (fun (x1:Int×Int)=>(!inI x1.1 1 3||!inI x1.2 0 12000000)))=true →
     w1=w1∧(((2:Int) != (0:Int))=true →
      ((((0:Int)=((Qh g s l).1)∧(0:Int)=((Qh g s l).2)∧(([]:List SV)=[]))∧(0:Int)=(Zp g s l)∧(2:Int)=(Qo g s l)∧(([]:List SV)=[]))∧(True))) ∧
     (((2:Int) != (0:Int))=false →
      (YR (0:Int) (0:Int) ([]:List (Int×Int)))∧((decide ((VD (0:Int) (0:Int) ([]:List (Int×Int)))≥(0:Int)))=true →
       ((((0:Int)=((Qh g s l).1)∧(0:Int)=((Qh g s l).2)∧(([]:List SV)=[]))∧(VD (0:Int) (0:Int) ([]:List (Int×Int)))=(Zp g s l)∧(90:Int)=(Qo g s l)∧(([]:List SV)=[]))∧(True))) ∧
      ((decide ((VD (0:Int) (0:Int) ([]:List (Int×Int)))≥(0:Int)))=false →
       (0≤(lI l))∧((lI l)<(List.length (Zl (0:Int) (0:Int) ([]:List (Int×Int)))))∧((((gD (Zl (0:Int) (0:Int) ([]:List (Int×Int))) (lI l) (0,0)).1=((Qh g s l).1)∧(gD (Zl (0:Int) (0:Int) ([]:List (Int×Int))) (lI l) (0,0)).2=((Qh g s l).2)∧(([]:List SV)=[]))∧(0:Int)=(Zp g s l)∧(0:Int)=(Qo g s l)∧(([]:List SV)=[]))∧(True))))) ∧
    ((l.any (fun (x1:Int×Int)=>(!inI x1.1 1 3||!inI x1.2 0 12000000)))=false →
     w1=w1∧(((0:Int) != (0:Int))=true →
      ((((0:Int)=((Qh g s l).1)∧(0:Int)=((Qh g s l).2)∧(([]:List SV)=[]))∧(0:Int)=(Zp g s l)∧(0:Int)=(Qo g s l)∧(([]:List SV)=[]))∧(True))) ∧
     (((0:Int) != (0:Int))=false →
      (YR g s l)∧((decide ((VD g s l)≥(0:Int)))=true →
       ((((0:Int)=((Qh g s l).1)∧(0:Int)=((Qh g s l).2)∧(([]:List SV)=[]))∧(VD g s l)=(Zp g s l)∧(90:Int)=(Qo g s l)∧(([]:List SV)=[]))∧(True))) ∧
      ((decide ((VD g s l)≥(0:Int)))=false →
       (0≤(lI l))∧((lI l)<(List.length (Zl g s l)))∧((((gD (Zl g s l) (lI l) (0,0)).1=((Qh g s l).1)∧(gD (Zl g s l) (lI l) (0,0)).2=((Qh g s l).2)∧(([]:List SV)=[]))∧(0:Int)=(Zp g s l)∧(0:Int)=(Qo g s l)∧(([]:List SV)=[]))∧(True)))))))) ∧
 ((!(!([g].any fun n=>decide (n<(1:Int))||decide ((1000000:Int)<n))))=false →
  ([s].length≤1000000)∧((!(!([s].any fun n=>decide (n<(0:Int))||decide ((1000:Int)<n))))=true →
   w1=w1∧(((2:Int) != (0:Int))=true →
    ((((0:Int)=((Qh g s l).1)∧(0:Int)=((Qh g s l).2)∧(([]:List SV)=[]))∧(0:Int)=(Zp g s l)∧(2:Int)=(Qo g s l)∧(([]:List SV)=[]))∧(True))) ∧
   (((2:Int) != (0:Int))=false →
    (YR (0:Int) (0:Int) ([]:List (Int×Int)))∧((decide ((VD (0:Int) (0:Int) ([]:List (Int×Int)))≥(0:Int)))=true →
     ((((0:Int)=((Qh g s l).1)∧(0:Int)=((Qh g s l).2)∧(([]:List SV)=[]))∧(VD (0:Int) (0:Int) ([]:List (Int×Int)))=(Zp g s l)∧(90:Int)=(Qo g s l)∧(([]:List SV)=[]))∧(True))) ∧
    ((decide ((VD (0:Int) (0:Int) ([]:List (Int×Int)))≥(0:Int)))=false →
     (0≤(lI l))∧((lI l)<(List.length (Zl (0:Int) (0:Int) ([]:List (Int×Int)))))∧((((gD (Zl (0:Int) (0:Int) ([]:List (Int×Int))) (lI l) (0,0)).1=((Qh g s l).1)∧(gD (Zl (0:Int) (0:Int) ([]:List (Int×Int))) (lI l) (0,0)).2=((Qh g s l).2)∧(([]:List SV)=[]))∧(0:Int)=(Zp g s l)∧(0:Int)=(Qo g s l)∧(([]:List SV)=[]))∧(True))))) ∧
  ((!(!([s].any fun n=>decide (n<(0:Int))||decide ((1000:Int)<n))))=false →
   ((decide ((lI l) > (40:Int)))=true →
    w1=w1∧(((5:Int) != (0:Int))=true →
     ((((0:Int)=((Qh g s l).1)∧(0:Int)=((Qh g s l).2)∧(([]:List SV)=[]))∧(0:Int)=(Zp g s l)∧(5:Int)=(Qo g s l)∧(([]:List SV)=[]))∧(True))) ∧
    (((5:Int) != (0:Int))=false →
     (YR (0:Int) (0:Int) ([]:List (Int×Int)))∧((decide ((VD (0:Int) (0:Int) ([]:List (Int×Int)))≥(0:Int)))=true →
      ((((0:Int)=((Qh g s l).1)∧(0:Int)=((Qh g s l).2)∧(([]:List SV)=[]))∧(VD (0:Int) (0:Int) ([]:List (Int×Int)))=(Zp g s l)∧(90:Int)=(Qo g s l)∧(([]:List SV)=[]))∧(True))) ∧
     ((decide ((VD (0:Int) (0:Int) ([]:List (Int×Int)))≥(0:Int)))=false →
      (0≤(lI l))∧((lI l)<(List.length (Zl (0:Int) (0:Int) ([]:List (Int×Int)))))∧((((gD (Zl (0:Int) (0:Int) ([]:List (Int×Int))) (lI l) (0,0)).1=((Qh g s l).1)∧(gD (Zl (0:Int) (0:Int) ([]:List (Int×Int))) (lI l) (0,0)).2=((Qh g s l).2)∧(([]:List SV)=[]))∧(0:Int)=(Zp g s l)∧(0:Int)=(Qo g s l)∧(([]:List SV)=[]))∧(True))))) ∧
   ((decide ((lI l) > (40:Int)))=false →
    (l.length≤1000000∧∀ x∈l,(fun (x2:Int×Int)=>True) x)∧((l.any (fun (x2:Int×Int)=>(!inI x2.1 1 3||!inI x2.2 0 12000000)))=true →
     w1=w1∧(((2:Int) != (0:Int))=true →
      ((((0:Int)=((Qh g s l).1)∧(0:Int)=((Qh g s l).2)∧(([]:List SV)=[]))∧(0:Int)=(Zp g s l)∧(2:Int)=(Qo g s l)∧(([]:List SV)=[]))∧(True))) ∧
     (((2:Int) != (0:Int))=false →
      (YR (0:Int) (0:Int) ([]:List (Int×Int)))∧((decide ((VD (0:Int) (0:Int) ([]:List (Int×Int)))≥(0:Int)))=true →
       ((((0:Int)=((Qh g s l).1)∧(0:Int)=((Qh g s l).2)∧(([]:List SV)=[]))∧(VD (0:Int) (0:Int) ([]:List (Int×Int)))=(Zp g s l)∧(90:Int)=(Qo g s l)∧(([]:List SV)=[]))∧(True))) ∧
      ((decide ((VD (0:Int) (0:Int) ([]:List (Int×Int)))≥(0:Int)))=false →
       (0≤(lI l))∧((lI l)<(List.length (Zl (0:Int) (0:Int) ([]:List (Int×Int)))))∧((((gD (Zl (0:Int) (0:Int) ([]:List (Int×Int))) (lI l) (0,0)).1=((Qh g s l).1)∧(gD (Zl (0:Int) (0:Int) ([]:List (Int×Int))) (lI l) (0,0)).2=((Qh g s l).2)∧(([]:List SV)=[]))∧(0:Int)=(Zp g s l)∧(0:Int)=(Qo g s l)∧(([]:List SV)=[]))∧(True))))) ∧
    ((l.any (fun (x2:Int×Int)=>(!inI x2.1 1 3||!inI x2.2 0 12000000)))=false →
     w1=w1∧(((0:Int) != (0:Int))=true →
      ((((0:Int)=((Qh g s l).1)∧(0:Int)=((Qh g s l).2)∧(([]:List SV)=[]))∧(0:Int)=(Zp g s l)∧(0:Int)=(Qo g s l)∧(([]:List SV)=[]))∧(True))) ∧
     (((0:Int) != (0:Int))=false →
      (YR g s l)∧((decide ((VD g s l)≥(0:Int)))=true →
       ((((0:Int)=((Qh g s l).1)∧(0:Int)=((Qh g s l).2)∧(([]:List SV)=[]))∧(VD g s l)=(Zp g s l)∧(90:Int)=(Qo g s l)∧(([]:List SV)=[]))∧(True))) ∧
      ((decide ((VD g s l)≥(0:Int)))=false →
       (0≤(lI l))∧((lI l)<(List.length (Zl g s l)))∧((((gD (Zl g s l) (lI l) (0,0)).1=((Qh g s l).1)∧(gD (Zl g s l) (lI l) (0,0)).2=((Qh g s l).2)∧(([]:List SV)=[]))∧(0:Int)=(Zp g s l)∧(0:Int)=(Qo g s l)∧(([]:List SV)=[]))∧(True))))))))
def Gh:Cx:=⟨[(3,(.i .i64))],[(46,Zf),(30,W1),(53,Q7),(52,J_)],37,[],0,[(29,UP)],[],[],[],false,[],[],[],[]⟩
def RF (g:Int) (s:Int) (l:List (Int×Int)):List (Nat×LoopAnn):=[]
set_option maxRecDepth 100000 in
theorem SS (d:Int×Int×List (Int×Int)):gwp (Gh) (RF d.1 d.2.1 d.2.2) c13 0 (WI [.cell 6 true 2,.tmp 7,.tmp 8] (Mm d) (Mc d)) (Qs 37 (AL.can GA d))=Yj d.1 d.2.1 d.2.2:=by kernel_rfl
abbrev RP:Prop:=OkC Tryz.prog 13 Uq
theorem SC (h:∀ (g:Int) (s:Int) (l:List (Int×Int)),(l.length≤1000)→Yj g s l):OkC Tryz.prog 13 Uq :=
 QA Q5e mixed (C:=Gh) (V:=fun (d:Int×Int×List (Int×Int))=>Yj d.1 d.2.1 d.2.2) ⟨(.cons Zz (.cons G3 (.cons QB (.cons Kv .nil)))),(XsOk.cons B6 XsOk.nil),ItsOk.nil,YlOk.nil,IysOk.nil,XfOk.nil⟩ (SS) fun d hp=>h d.1 d.2.1 d.2.2 hp
theorem Q7o:((2:Int) != 0)=true:=rfl
theorem Q8h:((5:Int) != 0)=true:=rfl
theorem Q7f:((0:Int) != 0)=false:=rfl
theorem Q7m {g s:Int}{l:List En}(h:inI g 1 1000000=false):Xj g s l=2:=by unfold Xj;rw[h];rfl
theorem Q8x {g s:Int}{l:List En}(h:inI s 0 1000=false):Xj g s l=2:=by unfold Xj;rw[h,Bool.not_false,Bool.or_true,if_pos rfl]
theorem Z12 {g s:Int}{l:List En}(h1:inI g 1 1000000=true) (h2:inI s 0 1000=true) (h:40<(l.length:Int)):Xj g s l=5:=by unfold Xj;rw[h1,h2,if_neg (by decide),if_pos (by omega)]
theorem Q8b {g s:Int}{l:List En}(h1:inI g 1 1000000=true) (h2:inI s 0 1000=true) (h3:¬ 40<(l.length:Int)) (h:(l.any fun x=>!inI x.1 1 3||!inI x.2 0 12000000)=true):Xj g s l=2:=by unfold Xj;rw[h1,h2,if_neg (by decide),if_neg (by omega),if_pos h]
theorem Z14 {g s:Int}{l:List En}(h1:inI g 1 1000000=true) (h2:inI s 0 1000=true) (h3:¬ 40<(l.length:Int)) (h:(l.any fun x=>!inI x.1 1 3||!inI x.2 0 12000000)=false):Xj g s l=0:=by unfold Xj;rw[h1,h2,if_neg (by decide),if_neg (by omega),if_neg (by rw[h];decide)]
theorem OX {g s e:Int}{l:List En}(he:Xj g s l=e) (h0:e≠0):Qo g s l=e∧Zp g s l=0∧Qh g s l=(0,0):=by
 have h1:Qo g s l=e:=by unfold Qo;rw[he,if_pos h0]
 refine⟨h1,?_,?_⟩
 ·unfold Zp;rw[he,if_neg (fun h=>h0 h.1)]
 ·unfold Qh;rw[h1,if_neg h0]
theorem OS {g s:Int}{l:List En}(he:Xj g s l=0) (hw:0≤VD g s l):Qo g s l=90∧Zp g s l=VD g s l∧Qh g s l=(0,0):=by
 have h1:Qo g s l=90:=by unfold Qo;rw[he,if_neg (by decide),if_pos hw]
 refine⟨h1,?_,?_⟩
 ·unfold Zp;rw[if_pos ⟨he,hw⟩]
 ·unfold Qh;rw[h1,if_neg (by decide)]
theorem IC {g s:Int}{l:List En}(he:Xj g s l=0) (hw:¬ 0≤VD g s l):Qo g s l=0∧Zp g s l=0∧Qh g s l=stB g s l l.length∧Zl g s l=(List.range (l.length+1)).map (stB g s l):=by
 have h1:Qo g s l=0:=by unfold Qo;rw[he,if_neg (by decide),if_neg hw]
 refine⟨h1,?_,?_,?_⟩
 ·unfold Zp;rw[if_neg (fun h=>hw h.2)]
 ·unfold Qh;rw[if_pos h1]
 ·unfold Zl;rw[Ln (DQ.1 (by omega))]
theorem RS:RP:=SC fun g s l hl=>by
 unfold Yj;(try delta lI gD sT I64);simp only[List.any_cons,List.any_nil,Bool.or_false,Bool.not_not,←nIb,List.length_cons,List.length_nil,Q7o,Q8h,Q7f,Bool.true_eq_false,true_and,and_true,decide_eq_true_eq,decide_eq_false_iff_not,Bool.not_eq_true',Bool.not_eq_false',Int.toNat_natCast,Int.ofNat_lt,gt_iff_lt,ge_iff_le,false_implies,Bool.false_eq_true,Bool.or_false,implies_true,forall_const];have R0:∀ {e:Int},Xj g s l=e→e≠0→(0=(Qh g s l).1∧0=(Qh g s l).2)∧0=Zp g s l∧e=Qo g s l:=fun he h0=>by obtain⟨a,b,c⟩:=OX he h0;rw[a,b,c];exact⟨⟨rfl,rfl⟩,rfl,rfl⟩
 refine⟨by omega,fun h1=>⟨fun _=>R0 (Q7m h1) (by decide),fun h=>by rw[h1] at h;cases h⟩,fun h1=>⟨by omega,fun h2=>R0 (Q8x h2) (by decide),fun h2=>⟨fun h3=>R0 (Z12 h1 h2 h3) (by decide),fun h3=>⟨by omega,fun h4=>R0 (Q8b h1 h2 h3 h4) (by decide),fun h4=>?_⟩⟩⟩⟩;have he:=Z14 h1 h2 h3 h4;refine⟨CS he,fun hw=>?_,fun hw=>?_⟩
 ·obtain⟨a,b,c⟩:=OS he hw;rw[a,b,c];exact⟨⟨rfl,rfl⟩,rfl,rfl⟩
 ·obtain⟨a,b,c,d⟩:=IC he hw;rw[a,b,c,d,Q14 (by omega)];exact⟨by omega,by simp,⟨rfl,rfl⟩,rfl,rfl⟩
end Go.Proofs.Tryz
set_option linter.unusedVariables false
namespace Go.Proofs.Tryz
open Go Go.V Go.Proofs
abbrev Lot:=Int×(Int×Int)×Int
def XG:Lot:=(0,((0,0),0))
def XV (x:Lot):Bool:=inI x.1 0 9&&(inI x.2.1.1 0 1000&&inI x.2.1.2 0 1000)&&decide (x.2.1.1≤x.2.1.2)&&inI x.2.2 1 1000000
def ZB (l:List Lot):Int:=if 12<l.length then 5 else if l.any (fun x=>!XV x) then 2 else 0
def Oq (a b:Lot):Int:=GY (a.2.1.2-b.2.1.1) (b.2.1.2-a.2.1.1)
def Q6s (s:Int×Int×Int×Int) (y:Lot):Int×Int×Int×Int:=(GY s.1 y.2.1.1,Lj s.2.1 y.2.1.2,Lj s.2.2.1 y.2.1.1,GY s.2.2.2 y.2.1.2)
def U2 (l:List Lot) (k:Nat):Int×Int×Int×Int:=(l.take k).foldl Q6s ((l.getD 0 XG).2.1.1,(l.getD 0 XG).2.1.2,(l.getD 0 XG).2.1.1,(l.getD 0 XG).2.1.2)
def Q0n (l:List Lot):Sp:=(GY 0 ((U2 l l.length).1-(U2 l l.length).2.1),(U2 l l.length).2.2.2-(U2 l l.length).2.2.1)
def V3 (l:List Lot) (sm:List Int):List Lot:=sm.map fun i=>l.getD i.toNat XG
theorem D5 {x:Lot}:XV x=true↔(0≤x.1∧x.1≤9)∧(0≤x.2.1.1∧x.2.1.1≤1000)∧(0≤x.2.1.2∧x.2.1.2≤1000)∧x.2.1.1≤x.2.1.2∧1≤x.2.2∧x.2.2≤1000000:=by simp only[XV,inI,Bool.and_eq_true,decide_eq_true_eq];omega
theorem AW {l:List Lot}(h:l≠[]):U2 l 1=((l.getD 0 XG).2.1.1,(l.getD 0 XG).2.1.2,(l.getD 0 XG).2.1.1,(l.getD 0 XG).2.1.2):=by
 cases l with
 |nil=>exact(h rfl).elim
 |cons x l =>
  have g:∀ a:Int,GY a a=a:=fun a=>by rw[W8];omega
  have m:∀ a:Int,Lj a a=a:=fun a=>by rw[G6];omega
  simp[U2,Q6s,g,m]
theorem L9 {l:List Lot}{k:Nat}(h:k<l.length):U2 l (k+1)=Q6s (U2 l k) l[k]:=by unfold U2;rw[Zq h,List.foldl_append];rfl
theorem HR {l:List Lot}(h:l≠[]):∀ k,1≤k→k≤l.length →
  (∀ i,i<k→(l.getD i XG).2.1.1≤(U2 l k).1∧(U2 l k).2.1≤(l.getD i XG).2.1.2∧(U2 l k).2.2.1≤(l.getD i XG).2.1.1∧(l.getD i XG).2.1.2≤(U2 l k).2.2.2) ∧
  (∃ i,i<k∧(U2 l k).1=(l.getD i XG).2.1.1)∧(∃ i,i<k∧(U2 l k).2.1=(l.getD i XG).2.1.2)∧(∃ i,i<k∧(U2 l k).2.2.1=(l.getD i XG).2.1.1)∧∃ i,i<k∧(U2 l k).2.2.2=(l.getD i XG).2.1.2
 |0,h1,_=>by omega
 |1,_,_=>by
  rw[AW h];refine⟨fun i hi=>?_,⟨0,by omega,rfl⟩,⟨0,by omega,rfl⟩,⟨0,by omega,rfl⟩,⟨0,by omega,rfl⟩⟩;have:i=0:=by omega
  subst this;exact⟨Int.le_refl _,Int.le_refl _,Int.le_refl _,Int.le_refl _⟩
 |k+2,_,hk=>by
  obtain⟨a,⟨i1,b1,c1⟩,⟨i2,b2,c2⟩,⟨i3,b3,c3⟩,⟨i4,b4,c4⟩⟩:=HR h (k+1) (by omega) (by omega);rw[L9 (show k+1<l.length by omega)];have aV:l.getD (k+1) XG=l[k+1]:=Q5 (by omega);have e1:=W8 (U2 l (k+1)).1 l[k+1].2.1.1;have e2:=G6 (U2 l (k+1)).2.1 l[k+1].2.1.2;have e3:=G6 (U2 l (k+1)).2.2.1 l[k+1].2.1.1;have e4:=W8 (U2 l (k+1)).2.2.2 l[k+1].2.1.2;unfold Q6s;dsimp only;refine⟨fun i hi=>?_,?_,?_,?_,?_⟩
  ·by_cases h5:i=k+1
   ·subst h5;rw[aV];omega
   ·have:=a i (by omega);omega
  ·by_cases h5:(U2 l (k+1)).1≤l[k+1].2.1.1
   ·exact⟨k+1,by omega,by rw[aV];omega⟩
   ·exact⟨i1,by omega,by omega⟩
  ·by_cases h5:l[k+1].2.1.2≤(U2 l (k+1)).2.1
   ·exact⟨k+1,by omega,by rw[aV];omega⟩
   ·exact⟨i2,by omega,by omega⟩
  ·by_cases h5:l[k+1].2.1.1≤(U2 l (k+1)).2.2.1
   ·exact⟨k+1,by omega,by rw[aV];omega⟩
   ·exact⟨i3,by omega,by omega⟩
  ·by_cases h5:(U2 l (k+1)).2.2.2≤l[k+1].2.1.2
   ·exact⟨k+1,by omega,by rw[aV];omega⟩
   ·exact⟨i4,by omega,by omega⟩
end Go.Proofs.Tryz
set_option linter.unusedVariables false
namespace Go.Proofs.Tryz
open Go Go.V Go.Proofs
def Mb:AL (Int×Int×Int×Int):=(.one (.agg (.cons (.k (.i .i64)) (.cons (.k (.i .i64)) (.cons (.k (.i .i64)) (.one (.k (.i .i64))))))))
def P3 (d:Int×Int×Int×Int):Prop:=True
def Uw (d:Int×Int×Int×Int):SV:=.val .bo (XV (d.1,(d.2.1,d.2.2.1),d.2.2.2))
def UB (d:Int×Int×Int×Int):List OB:=[]
def VH:CSp:=XE Mb P3 Uw UB
def Wp (lc:Int) (lo:Int) (hi:Int) (lg:Int):Prop :=
 ([lc].length≤1000000)∧((!([lc].any fun n=>decide (n<(0:Int))||decide ((9:Int)<n)))=true→True)∧((!([lc].any fun n=>decide (n<(0:Int))||decide ((9:Int)<n)))=true→[lo,hi].length≤1000000)∧((((!([lc].any fun n=>decide (n<(0:Int))||decide ((9:Int)<n)))&&(!([lo,hi].any fun n=>decide (n<(0:Int))||decide ((1000:Int)<n))))&&(decide (lo≤hi)))=true→True)∧((((!([lc].any fun n=>decide (n<(0:Int))||decide ((9:Int)<n)))&&(!([lo,hi].any fun n=>decide (n<(0:Int))||decide ((1000:Int)<n))))&&(decide (lo≤hi)))=true→[lg].length≤1000000)∧(((((!([lc].any fun n=>decide (n<(0:Int))||decide ((9:Int)<n)))&&(!([lo,hi].any fun n=>decide (n<(0:Int))||decide ((1000:Int)<n))))&&(decide (lo≤hi)))&&(!([lg].any fun n=>decide (n<(1:Int))||decide ((1000000:Int)<n))))=(XV (lc,(lo,hi),lg))∧(True))
def NZ:Cx:=⟨[(3,(.i .i64))],[(46,Zf)],32,[],0,[],[],[],[],false,[],[],[],[]⟩
def TN (lc:Int) (lo:Int) (hi:Int) (lg:Int):List (Nat×LoopAnn):=[]
set_option maxRecDepth 100000 in
theorem Tl (d:Int×Int×Int×Int):gwp (NZ) (TN d.1 d.2.1 d.2.2.1 d.2.2.2) c73 0 (WI [.tmp 2] (Uw d) (UB d)) (Qs 32 (AL.can Mb d))=Wp d.1 d.2.1 d.2.2.1 d.2.2.2:=by kernel_rfl
abbrev Tw:Prop:=OkC Tryz.prog 73 VH
theorem Tg (h:∀ (lc:Int) (lo:Int) (hi:Int) (lg:Int),(True)→Wp lc lo hi lg):OkC Tryz.prog 73 VH :=
 QA Q4m mixed (C:=NZ) (V:=fun (d:Int×Int×Int×Int)=>Wp d.1 d.2.1 d.2.2.1 d.2.2.2) ⟨(.cons Zz .nil),XsOk.nil,ItsOk.nil,YlOk.nil,IysOk.nil,XfOk.nil⟩ (Tl) fun d hp=>h d.1 d.2.1 d.2.2.1 d.2.2.2 hp
theorem Tv:Tw:=Tg fun lc lo hi lg _=>by unfold Wp;(try delta lI gD sT I64);have e:∀ n a b:Int,(decide (n<a)||decide (b<n))=!inI n a b:=fun n a b=>(nIb n a b).symm;simp only[List.any_cons,List.any_nil,Bool.or_false,e,Bool.not_not,List.length_cons,List.length_nil,Bool.not_or];refine⟨by omega,fun _=>trivial,fun _=>by omega,fun _=>trivial,fun _=>by omega,?_⟩;and_intros<;>first|rfl|trivial
def U9:AL (Int×Int×Int×Int):=(.one (.agg (.cons (.k (.i .i64)) (.cons (.k (.i .i64)) (.cons (.k (.i .i64)) (.one (.k (.i .i64))))))))
def DG (d:Int×Int×Int×Int):Prop:=True
def VC (d:Int×Int×Int×Int):SV:=.val .bo (!XV (d.1,(d.2.1,d.2.2.1),d.2.2.2))
def Vx (d:Int×Int×Int×Int):List OB:=[]
def K0:CSp:=XE U9 DG VC Vx
def Xm (lc:Int) (lo:Int) (hi:Int) (lg:Int):Prop :=
 (True)∧((!(XV (lc,(lo,hi),lg)))=(!XV (lc,(lo,hi),lg))∧(True))
def V_:Cx:=⟨[],[(73,VH)],6,[],0,[],[],[],[],false,[],[],[],[]⟩
def BD (lc:Int) (lo:Int) (hi:Int) (lg:Int):List (Nat×LoopAnn):=[]
set_option maxRecDepth 100000 in
theorem B_ (d:Int×Int×Int×Int):gwp (V_) (BD d.1 d.2.1 d.2.2.1 d.2.2.2) c72 0 (WI [.tmp 2] (VC d) (Vx d)) (Qs 6 (AL.can U9 d))=Xm d.1 d.2.1 d.2.2.1 d.2.2.2:=by kernel_rfl
abbrev BC:Prop:=OkC Tryz.prog 72 K0
theorem BV (h:∀ (lc:Int) (lo:Int) (hi:Int) (lg:Int),(True)→Xm lc lo hi lg):OkC Tryz.prog 72 K0 :=
 QA Q3v mixed (C:=V_) (V:=fun (d:Int×Int×Int×Int)=>Xm d.1 d.2.1 d.2.2.1 d.2.2.2) ⟨(.cons Tv .nil),XsOk.nil,ItsOk.nil,YlOk.nil,IysOk.nil,XfOk.nil⟩ (B_) fun d hp=>h d.1 d.2.1 d.2.2.1 d.2.2.2 hp
theorem BU:BC:=BV fun lc lo hi lg _=>by unfold Xm;(try delta lI gD sT I64);and_intros<;>first|rfl|trivial
def Q_:AL ((List (Int×(Int×Int)×Int))×((Int×(Int×Int)×Int→Prop)×(Int×(Int×Int)×Int→Bool))):=(.cons (.k (.list (.pair (.i .i64) (.pair (.pair (.i .i64) (.i .i64)) (.i .i64))))) (.one (.fn [(.pair (.i .i64) (.pair (.pair (.i .i64) (.i .i64)) (.i .i64)))] .bo)))
def J0 (d:(List (Int×(Int×Int)×Int))×((Int×(Int×Int)×Int→Prop)×(Int×(Int×Int)×Int→Bool))):Prop:=d.1.length≤1000000∧∀ x∈d.1,d.2.1 x
def QZ (d:(List (Int×(Int×Int)×Int))×((Int×(Int×Int)×Int→Prop)×(Int×(Int×Int)×Int→Bool))):SV:=.val (.i .i64) (Sg d.1 d.2.2)
def QX (d:(List (Int×(Int×Int)×Int))×((Int×(Int×Int)×Int→Prop)×(Int×(Int×Int)×Int→Bool))):List OB:=[]
def Qr:CSp:=XE Q_ J0 QZ QX
def Qe (l:List (Int×(Int×Int)×Int)) (p:(Int×(Int×Int)×Int→Prop)×(Int×(Int×Int)×Int→Bool)):Prop :=
 ∃ (e2:Unit) (d20:Int),((l=l∧(SV.pf [(.pair (.i .i64) (.pair (.pair (.i .i64) (.i .i64)) (.i .i64)))] .bo p.1 p.2=SV.pf [(.pair (.i .i64) (.pair (.pair (.i .i64) (.i .i64)) (.i .i64)))] .bo p.1 p.2)∧(lI l)=(lI l)∧(0:Int)=d20∧True)∧(True)) ∧
 LoopP (fun (d2:Int) (q2:(Int)→Prop) =>
  ((decide (d2<(lI l)))=true →
   (0≤d2)∧(d2<(List.length l))∧(p.1 ((gD l d2 (0,((0,0),0))).1,(((gD l d2 (0,((0,0),0))).2.1.1,(gD l d2 (0,((0,0),0))).2.1.2),(gD l d2 (0,((0,0),0))).2.2)))∧((p.2 ((gD l d2 (0,((0,0),0))).1,(((gD l d2 (0,((0,0),0))).2.1.1,(gD l d2 (0,((0,0),0))).2.1.2),(gD l d2 (0,((0,0),0))).2.2)))=true →
    (d2=(Sg l p.2)∧(True))) ∧
   ((p.2 ((gD l d2 (0,((0,0),0))).1,(((gD l d2 (0,((0,0),0))).2.1.1,(gD l d2 (0,((0,0),0))).2.1.2),(gD l d2 (0,((0,0),0))).2.2)))=false →
    (I64 (d2+(1:Int)))∧(∃ d3:Int,((l=l∧(SV.pf [(.pair (.i .i64) (.pair (.pair (.i .i64) (.i .i64)) (.i .i64)))] .bo p.1 p.2=SV.pf [(.pair (.i .i64) (.pair (.pair (.i .i64) (.i .i64)) (.i .i64)))] .bo p.1 p.2)∧(lI l)=(lI l)∧(d2+(1:Int))=d3∧True)∧(True))∧q2 d3))) ∧
  ((decide (d2<(lI l)))=false →
   ((-1:Int)=(Sg l p.2)∧(True)))) d20
def Z3:Cx:=⟨[],[],19,[],0,[],[],[],[],false,[],[],[],[]⟩
def Jl (l:List (Int×(Int×Int)×Int)) (p:(Int×(Int×Int)×Int→Prop)×(Int×(Int×Int)×Int→Bool)):List (Nat×LoopAnn):=[(0,⟨Unit,Int,[0,1,7,8],fun e x=>[.val (.list (.pair (.i .i64) (.pair (.pair (.i .i64) (.i .i64)) (.i .i64)))) l,.pf [(.pair (.i .i64) (.pair (.pair (.i .i64) (.i .i64)) (.i .i64)))] .bo p.1 p.2,.val (.i .i64) (((List.length l):Nat):Int),.val (.i .i64) x],fun e x=>[]⟩)]
set_option maxRecDepth 100000 in
theorem Jd (d:(List (Int×(Int×Int)×Int))×((Int×(Int×Int)×Int→Prop)×(Int×(Int×Int)×Int→Bool))):gwp (Z3) (Jl d.1 d.2) c97 0 (WI [.tmp 4] (QZ d) (QX d)) (Qs 19 (AL.can Q_ d))=Qe d.1 d.2:=by kernel_rfl
abbrev Jf:Prop:=OkC Tryz.prog 97 Qr
theorem Jm (h:∀ (l:List (Int×(Int×Int)×Int)) (p:(Int×(Int×Int)×Int→Prop)×(Int×(Int×Int)×Int→Bool)),(l.length≤1000000∧∀ x∈l,p.1 x)→Qe l p):OkC Tryz.prog 97 Qr :=
 QA Q5r mixed (C:=Z3) (V:=fun (d:(List (Int×(Int×Int)×Int))×((Int×(Int×Int)×Int→Prop)×(Int×(Int×Int)×Int→Bool)))=>Qe d.1 d.2) ⟨.nil,XsOk.nil,ItsOk.nil,YlOk.nil,IysOk.nil,XfOk.nil⟩ (Jd) fun d hp=>h d.1 d.2 hp
theorem Jo:Jf:=Jm fun l p hp=>by
 unfold Qe;(try delta lI gD sT I64);simp only[true_and,and_true,exists_eq_left',exists_const,decide_eq_true_eq,decide_eq_false_iff_not];refine LoopP.count l.length (fun k=>(l.take k).any p.2=false) (by simp) fun k aV hJ q hq=>?_;simp only[Int.toNat_natCast,Int.ofNat_lt,QN];refine⟨fun ah=>?_,fun a_=>?_⟩
 ·have ah:k<l.length:=by omega
  rw[Q5 ah];refine⟨by omega,by omega,hp.2 _ (List.getElem_mem ah),fun hx=>?_,fun hx=>⟨by omega,hq ah ?_⟩⟩
  ·rw[HV ah hx hJ]
  ·rw[Zq ah,List.any_append,hJ];simp[hx]
 ·rw[List.take_of_length_le (by omega)] at hJ;rw[D7 hJ]
def QP:AL ((List (Int×(Int×Int)×Int))×((Int×(Int×Int)×Int→Prop)×(Int×(Int×Int)×Int→Bool))):=(.cons (.k (.list (.pair (.i .i64) (.pair (.pair (.i .i64) (.i .i64)) (.i .i64))))) (.one (.fn [(.pair (.i .i64) (.pair (.pair (.i .i64) (.i .i64)) (.i .i64)))] .bo)))
def ZE (d:(List (Int×(Int×Int)×Int))×((Int×(Int×Int)×Int→Prop)×(Int×(Int×Int)×Int→Bool))):Prop:=d.1.length≤1000000∧∀ x∈d.1,d.2.1 x
def QJ (d:(List (Int×(Int×Int)×Int))×((Int×(Int×Int)×Int→Prop)×(Int×(Int×Int)×Int→Bool))):SV:=.val .bo (d.1.any d.2.2)
def QK (d:(List (Int×(Int×Int)×Int))×((Int×(Int×Int)×Int→Prop)×(Int×(Int×Int)×Int→Bool))):List OB:=[]
def Qb:CSp:=XE QP ZE QJ QK
def Q9 (l:List (Int×(Int×Int)×Int)) (p:(Int×(Int×Int)×Int→Prop)×(Int×(Int×Int)×Int→Bool)):Prop :=
 (l.length≤1000000∧∀ x∈l,(fun (x1:Int×(Int×Int)×Int)=>p.1 (x1.1,((x1.2.1.1,x1.2.1.2),x1.2.2))) x)∧((decide ((Sg l (fun (x1:Int×(Int×Int)×Int)=>(p.2 (x1.1,((x1.2.1.1,x1.2.1.2),x1.2.2)))))≥(0:Int)))=(l.any p.2)∧(True))
def QT:Cx:=⟨[],[(97,Qr)],9,[],0,[],[],[],[],false,[],[],[],[]⟩
def ZX (l:List (Int×(Int×Int)×Int)) (p:(Int×(Int×Int)×Int→Prop)×(Int×(Int×Int)×Int→Bool)):List (Nat×LoopAnn):=[]
set_option maxRecDepth 100000 in
theorem ZP (d:(List (Int×(Int×Int)×Int))×((Int×(Int×Int)×Int→Prop)×(Int×(Int×Int)×Int→Bool))):gwp (QT) (ZX d.1 d.2) c71 0 (WI [.tmp 4] (QJ d) (QK d)) (Qs 9 (AL.can QP d))=Q9 d.1 d.2:=by kernel_rfl
abbrev ZR:Prop:=OkC Tryz.prog 71 Qb
theorem ZN (h:∀ (l:List (Int×(Int×Int)×Int)) (p:(Int×(Int×Int)×Int→Prop)×(Int×(Int×Int)×Int→Bool)),(l.length≤1000000∧∀ x∈l,p.1 x)→Q9 l p):OkC Tryz.prog 71 Qb :=
 QA Q38 mixed (C:=QT) (V:=fun (d:(List (Int×(Int×Int)×Int))×((Int×(Int×Int)×Int→Prop)×(Int×(Int×Int)×Int→Bool)))=>Q9 d.1 d.2) ⟨(.cons Jo .nil),XsOk.nil,ItsOk.nil,YlOk.nil,IysOk.nil,XfOk.nil⟩ (ZP) fun d hp=>h d.1 d.2 hp
theorem QR:ZR:=ZN fun l p hp=>by simp only[Q9];exact⟨hp,SE l p.2,trivial⟩
def NS:AL (List (Int×(Int×Int)×Int)):=(.one (.k (.list (.pair (.i .i64) (.pair (.pair (.i .i64) (.i .i64)) (.i .i64))))))
def HS (d:List (Int×(Int×Int)×Int)):Prop:=d.length≤1000
def UD (d:List (Int×(Int×Int)×Int)):SV:=.val (.i .i64) (ZB d)
def UG (d:List (Int×(Int×Int)×Int)):List OB:=[]
def Yp:CSp:=XE NS HS UD UG
def Wn (l:List (Int×(Int×Int)×Int)):Prop :=
 ((decide ((lI l) > (12:Int)))=true →
  ((5:Int)=(ZB l)∧(True))) ∧
 ((decide ((lI l) > (12:Int)))=false →
  (l.length≤1000000∧∀ x∈l,(fun (x1:Int×(Int×Int)×Int)=>True) x)∧((l.any (fun (x1:Int×(Int×Int)×Int)=>(!XV (x1.1,(x1.2.1.1,x1.2.1.2),x1.2.2))))=true →
   ((2:Int)=(ZB l)∧(True))) ∧
  ((l.any (fun (x1:Int×(Int×Int)×Int)=>(!XV (x1.1,(x1.2.1.1,x1.2.1.2),x1.2.2))))=false →
   ((0:Int)=(ZB l)∧(True))))
def NV:Cx:=⟨[],[(71,Qb),(72,K0)],10,[],0,[],[],[],[],false,[],[],[],[]⟩
def Tc (l:List (Int×(Int×Int)×Int)):List (Nat×LoopAnn):=[]
set_option maxRecDepth 100000 in
theorem TG (d:List (Int×(Int×Int)×Int)):gwp (NV) (Tc d) c45 0 (WI [.tmp 2] (UD d) (UG d)) (Qs 10 (AL.can NS d))=Wn d:=by kernel_rfl
abbrev TR:Prop:=OkC Tryz.prog 45 Yp
theorem Tr (h:∀ (l:List (Int×(Int×Int)×Int)),(l.length≤1000)→Wn l):OkC Tryz.prog 45 Yp :=
 QA Q5m mixed (C:=NV) (V:=fun (d:List (Int×(Int×Int)×Int))=>Wn d) ⟨(.cons QR (.cons BU .nil)),XsOk.nil,ItsOk.nil,YlOk.nil,IysOk.nil,XfOk.nil⟩ (TG) fun d hp=>h d hp
theorem Mp:TR:=Tr fun l hl=>by
 unfold Wn;(try delta lI gD sT I64)
 (try simp only[decide_eq_true_eq,decide_eq_false_iff_not])
 refine⟨fun h1=>⟨?_,trivial⟩,fun h1=>⟨⟨by omega,fun _ _=>trivial⟩,fun h2=>⟨?_,trivial⟩,fun h2=>⟨?_,trivial⟩⟩⟩
 ·unfold ZB;rw[if_pos (by omega)]
 ·unfold ZB;rw[if_neg (by omega),if_pos h2]
 ·unfold ZB;rw[if_neg (by omega),if_neg (by rw[show (l.any fun x=>!XV x)=false from h2];decide)]
end Go.Proofs.Tryz
set_option linter.unusedVariables false
namespace Go.Proofs.Tryz
open Go Go.V Go.Proofs
def UA:AL (List (Int×(Int×Int)×Int)):=(.one (.k (.list (.pair (.i .i64) (.pair (.pair (.i .i64) (.i .i64)) (.i .i64))))))
def BI (d:List (Int×(Int×Int)×Int)):Prop:=d≠[]∧d.length≤1000∧∀ x∈d,XV x=true
def U5 (d:List (Int×(Int×Int)×Int)):SV:=.agg [.val (.i .i64) ((Q0n d).1),.val (.i .i64) ((Q0n d).2)]
def Ua (d:List (Int×(Int×Int)×Int)):List OB:=[]
def V9:CSp:=XE UA BI U5 Ua
def XR (l:List (Int×(Int×Int)×Int)):Prop :=
 (0≤(0:Int))∧((0:Int)<(List.length l))∧(0≤(0:Int))∧((0:Int)<(List.length l))∧((l=l∧True∧True∧True∧((gD l (0:Int) (0,((0,0),0))).2.1.1=(gD l (0:Int) (0,((0,0),0))).2.1.1∧(gD l (0:Int) (0,((0,0),0))).2.1.2=(gD l (0:Int) (0,((0,0),0))).2.1.2∧(([]:List SV)=[]))∧True)∧(((0:Int)=(0:Int)∧(0:Int)=(0:Int)∧(([]:List SV)=[]))∧((gD l (0:Int) (0,((0,0),0))).2.1.1=(gD l (0:Int) (0,((0,0),0))).2.1.1∧(gD l (0:Int) (0,((0,0),0))).2.1.2=(gD l (0:Int) (0,((0,0),0))).2.1.2∧(([]:List SV)=[]))∧((0:Int)=(0:Int)∧(0:Int)=(0:Int)∧(([]:List SV)=[]))∧True))∧((0≤(0:Int))∧((0:Int)<(List.length l))∧(0≤(0:Int))∧((0:Int)<(List.length l))∧((l=l∧True∧True∧True∧((gD l (0:Int) (0,((0,0),0))).2.1.1=(gD l (0:Int) (0,((0,0),0))).2.1.1∧(gD l (0:Int) (0,((0,0),0))).2.1.2=(gD l (0:Int) (0,((0,0),0))).2.1.2∧(([]:List SV)=[]))∧True)∧(((0:Int)=(0:Int)∧(0:Int)=(0:Int)∧(([]:List SV)=[]))∧((gD l (0:Int) (0,((0,0),0))).2.1.1=(gD l (0:Int) (0,((0,0),0))).2.1.1∧(gD l (0:Int) (0,((0,0),0))).2.1.2=(gD l (0:Int) (0,((0,0),0))).2.1.2∧(([]:List SV)=[]))∧((0:Int)=(0:Int)∧(0:Int)=(0:Int)∧(([]:List SV)=[]))∧True)))∧(0≤(1:Int))∧((1:Int)≤(lI l))∧((lI l)≤(List.length l))∧∃ (e3:Unit) (d30:Int×Int×Int×Int×Int),((True∧True∧True∧(List.take (Int.toNat ((lI l)-(1:Int))) (List.drop (Int.toNat (1:Int)) l))=(List.take (Int.toNat ((lI l)-(1:Int))) (List.drop (Int.toNat (1:Int)) l))∧(lI (List.take (Int.toNat ((lI l)-(1:Int))) (List.drop (Int.toNat (1:Int)) l)))=(lI (List.take (Int.toNat ((lI l)-(1:Int))) (List.drop (Int.toNat (1:Int)) l)))∧(0:Int)=d30.2.2.2.2∧True)∧(((0:Int)=(0:Int)∧(0:Int)=(0:Int)∧(([]:List SV)=[]))∧((gD l (0:Int) (0,((0,0),0))).2.1.1=d30.1∧(gD l (0:Int) (0,((0,0),0))).2.1.2=d30.2.1∧(([]:List SV)=[]))∧((gD l (0:Int) (0,((0,0),0))).2.1.1=d30.2.2.1∧(gD l (0:Int) (0,((0,0),0))).2.1.2=d30.2.2.2.1∧(([]:List SV)=[]))∧True)) ∧
 LoopP (fun (d3:Int×Int×Int×Int×Int) (q3:(Int×Int×Int×Int×Int)→Prop) =>
  ((decide (d3.2.2.2.2<(lI (List.take (Int.toNat ((lI l)-(1:Int))) (List.drop (Int.toNat (1:Int)) l)))))=true →
   (0≤d3.2.2.2.2)∧(d3.2.2.2.2<(List.length (List.take (Int.toNat ((lI l)-(1:Int))) (List.drop (Int.toNat (1:Int)) l))))∧(I64 (d3.2.2.2.2+(1:Int)))∧(∃ d4:Int×Int×Int×Int×Int,((True∧True∧True∧(List.take (Int.toNat ((lI l)-(1:Int))) (List.drop (Int.toNat (1:Int)) l))=(List.take (Int.toNat ((lI l)-(1:Int))) (List.drop (Int.toNat (1:Int)) l))∧(lI (List.take (Int.toNat ((lI l)-(1:Int))) (List.drop (Int.toNat (1:Int)) l)))=(lI (List.take (Int.toNat ((lI l)-(1:Int))) (List.drop (Int.toNat (1:Int)) l)))∧(d3.2.2.2.2+(1:Int))=d4.2.2.2.2∧True)∧(((0:Int)=(0:Int)∧(0:Int)=(0:Int)∧(([]:List SV)=[]))∧((GY d3.1 (gD (List.take (Int.toNat ((lI l)-(1:Int))) (List.drop (Int.toNat (1:Int)) l)) d3.2.2.2.2 (0,((0,0),0))).2.1.1)=d4.1∧(Lj d3.2.1 (gD (List.take (Int.toNat ((lI l)-(1:Int))) (List.drop (Int.toNat (1:Int)) l)) d3.2.2.2.2 (0,((0,0),0))).2.1.2)=d4.2.1∧(([]:List SV)=[]))∧((Lj d3.2.2.1 (gD (List.take (Int.toNat ((lI l)-(1:Int))) (List.drop (Int.toNat (1:Int)) l)) d3.2.2.2.2 (0,((0,0),0))).2.1.1)=d4.2.2.1∧(GY d3.2.2.2.1 (gD (List.take (Int.toNat ((lI l)-(1:Int))) (List.drop (Int.toNat (1:Int)) l)) d3.2.2.2.2 (0,((0,0),0))).2.1.2)=d4.2.2.2.1∧(([]:List SV)=[]))∧True))∧q3 d4)) ∧
  ((decide (d3.2.2.2.2<(lI (List.take (Int.toNat ((lI l)-(1:Int))) (List.drop (Int.toNat (1:Int)) l)))))=false →
   (I64 (d3.1-d3.2.1))∧(I64 (d3.2.2.2.1-d3.2.2.1))∧(((GY (0:Int) (d3.1-d3.2.1))=((Q0n l).1)∧(d3.2.2.2.1-d3.2.2.1)=((Q0n l).2)∧(([]:List SV)=[]))∧(True)))) d30
def UQ:Cx:=⟨[],[],61,[],0,[],[],[],[0,2,3,4,14],false,[],[],[],[]⟩
def Pk (l:List (Int×(Int×Int)×Int)):List (Nat×LoopAnn):=[(0,⟨Unit,Int×Int×Int×Int×Int,[2,3,4,16,17,18],fun e x=>[.box 2 0,.box 3 0,.box 4 0,.val (.list (.pair (.i .i64) (.pair (.pair (.i .i64) (.i .i64)) (.i .i64)))) (List.take (Int.toNat ((((List.length l):Nat):Int)-(1:Int))) (List.drop (Int.toNat (1:Int)) l)),.val (.i .i64) (((List.length (List.take (Int.toNat ((((List.length l):Nat):Int)-(1:Int))) (List.drop (Int.toNat (1:Int)) l))):Nat):Int),.val (.i .i64) x.2.2.2.2],fun e x=>[(2,.slot 2,.cells [.val (.i .i64) (0:Int),.val (.i .i64) (0:Int)] (some 37)),(3,.slot 3,.cells [.val (.i .i64) x.1,.val (.i .i64) x.2.1] (some 37)),(4,.slot 4,.cells [.val (.i .i64) x.2.2.1,.val (.i .i64) x.2.2.2.1] (some 37))]⟩)]
set_option maxRecDepth 100000 in
theorem HK (d:List (Int×(Int×Int)×Int)):gwp (UQ) (Pk d) c76 0 (WI [.cell 2 true 2] (U5 d) (Ua d)) (Qs 61 (AL.can UA d))=XR d:=by kernel_rfl
abbrev HQ:Prop:=OkC Tryz.prog 76 V9
theorem Ph (h:∀ (l:List (Int×(Int×Int)×Int)),(l≠[]∧l.length≤1000∧∀ x∈l,XV x=true)→XR l):OkC Tryz.prog 76 V9 :=
 QA Q3q mixed (C:=UQ) (V:=fun (d:List (Int×(Int×Int)×Int))=>XR d) ⟨.nil,XsOk.nil,ItsOk.nil,YlOk.nil,IysOk.nil,XfOk.nil⟩ (HK) fun d hp=>h d hp
theorem PR:HQ:=Ph fun l h=>by
 obtain⟨h1,h2,h3⟩:=h;have hp:1≤l.length:=List.length_pos_iff.2 h1;unfold XR;(try delta lI gD sT I64);simp only[decide_eq_true_eq,decide_eq_false_iff_not];have hM:List.take ((l.length:Int)-1).toNat (List.drop (Int.toNat 1) l)=l.drop 1:=List.take_of_length_le (by rw[List.length_drop];show l.length-1≤_;omega);have tH:(l.drop 1).length=l.length-1:=List.length_drop ..;have cO:∀ k,k+1<l.length→(l.drop 1).getD k (0,((0,0),0))=l[k+1]?.getD XG:=fun k hk=>by rw[Q5 (by omega),List.getElem_drop,List.getElem?_eq_getElem hk];simp only[Option.getD_some,Nat.add_comm]
 have h0:l.getD (Int.toNat 0) (0,((0,0),0))=l.getD 0 XG:=rfl;have s1:=AW h1;rw[hM,h0];refine⟨by omega,by omega,by omega,by omega,(by and_intros<;>first|rfl|trivial|simp),⟨by omega,by omega,by omega,by omega,(by and_intros<;>first|rfl|trivial|simp)⟩,by omega,by omega,by omega,(),((U2 l 1).1,(U2 l 1).2.1,(U2 l 1).2.2.1,(U2 l 1).2.2.2,0),by rw[s1];exact(by and_intros<;>first|rfl|trivial|simp),?_⟩;refine⟨fun d=>∃ k:Nat,k+1≤l.length∧d=((U2 l (k+1)).1,(U2 l (k+1)).2.1,(U2 l (k+1)).2.2.1,(U2 l (k+1)).2.2.2,(k:Int)),fun d=>l.length-d.2.2.2.2.toNat,⟨0,hp,rfl⟩,?_⟩;rintro _ ⟨k,hk,rfl⟩;dsimp only;simp only[Int.toNat_natCast,tH];refine⟨fun ah=>?_,fun a_=>?_⟩
 ·have aV:k+1<l.length:=by omega
  rw[cO k aV,List.getElem?_eq_getElem aV,Option.getD_some];have hs:=L9 aV;refine⟨by omega,by omega,by rw[QN];omega,((U2 l (k+1+1)).1,(U2 l (k+1+1)).2.1,(U2 l (k+1+1)).2.2.1,(U2 l (k+1+1)).2.2.2,(k:Int)+1),by rw[hs];exact(by and_intros<;>first|rfl|trivial|simp),⟨k+1,by omega,by simp⟩,?_⟩;dsimp only;omega
 ·have aM:k+1=l.length:=by omega
  obtain⟨a,⟨i1,b1,c1⟩,⟨i2,b2,c2⟩,⟨i3,b3,c3⟩,⟨i4,b4,c4⟩⟩:=HR h1 l.length hp (Nat.le_refl _);have hv:∀ i,i<l.length→0≤(l.getD i XG).2.1.1∧(l.getD i XG).2.1.1≤1000∧0≤(l.getD i XG).2.1.2∧(l.getD i XG).2.1.2≤1000:=fun i hi=>by have:=D5.1 (h3 _ (List.getElem_mem hi));rw[Q5 hi];omega
  have v1:=hv i1 b1;have v2:=hv i2 b2;have v3:=hv i3 b3;have v4:=hv i4 b4;rw[aM];unfold Q0n;refine⟨by rw[QN];omega,by rw[QN];omega,?_⟩;and_intros<;>first|rfl|trivial
theorem Ic {l:List Lot}(h:ZB l=0):l.length≤12∧∀ x∈l,XV x=true:=by
 unfold ZB at h;split at h
 ·cases h
 ·split at h
  ·cases h
  ·rename_i h1 h2;refine⟨by omega,fun x hx=>?_⟩;have:=List.any_eq_false.1 (Bool.eq_false_iff.2 h2) x hx;simpa using this
theorem EJ {l:List Lot}{sm:List Int}{k:Nat}(h:k<sm.length):V3 l (sm.take (k+1))=V3 l (sm.take k)++[l.getD (sm.getD k 0).toNat XG]:=by unfold V3;rw[Zq h,List.map_append,Q5 h];rfl
theorem OT {l:List Lot}{sm:List Int}(h:∀ x∈l,XV x=true) (hs:∀ i∈sm,0≤i∧i<l.length):∀ x∈V3 l sm,XV x=true:=fun x hx=>by simp only[V3,List.mem_map] at hx;obtain⟨i,hi,rfl⟩:=hx;have:=hs i hi;rw[Q5 (show i.toNat<l.length by omega)];exact h _ (List.getElem_mem _)
end Go.Proofs.Tryz
set_option linter.unusedVariables false
namespace Go.Proofs.Tryz
open Go Go.V Go.Proofs
def tzK:Nat→Nat→Nat
 |0,_=>0
 |f+1,n=>if n % 2=1 then 0 else 1+tzK f (n / 2)
def tzN (n:Nat):Nat:=if n=0 then 64 else tzK 64 n
theorem Ai:∀ f n,0<n→n<2 ^ f→tzK f n<f∧∃ m,n=2 ^ tzK f n*(2*m+1)
 |0,n,h0,h1=>by simp at h1;omega
 |f+1,n,h0,h1=>by
  unfold tzK;split
  ·rename_i h;exact⟨by omega,n / 2,by omega⟩
  ·rename_i h;have hp:2 ^ (f+1)=2*2 ^ f:=by rw[Nat.pow_succ];omega
   obtain⟨h2,m,h3⟩:=Ai f (n / 2) (by omega) (by omega);refine⟨by omega,m,?_⟩;rw[Nat.add_comm,Nat.pow_succ,Nat.mul_comm (2 ^ _) 2,Nat.mul_assoc,←h3];omega
theorem Nl {n:Nat}(h0:0<n) (h1:n<2 ^ 64):tzN n<64∧∃ m,n=2 ^ tzN n*(2*m+1):=by unfold tzN;rw[if_neg (by omega)];exact Ai 64 n h0 h1
theorem LY {t m:Nat}(i:Nat):(2 ^ t*(2*m+1)-1).testBit i=if i<t then true else if i=t then false else (2 ^ t*(2*m+1)).testBit i:=by
 have hp:0<2 ^ t:=Nat.two_pow_pos t;have e:2 ^ t*(2*m+1)-1=2 ^ t*(2*m)+(2 ^ t-1):=by rw[Nat.mul_add,Nat.mul_one];omega
 rw[e,Nat.testBit_two_pow_mul_add _ (by omega)];split
 ·rename_i h;rw[Nat.testBit_two_pow_sub_one];simpa using h
 ·rename_i h;split
  ·rename_i h2;subst h2;simp
  ·rename_i h2;rw[Nat.testBit_two_pow_mul];obtain⟨k,hk⟩:∃ k,i-t=k+1:=⟨i-t-1,by omega⟩;have hd:decide (i≥t)=true:=decide_eq_true (by omega);rw[hd,hk,Nat.testBit_succ,Nat.testBit_succ,Bool.true_and];congr 1;omega
theorem Q24 {n:Nat}(h0:0<n) (h1:n<2 ^ 64):n &&& (2 ^ 64-n)=2 ^ tzN n:=by
 obtain⟨ht,m,hm⟩:=Nl h0 h1;generalize tzN n=t at *
 refine Nat.eq_of_testBit_eq fun i=>?_;have e:2 ^ 64-n=2 ^ 64-((n-1)+1):=by omega
 rw[Nat.testBit_and,e,Nat.testBit_two_pow_sub_succ (by omega),Nat.testBit_two_pow,hm,LY];by_cases h2:i<t
 ·rw[if_pos h2,Nat.testBit_two_pow_mul,decide_eq_false (show ¬ i≥t by omega),decide_eq_false (show ¬ t=i by omega)];rfl
 ·rw[if_neg h2];by_cases h3:i=t
  ·subst h3;rw[if_pos rfl,Nat.testBit_two_pow_mul];simp;omega
  ·rw[if_neg h3,decide_eq_false (show ¬ t=i by omega)];cases (2 ^ t*(2*m+1)).testBit i<;>simp
theorem D8 {n:Nat}(h0:0<n) (h1:n<2 ^ 64) (i:Nat):(n &&& (n-1)).testBit i=(n.testBit i&&!decide (i=tzN n)):=by
 obtain⟨ht,m,hm⟩:=Nl h0 h1;generalize tzN n=t at *
 rw[Nat.testBit_and,hm,LY];by_cases h2:i<t
 ·rw[if_pos h2,decide_eq_false (by omega)];simp
 ·rw[if_neg h2];by_cases h3:i=t
  ·rw[if_pos h3,decide_eq_true h3];simp
  ·rw[if_neg h3,decide_eq_false h3];simp
def T_:Nat→Nat→List Int
 |0,_=>[]
 |f+1,n=>if n=0 then [] else (tzN n:Int)::T_ f (n &&& (n-1))
def Qm (n:Nat):List Int:=T_ n n
theorem LU:∀ f g n,n≤f→n≤g→T_ f n=T_ g n
 |0,g,n,h1,_=>by
  have:n=0:=by omega
  subst this;cases g<;>simp[T_]
 |f+1,0,n,_,h2=>by
  have:n=0:=by omega
  subst this;simp[T_]
 |f+1,g+1,n,h1,h2=>by
  unfold T_;by_cases h:n=0
  ·rw[if_pos h,if_pos h]
  ·rw[if_neg h,if_neg h];have:=Nat.and_le_right (n:=n) (m:=n-1);rw[LU f g _ (by omega) (by omega)]
theorem Lx {n:Nat}(h:0<n):Qm n=(tzN n:Int)::Qm (n &&& (n-1)):=by
 have:=Nat.and_le_right (n:=n) (m:=n-1);unfold Qm;obtain⟨f,rfl⟩:∃ f,n=f+1:=⟨n-1,by omega⟩;conv=>lhs;unfold T_
 rw[if_neg (by omega),LU f _ _ (by omega) (Nat.le_refl _)]
theorem IP:Qm 0=[]:=rfl
theorem Q4i:∀ t:Nat,t<64→Go.V.t64[(2 ^ t*285870213051353865 % 18446744073709551616) / 288230376151711744]?=some (t:Int):=by decide +kernel
end Go.Proofs.Tryz
set_option linter.unusedVariables false
namespace Go.Proofs.Tryz
open Go Go.V Go.Proofs
def czT:VCode :=
 .seq (.region [
  ⟨(some 2),.move (.const (.int .i64 (0))),none⟩])
 (.seq (.seq (.region [
  ⟨(some 3),.move (.tmp 0),none⟩,
  ⟨(some 4),.cmp .eql (.tmp 3) (.const (.int .u64 (0))),none⟩])
 (.cond (.tmp 4) (.seq (.region [
   ⟨(some 2),.move (.const (.int .i64 (64))),none⟩])
  (.ret))
  (.skip)))
 (.seq (.region [
  ⟨(some 5),.move (.tmp 0),none⟩,
  ⟨(some 6),.move (.tmp 0),none⟩,
  ⟨(some 7),.un .neg (.tmp 6),none⟩,
  ⟨(some 8),.bits .and (.tmp 5) (.tmp 7),none⟩,
  ⟨(some 9),.arith .mul (.tmp 8) (.const (.int .u64 (285870213051353865))),none⟩,
  ⟨(some 10),.shift .shr (.tmp 9) (.const (.int .u64 (58))),none⟩,
  ⟨(some 11),.indexAddrArr 64 1 (.global 1) (.tmp 10),none⟩,
  ⟨(some 12),.load false 1 (.tmp 11),none⟩,
  ⟨(some 13),.convI .i64 (.tmp 12),none⟩,
  ⟨(some 2),.move (.tmp 13),none⟩])
 (.ret)))
theorem Kt {S:VSpecs}{op:VOp}{d:Option Nat}{l:List VOper}{env:Env}{σ:Heap}{K:Env→Heap→Prop}(v:Value) (h:∀ Q:Value→Heap→Prop,Q v σ→vop S op env σ Q) (hK:PJ S l (X3 env d v) σ K):PJ S (⟨d,op,none⟩::l) env σ K:=by show vif true _ _;exact⟨fun _=>h _ hK,fun h=>by cases h⟩
theorem Q2i {S:VSpecs}{op:BinOp}{x y:Operand}{env:Env}{σ:Heap}{Q:Value→Heap→Prop}{k:IntKind}{a b:Int}(hx:Q2 env x=.int k a) (hy:Q2 env y=.int k b) (h:Q (.bool (Q3o op a b)) σ):vop S (.cmp op x y) env σ Q:=by simp only[vop,Q4,hx,hy,if_true,Z5];exact h
theorem Q0h {S:VSpecs}{op:BinOp}{x y:Operand}{env:Env}{σ:Heap}{Q:Value→Heap→Prop}{k:IntKind}{a b:Int}(hx:Q2 env x=.int k a) (hy:Q2 env y=.int k b) (h:Q (.int k (H7 op k a b)) σ):vop S (.bits op x y) env σ Q:=by simp only[vop,Q4,hx,hy,if_true,Z5];exact h
theorem IH {S:VSpecs}{op:BinOp}{x y:Operand}{env:Env}{σ:Heap}{Q:Value→Heap→Prop}{k:IntKind}{a b:Int}(hx:Q2 env x=.int k a) (hy:Q2 env y=.int k b) (h:Q (.int k (Bp op k a b)) σ):vop S (.arith op x y) env σ Q:=by simp only[vop,Q4,hx,hy,if_true,Z5];exact h
theorem F_ {S:VSpecs}{op:BinOp}{x y:Operand}{env:Env}{σ:Heap}{Q:Value→Heap→Prop}{k k':IntKind}{a b:Int}(hx:Q2 env x=.int k a) (hy:Q2 env y=.int k' b) (h0:0≤b) (h:Q (.int k (Bn op k a b)) σ):vop S (.shift op x y) env σ Q:=by simp only[vop,Q4,hx,hy,h0,if_true,Z5];exact h
theorem Q04 {S:VSpecs}{x:Operand}{env:Env}{σ:Heap}{Q:Value→Heap→Prop}{k k':IntKind}{a:Int}(hx:Q2 env x=.int k a) (h:Q (.int k' (k'.wrap a)) σ):vop S (.convI k' x) env σ Q:=by simp only[vop,Q4,hx,Z5];exact h
theorem Q25 {S:VSpecs}{len size g o s:Nat}{x y:Operand}{env:Env}{σ:Heap}{Q:Value→Heap→Prop}{k':IntKind}{b:Int}(hx:Q2 env x=.pointer (some ⟨g,o,some s⟩)) (hy:Q2 env y=.int k' b) (h0:0≤b∧b<len) (h:Q (.pointer (some ⟨g,o+b.toNat*size,some s⟩)) σ):vop S (.indexAddrArr len size x y) env σ Q:=by simp only[vop,Q4,hx,hy,h0,and_self,if_true,Z5];exact h
theorem OF {S:VSpecs}{size g o s:Nat}{agg:Bool}{x:Operand}{env:Env}{σ:Heap}{Q:Value→Heap→Prop}{c:List Value}{v:Value}(hx:Q2 env x=.pointer (some ⟨g,o,some s⟩)) (hg:Oc g=some c) (hp:c.all QO=true) (hv:XF agg size c o=some v) (h:Q v σ):vop S (.load agg size x) env σ Q:=by simp only[vop,Q4,hx,hg,hp,hv,if_true,Z5];exact h
theorem RX (x:Int):IntKind.wrap .u64 x=x % 18446744073709551616:=by show (if (false&&decide (x % (18446744073709551616:Int)≥9223372036854775808))=true then x % (18446744073709551616:Int)-18446744073709551616 else x % (18446744073709551616:Int))=_;simp
theorem GX {x:Nat}(h:x<2 ^ 64):(BitVec.ofInt 64 (x:Int)).toNat=x:=by rw[FE,BitVec.toNat_ofNat,Nat.mod_eq_of_lt h]
theorem AO {x y:Nat}(hx:x<2 ^ 64) (hy:y<2 ^ 64):H7 .and .u64 x y=((x &&& y:Nat):Int):=by
 have e:(BitVec.ofInt 64 (x:Int) &&& BitVec.ofInt 64 (y:Int)).toNat=x &&& y:=by rw[BitVec.toNat_and,GX hx,GX hy]
 show IntKind.wrap .u64 ((BitVec.ofInt 64 (x:Int) &&& BitVec.ofInt 64 (y:Int)).toNat:Int)=_;have hl:x &&& y≤x:=Nat.and_le_left;rw[e,RX];omega
set_option maxHeartbeats 2000000 in
theorem Q3g {P:Program}{f:Nat}(h:Fun P f czT [.tmp 2] 14) (hm:P.follows .mixedOrders=true) {x:Int}(h0:0≤x) (h1:x≤18446744073709551615) {σ:Heap}{K:Value→Heap→Prop}(hK:K (.int .i64 (tzN x.toNat)) σ):VCalled P f [.int .u64 x] σ K:=by
 refine h.calls hm C9 ?_;obtain⟨n,rfl⟩:=Int.eq_ofNat_of_zero_le h0;have h1:n<2 ^ 64:=by omega
 rw[Int.toNat_natCast] at hK;unfold czT;refine Kt (.int .i64 0) (fun _ h=>h) ?_;refine Kt (.int .u64 n) (fun _ h=>h) ?_;refine Kt (.bool ((n:Int)==0)) (fun _ h=>Q2i (k:=.u64) (a:=n) (b:=0) rfl rfl h) ?_;show vif ((n:Int)==0) _ _;refine⟨fun hz=>?_,fun hz=>?_⟩
 ·have hz:n=0:=by have:=eq_of_beq hz;omega
  subst hz;refine Kt (.int .i64 64) (fun _ h=>h) ?_;exact⟨_,_,DropTo.refl _ _ _,hK⟩
 have hz:0<n:=by
  rcases Nat.eq_zero_or_pos n with h|h
  ·subst h;cases hz
  ·exact h
 refine Kt (.int .u64 n) (fun _ h=>h) ?_;refine Kt (.int .u64 n) (fun _ h=>h) ?_;refine Kt (.int .u64 (IntKind.u64.wrap (0-(n:Int)))) (fun _ h=>h) ?_;have hand:H7 .and .u64 n (IntKind.u64.wrap (0-(n:Int)))=((2 ^ tzN n:Nat):Int):=by
  have e:IntKind.u64.wrap (0-(n:Int))=((2 ^ 64-n:Nat):Int):=by rw[RX];omega
  rw[e,AO h1 (by omega),Q24 hz h1]
 refine Kt (.int .u64 ((2 ^ tzN n:Nat):Int)) (fun _ h=>Q0h (k:=.u64) (a:=n) (b:=IntKind.u64.wrap (0-(n:Int))) rfl rfl (by rw[hand];exact h)) ?_;have hmul:Bp .mul .u64 ((2 ^ tzN n:Nat):Int) 285870213051353865=((2 ^ tzN n*285870213051353865 % 18446744073709551616:Nat):Int):=by show IntKind.wrap .u64 (((2 ^ tzN n:Nat):Int)*285870213051353865)=_;rw[RX];omega
 refine Kt (.int .u64 ((2 ^ tzN n*285870213051353865 % 18446744073709551616:Nat):Int)) (fun _ h=>IH (k:=.u64) (a:=((2 ^ tzN n:Nat):Int)) (b:=285870213051353865) rfl rfl (by rw[hmul];exact h)) ?_;have pZ:Bn .shr .u64 ((2 ^ tzN n*285870213051353865 % 18446744073709551616:Nat):Int) 58=((2 ^ tzN n*285870213051353865 % 18446744073709551616 / 288230376151711744:Nat):Int):=by show Int.fdiv _ 288230376151711744=_;rw[Int.fdiv_eq_ediv_of_nonneg _ (by decide)];omega
 refine Kt (.int .u64 ((2 ^ tzN n*285870213051353865 % 18446744073709551616 / 288230376151711744:Nat):Int)) (fun _ h=>F_ (k:=.u64) (k':=.u64) (a:=((2 ^ tzN n*285870213051353865 % 18446744073709551616:Nat):Int)) (b:=58) rfl rfl (by decide) (by rw[pZ];exact h)) ?_;have p4:=Q4i (tzN n) (Nl hz h1).1;have ah:2 ^ tzN n*285870213051353865 % 18446744073709551616 / 288230376151711744<64:=by omega
 generalize 2 ^ tzN n*285870213051353865 % 18446744073709551616 / 288230376151711744=k at *
 refine Kt (.pointer (some ⟨1,0+(k:Int).toNat*1,some 0⟩)) (fun _ h=>Q25 (g:=1) (o:=0) (s:=0) (b:=k) (k':=.u64) rfl rfl (by omega) h) ?_;have hv:XF false 1 (Go.V.t64.map fun x=>Value.int .u8 x) (0+(k:Int).toNat*1)=some (.int .u8 (tzN n)):=by show (Go.V.t64.map fun x=>Value.int .u8 x)[0+(k:Int).toNat*1]?=_;rw[Int.toNat_natCast,Nat.mul_one,Nat.zero_add,List.getElem?_map,p4];rfl
 refine Kt (.int .u8 (tzN n)) (fun _ h=>OF (g:=1) (s:=0) (o:=0+(k:Int).toNat*1) (c:=Go.V.t64.map fun x=>Value.int .u8 x) rfl rfl (by decide) hv h) ?_;have tI:=(Nl hz h1).1;have fC:IntKind.i64.wrap (tzN n:Int)=tzN n:=InK.wrap (k:=.i64) ((QN _).2 (by omega));refine Kt (.int .i64 (tzN n)) (fun _ h=>Q04 (k:=.u8) (a:=tzN n) rfl (by rw[fC];exact h)) ?_;refine Kt (.int .i64 (tzN n)) (fun _ h=>h) ?_;exact⟨_,_,DropTo.refl _ _ _,hK⟩
theorem Eo {P:Program}{σ:Heap}{v:SV}{u:Value}(h:SR P hNil XH JZ v u):Ret P σ v [] u σ :=
 ⟨⟨.refl _,Dead.refl _⟩,fun _=>rfl,XH,fun j b hj=>by simp at hj,fun j j' i hj=>by simp at hj,h⟩
theorem IM (σ:Heap):Pz σ []=σ:=by
 unfold Pz;cases σ;simp only[List.length_nil,Nat.add_zero,List.getElem?_nil,Option.bind_none,Heap.mk.injEq,and_true];funext i;split
 ·rfl
 ·rename_i wf hi;exact(wf i (by simpa using hi)).symm
theorem Q1u {P:Program}{f:Nat}{pre:Int→Prop}{r:Int→Int}(h:∀ x,pre x→∀ (σ:Heap) (K:Value→Heap→Prop),K (.int .i64 (r x)) σ→VCalled P f [.int .u64 x] σ K) :
  OkC P f (XE (.one (.k (.i .u64)):AL Int) pre (fun d=>.val (.i .i64) (r d)) (fun _=>[])):=by
 intro ap eR σ args vs c v bs ax hs hv bR hc;unfold XE at hs;split at hs
 ·rename_i d hd;obtain⟨rfl,rfl,rfl⟩:=(by simpa using hs:pre d=c∧SV.val (.i .i64) (r d)=v∧[]=bs)
  match args,ax,hd with
  |[],_,hd=>simp[AL.dec] at hd
  |a::x::l,_,hd=>simp[AL.dec] at hd
  |[a],ax,hd =>
   simp only[AL.dec] at hd;obtain⟨u1,n7,rfl,s1,ax⟩:=ax;have ax:n7=[]:=ax;subst ax;have k1:KC σ (.i .u64) d [u1]:=QE (k:=.i .u64) hd ⟨u1,[],rfl,s1,rfl⟩;have e1:u1=.int .u64 d:=by simpa [KC] using k1
   subst e1;refine⟨h d hc σ _ (Eo (by simp[SR,KC])),fun _ _=>h d hc σ _ ⟨?_,(IM σ).symm⟩⟩;simp[V4,L5]
 ·cases hs
theorem FV {P:Program}{f:Nat}{D:Type}{l:AL D}{pre:D→Prop}{res:D→SV}{obs:D→List OB}(h:∀ d,pre d→False):OkC P f (XE l pre res obs):=by
 intro ap eR σ args vs c v bs ax hs hv bR hc;unfold XE at hs;split at hs
 ·rename_i d hd;have:pre d↔c:=by simp at hs;exact hs.1
  exact(h d (this.2 hc)).elim
 ·cases hs
end Go.Proofs.Tryz
set_option linter.unusedVariables false
namespace Go.Proofs.Tryz
open Go Go.V Go.Proofs
def Yg:AL (Int):=(.one (.k (.i .u64)))
def WX (d:Int):Prop:=0≤d∧d≤18446744073709551615
def WQ (d:Int):SV:=.val (.i .i64) ((tzN d.toNat:Nat):Int)
def WW (d:Int):List OB:=[]
def JO:CSp:=XE Yg WX WQ WW
abbrev Yf:Prop:=OkC Tryz.prog 87 JO
theorem Yq:Yf :=
 Q1u (pre:=fun x=>0≤x∧x≤18446744073709551615) (r:=fun x=>((tzN x.toNat:Nat):Int)) fun x hx σ K hK =>
  Q3g (f:=87) (by rw[show czT=c87 by kernel_rfl];exact Q4u) mixed hx.1 hx.2 hK
end Go.Proofs.Tryz
set_option linter.unusedVariables false
namespace Go.Proofs.Tryz
open Go Go.V Go.Proofs
def M7 (nc ng:Int):Bool:=inI nc 0 9&&inI ng 1 12000000
def W9 (l:List Lot) (tl:Int):Int:=if ZB l≠0 then ZB l else if !inI tl 0 1000 then 3 else 0
def XU (l:List Lot) (S:List Int):Int:=S.foldl (fun a i=>a+(l.getD i.toNat XG).2.2) 0
def O2 (tl:Int) (p:List Lot):Bool:=!(p.any fun x=>x.1 != (p.getD 0 XG).1)&&decide ((Q0n p).2≤tl)
def Bf (l:List Lot) (tl:Int) (S:List Int):Bool:=O2 tl (V3 l S)
theorem Q51 {n:Nat}(h0:0<n) (h1:n<2 ^ 64):n.testBit (tzN n)=true:=by
 obtain⟨_,m,hm⟩:=Nl h0 h1;generalize tzN n=t at *
 rw[hm,Nat.testBit_two_pow_mul];simp
theorem Hh:∀ f n,n≤f→n<2 ^ 64→∀ i:Int,i∈T_ f n↔∃ k:Nat,i=k∧n.testBit k=true
 |0,n,h1,_,i=>by
  have:n=0:=by omega
  subst this;simp[T_]
 |f+1,n,h1,h2,i=>by
  unfold T_;by_cases h:n=0
  ·subst h;simp
  ·rw[if_neg h,List.mem_cons];have hle:=Nat.and_le_right (n:=n) (m:=n-1);rw[Hh f _ (by omega) (by omega)];constructor
   ·rintro (e|⟨k,e,hb⟩)
    ·exact⟨tzN n,e,Q51 (by omega) h2⟩
    ·rw[D8 (by omega) h2] at hb;exact⟨k,e,by simp at hb;exact hb.1⟩
   ·rintro⟨k,e,hb⟩;by_cases hk:k=tzN n
    ·exact .inl (by rw[e,hk])
    ·exact .inr ⟨k,e,by rw[D8 (by omega) h2,hb,decide_eq_false hk];rfl⟩
theorem Am {n:Nat}(h:n<2 ^ 64) (i:Int):i∈Qm n↔∃ k:Nat,i=k∧n.testBit k=true:=Hh n n (Nat.le_refl _) h i
theorem AK:∀ f n,(T_ f n).length≤f
 |0,_=>by simp[T_]
 |f+1,n=>by
  unfold T_;split
  ·simp
  ·simp only[List.length_cons];have:=AK f (n &&& (n-1));omega
theorem Ah (n:Nat):(Qm n).length≤n:=AK n n
theorem Hx {n m:Nat}(h:n<2 ^ m) (hm:m≤64):∀ i∈Qm n,0≤i∧i<(m:Int):=fun i hi=>by
 have hp:2 ^ m≤2 ^ 64:=Nat.pow_le_pow_right (by omega) hm;obtain⟨k,rfl,hb⟩:=(Am (by omega) i).1 hi;have:k<m:=by
  rcases Nat.lt_or_ge k m with h2|h2
  ·exact h2
  ·rw[Nat.testBit_lt_two_pow (Nat.lt_of_lt_of_le h (Nat.pow_le_pow_right (by omega) h2))] at hb;cases hb
 omega
theorem HO {n:Nat}(h:0<n):Qm n≠[]:=by rw[Lx h];simp
theorem Dl {l:List Lot}{S:List Int}{k:Nat}(h:k<S.length):XU l (S.take (k+1))=XU l (S.take k)+(l.getD (S.getD k 0).toNat XG).2.2:=by unfold XU;rw[Zq h,List.foldl_append,Q5 h];rfl
theorem R5:∀ f n,n≤f→n<2 ^ 64→(T_ f n).Nodup
 |0,n,_,_=>by simp[T_]
 |f+1,n,h1,h2=>by
  unfold T_;by_cases h:n=0
  ·rw[if_pos h];exact List.nodup_nil
  ·rw[if_neg h,List.nodup_cons];have hle:=Nat.and_le_right (n:=n) (m:=n-1);refine⟨fun hm=>?_,R5 f _ (by omega) (by omega)⟩;obtain⟨k,e,hb⟩:=(Hh f _ (by omega) (by omega) _).1 hm;rw[D8 (by omega) h2] at hb;have:k=tzN n:=by omega
   rw[decide_eq_true this] at hb;simp at hb
theorem RD:∀ {l m:List Int},l.Nodup→(∀ x∈l,x∈m)→l.length≤m.length
 |[],_,_,_=>Nat.zero_le _
 |x::l,m,hn,hs=>by have hn:=List.nodup_cons.1 hn;have hx:=hs x (List.mem_cons_self ..);have:=RD (l:=l) (m:=m.erase x) hn.2 fun y hy=>(List.mem_erase_of_ne (by rintro rfl;exact hn.1 hy)).2 (hs y (List.mem_cons_of_mem _ hy));rw[List.length_erase_of_mem hx] at this;have:0<m.length:=List.length_pos_of_mem hx;simp only[List.length_cons];omega
theorem DA {n m:Nat}(h:n<2 ^ m) (hm:m≤64):(Qm n).length≤m:=by
 have hp:2 ^ m≤2 ^ 64:=Nat.pow_le_pow_right (by omega) hm;have:=RD (m:=(List.range m).map fun (k:Nat)=>(k:Int)) (R5 n n (Nat.le_refl _) (by omega)) fun x hx=>by obtain⟨h1,h2⟩:=Hx h hm x hx;simp only[List.mem_map,List.mem_range];exact⟨x.toNat,by omega,by omega⟩
 simpa [Qm] using this
def DF (a b:Int):Int:=if a<b then -1 else if b<a then 1 else 0
def orI (l:List Int):Int:=(l.find? fun x=>x != 0).getD 0
def RA:List Int→List Int→Int
 |[],[]=>0
 |[],_::_=>-1
 |_::_,[]=>1
 |x::a,y::b=>if DF x y≠0 then DF x y else RA a b
theorem HX {a b:Int}:DF a b=0↔a=b:=by unfold DF;split<;>(try split)<;>omega
theorem C4 {a b:List Int}:∀ k,k≤a.length→k≤b.length→(∀ j,j<k→a.getD j 0=b.getD j 0)→RA a b=RA (a.drop k) (b.drop k)
 |0,_,_,_=>by simp
 |k+1,h1,h2,h=>by rw[C4 k (by omega) (by omega) fun j hj=>h j (by omega)];have e:=h k (by omega);rw[Q5 (by omega),Q5 (by omega)] at e;rw[List.drop_eq_getElem_cons (show k<a.length by omega),List.drop_eq_getElem_cons (show k<b.length by omega),RA,if_neg (by rw[HX.2 e];decide)]
def UZ (l:List Lot) (tl nc ng:Int) (s:Nat):Bool:=((l.getD ((Qm s).getD 0 0).toNat XG).1==nc)&&decide (ng≤XU l (Qm s))&&Bf l tl (Qm s)
def Cy (a b:List Int):Bool:=decide (orI [DF a.length b.length,RA a b]<0)
def Z8 (l:List Lot) (tl nc ng:Int):Nat→List Int
 |0=>[]
 |s+1=>if s=0 then [] else if UZ l tl nc ng s&&((Z8 l tl nc ng s).isEmpty||Cy (Qm s) (Z8 l tl nc ng s)) then Qm s else Z8 l tl nc ng s
def Je (l:List Lot) (tl nc ng:Int):Int:=if W9 l tl≠0 then W9 l tl else if !M7 nc ng then 2 else if (Z8 l tl nc ng (2 ^ l.length)).isEmpty then 7 else 0
def WA (l:List Lot) (tl nc ng:Int):List Int:=if W9 l tl≠0∨M7 nc ng=false then [] else Z8 l tl nc ng (2 ^ l.length)
theorem Pd {l:List Lot}{tl nc ng:Int}(hl:l.length≤64):∀ s,s≤2 ^ l.length→(Z8 l tl nc ng s).length≤l.length
 |0,_=>by simp[Z8]
 |s+1,h=>by
  unfold Z8;split
  ·simp
  ·split
   ·exact DA (by omega) hl
   ·exact Pd hl s (by omega)
theorem I8 (l:List Lot) (tl nc ng:Int) (s:Nat):((((l.getD ((Qm s).getD 0 0).toNat XG).1 != nc)||decide (XU l (Qm s)<ng))||!Bf l tl (Qm s))=!UZ l tl nc ng s:=by
 unfold UZ;rw[Bool.eq_iff_iff];simp only[Bool.or_eq_true,bne_iff_ne,decide_eq_true_eq,Bool.not_eq_true',Bool.and_eq_false_iff,beq_eq_false_iff_ne,decide_eq_false_iff_not,ne_eq];constructor
 ·rintro ((h|h)|h)
  ·exact .inl (.inl h)
  ·exact .inl (.inr (by omega))
  ·exact .inr h
 ·rintro ((h|h)|h)
  ·exact .inl (.inl h)
  ·exact .inl (.inr (by omega))
  ·exact .inr h
def Yt:AL (Int):=(.one (.k (.i .u32)))
def WS (d:Int):Prop:=False
def WK (d:Int):SV:=.val (.i .i64) ((tzN d.toNat:Nat):Int)
def WU (d:Int):List OB:=[]
def JQ:CSp:=XE Yt WS WK WU
abbrev Yv:Prop:=OkC Tryz.prog 86 JQ
theorem Ym:Yv:=FV fun _ h=>h
def X9:AL (Int):=(.one (.k (.i .u64)))
def YG (d:Int):Prop:=0≤d∧d≤18446744073709551615
def JU (d:Int):SV:=.val (.i .i64) ((tzN d.toNat:Nat):Int)
def JW (d:Int):List OB:=[]
def ZZ:CSp:=XE X9 YG JU JW
def Zb (x:Int):Prop :=
 (false=true →
  (InK .u32 x)∧(False)∧(((tzN x.toNat:Nat):Int)=((tzN x.toNat:Nat):Int)∧(True))) ∧
 (false=false →
  (0≤x∧x≤18446744073709551615)∧(((tzN x.toNat:Nat):Int)=((tzN x.toNat:Nat):Int)∧(True)))
def X7:Cx:=⟨[],[(86,JQ),(87,JO)],8,[],0,[],[],[],[],false,[],[],[],[]⟩
def Kl (x:Int):List (Nat×LoopAnn):=[]
set_option maxRecDepth 100000 in
theorem Kh (d:Int):gwp (X7) (Kl d) c57 0 (WI [.tmp 2] (JU d) (JW d)) (Qs 8 (AL.can X9 d))=Zb d:=by kernel_rfl
abbrev Ki:Prop:=OkC Tryz.prog 57 ZZ
theorem Km (h:∀ (x:Int),(0≤x∧x≤18446744073709551615)→Zb x):OkC Tryz.prog 57 ZZ :=
 QA Q3y mixed (C:=X7) (V:=fun (d:Int)=>Zb d) ⟨(.cons Ym (.cons Yq .nil)),XsOk.nil,ItsOk.nil,YlOk.nil,IysOk.nil,XfOk.nil⟩ (Kh) fun d hp=>h d hp
theorem Kk:Ki:=Km fun x h=>by unfold Zb;(try delta lI gD sT I64);refine⟨(fun h=>by cases h),fun _=>⟨h,?_⟩⟩;and_intros<;>first|rfl|trivial
def VU:AL (Int):=(.one (.k (.i .u64)))
def DU (d:Int):Prop:=0≤d∧d≤1048576
def VB (d:Int):SV:=.lst 0
def Vb (d:Int):List OB:=[.lst 3 (.i .i64) (Qm d.toNat) ((Qm d.toNat).isEmpty)]
def JP:CSp:=XE VU DU VB Vb
def Xo (x:Int):Prop :=
 ∃ (e3:Unit) (d30:Int×(List Int)),((x=d30.1∧True∧True)∧((d30.2=[]∧(List.isEmpty d30.2)=true)∧True)) ∧
 LoopP (fun (d3:Int×(List Int)) (q3:(Int×(List Int))→Prop) =>
  ((d3.1 != (0:Int))=true →
   (0≤d3.1∧d3.1≤18446744073709551615)∧(((List.length d3.2)+(List.length [((tzN d3.1.toNat:Nat):Int)]))*8≤70368744177664)∧(InK .u64 (d3.1-(1:Int)))∧(∃ d4:Int×(List Int),(((H7 .and .u64 d3.1 (d3.1-(1:Int)))=d4.1∧True∧True)∧(((d3.2++[((tzN d3.1.toNat:Nat):Int)])=d4.2∧false=(List.isEmpty d4.2))∧True))∧q3 d4)) ∧
  ((d3.1 != (0:Int))=false →
   (True∧((d3.2=(Qm x.toNat)∧(List.isEmpty d3.2)=(Qm x.toNat).isEmpty)∧True)))) d30
def U7:Cx:=⟨[(3,(.i .i64))],[(57,ZZ)],15,[],0,[],[],[],[],false,[],[],[],[]⟩
def BK (x:Int):List (Nat×LoopAnn):=[(0,⟨Unit,Int×(List Int),[0,2],fun e x=>[.val (.i .u64) x.1,.lst 13],fun e x=>[(13,.slot 2,.lst 3 (.i .i64) x.2 (List.isEmpty x.2))]⟩)]
set_option maxRecDepth 100000 in
theorem BM (d:Int):gwp (U7) (BK d) c33 0 (WI [.tmp 2] (VB d) (Vb d)) (Qs 15 (AL.can VU d))=Xo d:=by kernel_rfl
abbrev Bx:Prop:=OkC Tryz.prog 33 JP
theorem BS (h:∀ (x:Int),(0≤x∧x≤1048576)→Xo x):OkC Tryz.prog 33 JP :=
 QA Q62 mixed (C:=U7) (V:=fun (d:Int)=>Xo d) ⟨(.cons Kk .nil),XsOk.nil,ItsOk.nil,YlOk.nil,IysOk.nil,XfOk.nil⟩ (BM) fun d hp=>h d hp
theorem WL:Bx:=BS fun x h=>by
 obtain⟨h1,h2⟩:=h;unfold Xo;(try delta lI gD sT I64);obtain⟨n,rfl⟩:=Int.eq_ofNat_of_zero_le h1;rw[Int.toNat_natCast];have eB:=Ah n;refine⟨(),((n:Int),[]),(by and_intros<;>first|rfl|trivial|simp),?_⟩;refine⟨fun d=>∃ s:Nat,d.1=s∧s≤n∧d.2++Qm s=Qm n,fun d=>d.1.toNat,⟨n,rfl,Nat.le_refl _,rfl⟩,?_⟩;rintro⟨_,L⟩ ⟨s,rfl,i1,i2⟩;dsimp only at i2 ⊢;simp only[bne_iff_ne,bne_eq_false_iff_eq,ne_eq,Int.toNat_natCast];refine⟨fun h0=>?_,fun h0=>?_⟩
 ·have hs:0<s:=by omega
  have e1:(s:Int)-1=((s-1:Nat):Int):=by omega
  have bA:=Lx hs;have uT:L.length+1≤n:=by have:=congrArg List.length i2;rw[bA,List.length_append,List.length_cons] at this;omega
  have hle:=Nat.and_le_right (n:=s) (m:=s-1);refine⟨⟨by omega,by omega⟩,by simp only[List.length_cons,List.length_nil];omega,by rw[T3];omega,(((s &&& (s-1):Nat):Int),L++[((tzN s:Nat):Int)]),?_,⟨s &&& (s-1),rfl,by omega,?_⟩,?_⟩
  ·rw[e1,AO (by omega) (by omega)];have:(L++[((tzN s:Nat):Int)]).isEmpty=false:=by simp
   and_intros<;>first|rfl|trivial|exact this.symm
  ·dsimp only;rw[←i2,bA,List.append_assoc];rfl
  ·dsimp only;omega
 ·have:s=0:=by omega
  subst this;rw[IP,List.append_nil] at i2;subst i2;and_intros<;>first|rfl|trivial
def UN:AL (Int×Int):=(.one (.agg (.cons (.k (.i .i64)) (.one (.k (.i .i64))))))
def BH (d:Int×Int):Prop:=True
def U4 (d:Int×Int):SV:=.val .bo (M7 d.1 d.2)
def Ue (d:Int×Int):List OB:=[]
def KY:CSp:=XE UN BH U4 Ue
def XP (nc:Int) (ng:Int):Prop :=
 ([nc].length≤1000000)∧((!([nc].any fun n=>decide (n<(0:Int))||decide ((9:Int)<n)))=true→True)∧((!([nc].any fun n=>decide (n<(0:Int))||decide ((9:Int)<n)))=true→[ng].length≤1000000)∧(((!([nc].any fun n=>decide (n<(0:Int))||decide ((9:Int)<n)))&&(!([ng].any fun n=>decide (n<(1:Int))||decide ((12000000:Int)<n))))=(M7 nc ng)∧(True))
def UR:Cx:=⟨[(3,(.i .i64))],[(46,Zf)],13,[],0,[],[],[],[],false,[],[],[],[]⟩
def Pa (nc:Int) (ng:Int):List (Nat×LoopAnn):=[]
set_option maxRecDepth 100000 in
theorem Hq (d:Int×Int):gwp (UR) (Pa d.1 d.2) c24 0 (WI [.tmp 2] (U4 d) (Ue d)) (Qs 13 (AL.can UN d))=XP d.1 d.2:=by kernel_rfl
abbrev T0:Prop:=OkC Tryz.prog 24 KY
theorem P6 (h:∀ (nc:Int) (ng:Int),(True)→XP nc ng):OkC Tryz.prog 24 KY :=
 QA Q6l mixed (C:=UR) (V:=fun (d:Int×Int)=>XP d.1 d.2) ⟨(.cons Zz .nil),XsOk.nil,ItsOk.nil,YlOk.nil,IysOk.nil,XfOk.nil⟩ (Hq) fun d hp=>h d.1 d.2 hp
theorem Hy:T0:=P6 fun nc ng _=>by unfold XP;(try delta lI gD sT I64);have e:∀ n a b:Int,(decide (n<a)||decide (b<n))=!inI n a b:=fun n a b=>(nIb n a b).symm;simp only[List.any_cons,List.any_nil,Bool.or_false,e,Bool.not_not,List.length_cons,List.length_nil];refine⟨by omega,fun _=>trivial,fun _=>by omega,?_⟩;and_intros<;>first|rfl|trivial
def Ya:AL (((List (Int×(Int×Int)×Int))×Int)×Int):=(.cons (.agg (.cons (.k (.list (.pair (.i .i64) (.pair (.pair (.i .i64) (.i .i64)) (.i .i64))))) (.one (.k (.i .i64))))) (.one (.k (.i .u64))))
def Uz (d:((List (Int×(Int×Int)×Int))×Int)×Int):Prop:=d.1.1.length≤12∧(∀ y∈d.1.1,XV y=true)∧0≤d.2∧d.2<2 ^ d.1.1.length
def WH (d:((List (Int×(Int×Int)×Int))×Int)×Int):SV:=.val (.i .i64) (XU d.1.1 (Qm d.2.toNat))
def WG (d:((List (Int×(Int×Int)×Int))×Int)×Int):List OB:=[]
def Xv:CSp:=XE Ya Uz WH WG
def J3 (l:List (Int×(Int×Int)×Int)) (tl:Int) (sx:Int):Prop :=
 (0≤sx∧sx≤1048576)∧∃ (e3:Unit) (d30:Int×Int),((True∧(0:Int)=d30.1∧True∧(lI (Qm sx.toNat))=(lI (Qm sx.toNat))∧(0:Int)=d30.2∧True)∧((l=l∧tl=tl∧(([]:List SV)=[]))∧((Qm sx.toNat)=(Qm sx.toNat)∧(Qm sx.toNat).isEmpty=(List.isEmpty (Qm sx.toNat)))∧True)) ∧
 LoopP (fun (d3:Int×Int) (q3:(Int×Int)→Prop) =>
  ((decide (d3.2<(lI (Qm sx.toNat))))=true →
   (0≤d3.2)∧(d3.2<(List.length (Qm sx.toNat)))∧(0≤(gD (Qm sx.toNat) d3.2 0))∧((gD (Qm sx.toNat) d3.2 0)<(List.length l))∧(I64 (d3.1+(gD l (gD (Qm sx.toNat) d3.2 0) (0,((0,0),0))).2.2))∧(I64 (d3.2+(1:Int)))∧(∃ d4:Int×Int,((True∧(d3.1+(gD l (gD (Qm sx.toNat) d3.2 0) (0,((0,0),0))).2.2)=d4.1∧True∧(lI (Qm sx.toNat))=(lI (Qm sx.toNat))∧(d3.2+(1:Int))=d4.2∧True)∧((l=l∧tl=tl∧(([]:List SV)=[]))∧((Qm sx.toNat)=(Qm sx.toNat)∧(List.isEmpty (Qm sx.toNat))=(List.isEmpty (Qm sx.toNat)))∧True))∧q3 d4)) ∧
  ((decide (d3.2<(lI (Qm sx.toNat))))=false →
   (d3.1=(XU l (Qm sx.toNat))∧(True)))) d30
def WZ:Cx:=⟨[],[(33,JP)],24,[],0,[],[],[],[],false,[],[],[],[]⟩
def NC (l:List (Int×(Int×Int)×Int)) (tl:Int) (sx:Int):List (Nat×LoopAnn):=[(0,⟨Unit,Int×Int,[2,4,8,9,10],fun e x=>[.box 2 0,.val (.i .i64) x.1,.lst 8,.val (.i .i64) (((List.length (Qm sx.toNat)):Nat):Int),.val (.i .i64) x.2],fun e x=>[(2,.slot 2,.cells [.val (.list (.pair (.i .i64) (.pair (.pair (.i .i64) (.i .i64)) (.i .i64)))) l,.val (.i .i64) tl] (some 83)),(8,.slot 8,.lst 3 (.i .i64) (Qm sx.toNat) (List.isEmpty (Qm sx.toNat)))]⟩)]
set_option maxRecDepth 100000 in
theorem NF (d:((List (Int×(Int×Int)×Int))×Int)×Int):gwp (WZ) (NC d.1.1 d.1.2 d.2) c47 0 (WI [.tmp 4] (WH d) (WG d)) (Qs 24 (AL.can Ya d))=J3 d.1.1 d.1.2 d.2:=by kernel_rfl
abbrev NL:Prop:=OkC Tryz.prog 47 Xv
theorem Nz (h:∀ (l:List (Int×(Int×Int)×Int)) (tl:Int) (sx:Int),(l.length≤12∧(∀ y∈l,XV y=true)∧0≤sx∧sx<2 ^ l.length)→J3 l tl sx):OkC Tryz.prog 47 Xv :=
 QA Q45 mixed (C:=WZ) (V:=fun (d:((List (Int×(Int×Int)×Int))×Int)×Int)=>J3 d.1.1 d.1.2 d.2) ⟨(.cons WL .nil),XsOk.nil,ItsOk.nil,YlOk.nil,IysOk.nil,XfOk.nil⟩ (NF) fun d hp=>h d.1.1 d.1.2 d.2 hp
theorem NM:NL:=Nz fun l tl sx h=>by
 obtain⟨h1,h2,h3,h4⟩:=h;obtain⟨n,rfl⟩:=Int.eq_ofNat_of_zero_le h3;have hp:(2:Int) ^ l.length=((2 ^ l.length:Nat):Int):=by simp
 have dW:2 ^ l.length≤2 ^ 12:=Nat.pow_le_pow_right (by omega) h1;have jC:(2:Nat) ^ 12=4096:=rfl;rw[hp] at h4;have hn:n<2 ^ l.length:=by omega
 unfold J3;(try delta lI gD sT I64);rw[Int.toNat_natCast];have ah:=Hx hn (by omega);have eB:=Ah n;generalize Qm n=S at *
 simp only[decide_eq_true_eq,decide_eq_false_iff_not];refine⟨⟨by omega,by omega⟩,(),(0,0),(by and_intros<;>first|rfl|trivial|simp),?_⟩;refine LoopP.count2 S.length (fun k a=>a=XU l (S.take k)∧0≤a∧a≤1000000*(k:Int)) ⟨rfl,by omega,by omega⟩ fun k a hk hJ q hq=>?_;obtain⟨rfl,j2,j3⟩:=hJ;dsimp only;have hd:∀ j,l.getD j (0,((0,0),0))=l.getD j XG:=fun _=>rfl;simp only[Int.toNat_natCast,hd];refine⟨fun kS=>?_,fun a_=>?_⟩
 ·have gZ:k<S.length:=by omega
  have hm:=ah _ (by rw[Q5 gZ];exact List.getElem_mem gZ:S.getD k 0∈S);have hj:(S.getD k 0).toNat<l.length:=by omega
  have hg:=D5.1 (h2 _ (List.getElem_mem hj));have uU:1≤(l.getD (S.getD k 0).toNat XG).2.2∧(l.getD (S.getD k 0).toNat XG).2.2≤1000000:=by rw[Q5 hj];omega
  have hs:=Dl (l:=l) gZ;refine⟨by omega,kS,hm.1,hm.2,by rw[QN];omega,by rw[QN];omega,(XU l (S.take k)+(l.getD (S.getD k 0).toNat XG).2.2,(k:Int)+1),(by and_intros<;>first|rfl|trivial|simp),hq _ gZ ⟨hs.symm,by omega,by omega⟩⟩
 ·have:k=S.length:=by omega
  subst this;rw[List.take_length];and_intros<;>first|rfl|trivial
end Go.Proofs.Tryz
set_option linter.unusedVariables false
namespace Go.Proofs.Tryz
open Go Go.V Go.Proofs
def W2:AL ((Int×Int×Int×Int)×List (Int×(Int×Int)×Int)):=(.cons (.agg (.cons (.k (.i .i64)) (.cons (.k (.i .i64)) (.cons (.k (.i .i64)) (.one (.k (.i .i64))))))) (.one (.ptr (.one (.k (.list (.pair (.i .i64) (.pair (.pair (.i .i64) (.i .i64)) (.i .i64)))))))))
def VJ (d:(Int×Int×Int×Int)×List (Int×(Int×Int)×Int)):Prop:=d.2≠[]
def XI (d:(Int×Int×Int×Int)×List (Int×(Int×Int)×Int)):SV:=.val .bo (d.1.1 != (d.2.getD 0 XG).1)
def XT (d:(Int×Int×Int×Int)×List (Int×(Int×Int)×Int)):List OB:=[]
def JS:CSp:=XE W2 VJ XI XT
def ZC (lc:Int) (lo:Int) (hi:Int) (lg:Int) (l:List (Int×(Int×Int)×Int)):Prop :=
 (0≤(0:Int))∧((0:Int)<(List.length l))∧((lc != (gD l (0:Int) (0,((0,0),0))).1)=(lc != (l.getD 0 XG).1)∧(True))
def W4:Cx:=⟨[],[],11,[],0,[],[],[],[],false,[],[],[],[]⟩
def Ul (lc:Int) (lo:Int) (hi:Int) (lg:Int) (l:List (Int×(Int×Int)×Int)):List (Nat×LoopAnn):=[]
set_option maxRecDepth 100000 in
theorem Ui (d:(Int×Int×Int×Int)×List (Int×(Int×Int)×Int)):gwp (W4) (Ul d.1.1 d.1.2.1 d.1.2.2.1 d.1.2.2.2 d.2) c75 0 (WI [.tmp 3] (XI d) (XT d)) (Qs 11 (AL.can W2 d))=ZC d.1.1 d.1.2.1 d.1.2.2.1 d.1.2.2.2 d.2:=by kernel_rfl
abbrev Uj:Prop:=OkC Tryz.prog 75 JS
theorem Um (h:∀ (lc:Int) (lo:Int) (hi:Int) (lg:Int) (l:List (Int×(Int×Int)×Int)),(l≠[])→ZC lc lo hi lg l):OkC Tryz.prog 75 JS :=
 QA Q4p mixed (C:=W4) (V:=fun (d:(Int×Int×Int×Int)×List (Int×(Int×Int)×Int))=>ZC d.1.1 d.1.2.1 d.1.2.2.1 d.1.2.2.2 d.2) ⟨.nil,XsOk.nil,ItsOk.nil,YlOk.nil,IysOk.nil,XfOk.nil⟩ (Ui) fun d hp=>h d.1.1 d.1.2.1 d.1.2.2.1 d.1.2.2.2 d.2 hp
theorem Uh:Uj:=Um fun lc lo hi lg l h=>by unfold ZC;(try delta lI gD sT I64);have hp:0<l.length:=List.length_pos_iff.2 h;refine⟨by omega,by omega,?_⟩;and_intros<;>first|rfl|trivial
def Yc:AL (((List (Int×(Int×Int)×Int))×Int)×Int):=(.cons (.agg (.cons (.k (.list (.pair (.i .i64) (.pair (.pair (.i .i64) (.i .i64)) (.i .i64))))) (.one (.k (.i .i64))))) (.one (.k (.i .u64))))
def N7 (d:((List (Int×(Int×Int)×Int))×Int)×Int):Prop:=d.1.1.length≤12∧(∀ y∈d.1.1,XV y=true)∧0<d.2∧d.2<2 ^ d.1.1.length
def Wz (d:((List (Int×(Int×Int)×Int))×Int)×Int):SV:=.val .bo (Bf d.1.1 d.1.2 (Qm d.2.toNat))
def Wt (d:((List (Int×(Int×Int)×Int))×Int)×Int):List OB:=[]
def Xr:CSp:=XE Yc N7 Wz Wt
def J4 (l:List (Int×(Int×Int)×Int)) (tl:Int) (sx:Int):Prop :=
 (0≤sx∧sx≤1048576)∧∃ (e4:Unit) (d40:(List (Int×(Int×Int)×Int))×Int),((True∧True∧True∧(lI (Qm sx.toNat))=(lI (Qm sx.toNat))∧(0:Int)=d40.2∧True)∧((l=l∧tl=tl∧(([]:List SV)=[]))∧(True∧(([]:List SV)=[]))∧(d40.1=[]∧(List.isEmpty d40.1)=true)∧((Qm sx.toNat)=(Qm sx.toNat)∧(Qm sx.toNat).isEmpty=(List.isEmpty (Qm sx.toNat)))∧True)) ∧
 LoopP (fun (d4:(List (Int×(Int×Int)×Int))×Int) (q4:((List (Int×(Int×Int)×Int))×Int)→Prop) =>
  ((decide (d4.2<(lI (Qm sx.toNat))))=true →
   (0≤d4.2)∧(d4.2<(List.length (Qm sx.toNat)))∧(0≤(gD (Qm sx.toNat) d4.2 0))∧((gD (Qm sx.toNat) d4.2 0)<(List.length l))∧(((List.length d4.1)+(List.length [((gD l (gD (Qm sx.toNat) d4.2 0) (0,((0,0),0))).1,(((gD l (gD (Qm sx.toNat) d4.2 0) (0,((0,0),0))).2.1.1,(gD l (gD (Qm sx.toNat) d4.2 0) (0,((0,0),0))).2.1.2),(gD l (gD (Qm sx.toNat) d4.2 0) (0,((0,0),0))).2.2))]))*32≤70368744177664)∧(I64 (d4.2+(1:Int)))∧(∃ d5:(List (Int×(Int×Int)×Int))×Int,((True∧True∧True∧(lI (Qm sx.toNat))=(lI (Qm sx.toNat))∧(d4.2+(1:Int))=d5.2∧True)∧((l=l∧tl=tl∧(([]:List SV)=[]))∧(True∧(([]:List SV)=[]))∧((d4.1++[((gD l (gD (Qm sx.toNat) d4.2 0) (0,((0,0),0))).1,(((gD l (gD (Qm sx.toNat) d4.2 0) (0,((0,0),0))).2.1.1,(gD l (gD (Qm sx.toNat) d4.2 0) (0,((0,0),0))).2.1.2),(gD l (gD (Qm sx.toNat) d4.2 0) (0,((0,0),0))).2.2))])=d5.1∧false=(List.isEmpty d5.1))∧((Qm sx.toNat)=(Qm sx.toNat)∧(List.isEmpty (Qm sx.toNat))=(List.isEmpty (Qm sx.toNat)))∧True))∧q4 d5)) ∧
  ((decide (d4.2<(lI (Qm sx.toNat))))=false →
   (d4.1.length≤1000000∧∀ x∈d4.1,(fun (x1:Int×(Int×Int)×Int)=>d4.1≠[]) x)∧((!(d4.1.any (fun (x1:Int×(Int×Int)×Int)=>(x1.1 != (d4.1.getD 0 XG).1))))=true→d4.1≠[]∧d4.1.length≤1000∧∀ x∈d4.1,XV x=true)∧(((!(d4.1.any (fun (x1:Int×(Int×Int)×Int)=>(x1.1 != (d4.1.getD 0 XG).1))))&&(decide (((Q0n d4.1).2)≤tl)))=(Bf l tl (Qm sx.toNat))∧(True)))) d40
def Y0:Cx:=⟨[(51,(.pair (.i .i64) (.pair (.pair (.i .i64) (.i .i64)) (.i .i64))))],[(33,JP),(71,Qb),(75,JS),(76,V9)],38,[],0,[],[],[],[],false,[],[],[],[]⟩
def Ny (l:List (Int×(Int×Int)×Int)) (tl:Int) (sx:Int):List (Nat×LoopAnn):=[(0,⟨Unit,(List (Int×(Int×Int)×Int))×Int,[2,5,10,11,12],fun e x=>[.box 2 0,.box 5 0,.lst 10,.val (.i .i64) (((List.length (Qm sx.toNat)):Nat):Int),.val (.i .i64) x.2],fun e x=>[(2,.slot 2,.cells [.val (.list (.pair (.i .i64) (.pair (.pair (.i .i64) (.i .i64)) (.i .i64)))) l,.val (.i .i64) tl] (some 83)),(5,.slot 5,.cells [.lst 23] (some 30)),(23,.cell 5 0,.lst 51 (.pair (.i .i64) (.pair (.pair (.i .i64) (.i .i64)) (.i .i64))) x.1 (List.isEmpty x.1)),(10,.slot 10,.lst 3 (.i .i64) (Qm sx.toNat) (List.isEmpty (Qm sx.toNat)))]⟩)]
set_option maxRecDepth 100000 in
theorem Ns (d:((List (Int×(Int×Int)×Int))×Int)×Int):gwp (Y0) (Ny d.1.1 d.1.2 d.2) c48 0 (WI [.tmp 4] (Wz d) (Wt d)) (Qs 38 (AL.can Yc d))=J4 d.1.1 d.1.2 d.2:=by kernel_rfl
abbrev ND:Prop:=OkC Tryz.prog 48 Xr
theorem NJ (h:∀ (l:List (Int×(Int×Int)×Int)) (tl:Int) (sx:Int),(l.length≤12∧(∀ y∈l,XV y=true)∧0<sx∧sx<2 ^ l.length)→J4 l tl sx):OkC Tryz.prog 48 Xr :=
 QA Q4b mixed (C:=Y0) (V:=fun (d:((List (Int×(Int×Int)×Int))×Int)×Int)=>J4 d.1.1 d.1.2 d.2) ⟨(.cons WL (.cons QR (.cons Uh (.cons PR .nil)))),XsOk.nil,ItsOk.nil,YlOk.nil,IysOk.nil,XfOk.nil⟩ (Ns) fun d hp=>h d.1.1 d.1.2 d.2 hp
end Go.Proofs.Tryz
set_option linter.unusedVariables false
namespace Go.Proofs.Tryz
open Go Go.V Go.Proofs
theorem Nx:ND:=NJ fun l tl sx h=>by
 obtain⟨h1,h2,h3,h4⟩:=h;obtain⟨n,rfl⟩:=Int.eq_ofNat_of_zero_le (show 0≤sx by omega);have hp:(2:Int) ^ l.length=((2 ^ l.length:Nat):Int):=by simp
 have dW:2 ^ l.length≤2 ^ 12:=Nat.pow_le_pow_right (by omega) h1;have jC:(2:Nat) ^ 12=4096:=rfl;rw[hp] at h4;have hn:n<2 ^ l.length:=by omega
 unfold J4;(try delta lI gD sT I64);rw[Int.toNat_natCast];have ah:=Hx hn (by omega);have eB:=DA hn (by omega);have aF:=HO (show 0<n by omega);generalize Qm n=S at *
 have iV:V3 l S≠[]:=by simpa [V3] using aF
 have p5:=OT h2 ah;have aO:∀ k,(V3 l (S.take k)).length=min k S.length:=fun k=>by simp[V3]
 simp only[decide_eq_true_eq,decide_eq_false_iff_not];refine⟨⟨by omega,by omega⟩,(),([],0),(by and_intros<;>first|rfl|trivial|simp),?_⟩;refine LoopP.count2 S.length (fun k L=>L=V3 l (S.take k)) rfl fun k L hk hJ q hq=>?_;subst hJ;dsimp only;have hd:∀ j,l.getD j (0,((0,0),0))=l.getD j XG:=fun _=>rfl;simp only[Int.toNat_natCast,hd];refine⟨fun kS=>?_,fun a_=>?_⟩
 ·have gZ:k<S.length:=by omega
  have hm:=ah _ (by rw[Q5 gZ];exact List.getElem_mem gZ:S.getD k 0∈S);refine⟨by omega,kS,hm.1,hm.2,by simp only[aO,List.length_cons,List.length_nil];omega,by rw[QN];omega,(V3 l (S.take (k+1)),(k:Int)+1),?_,hq _ gZ rfl⟩;rw[EJ gZ];have:((V3 l (S.take k)++[l.getD (S.getD k 0).toNat XG]).isEmpty)=false:=by simp
  and_intros<;>first|rfl|trivial|exact this.symm
 ·have:k=S.length:=by omega
  subst this;have aR:=aO S.length;rw[List.take_length] at *
  refine⟨⟨by omega,fun _ _=>iV⟩,fun _=>⟨iV,by omega,p5⟩,?_⟩;and_intros<;>first|rfl|trivial
end Go.Proofs.Tryz
set_option linter.unusedVariables false
namespace Go.Proofs.Tryz
open Go Go.V Go.Proofs
def Ug:AL (Int):=(.one (.k (.i .i64)))
def DB (d:Int):Prop:=True
def Vr (d:Int):SV:=.val .bo false
def Vo (d:Int):List OB:=[]
def YY:CSp:=XE Ug DB Vr Vo
def Xn (a:Int):Prop :=
 ((a != a)=false∧(True))
def Uc:Cx:=⟨[],[],6,[],0,[],[],[],[],false,[],[],[],[]⟩
def Bw (a:Int):List (Nat×LoopAnn):=[]
set_option maxRecDepth 100000 in
theorem BF (d:Int):gwp (Uc) (Bw d) c77 0 (WI [.tmp 2] (Vr d) (Vo d)) (Qs 6 (AL.can Ug d))=Xn d:=by kernel_rfl
abbrev By:Prop:=OkC Tryz.prog 77 YY
theorem H0 (h:∀ (a:Int),(True)→Xn a):OkC Tryz.prog 77 YY :=
 QA Q36 mixed (C:=Uc) (V:=fun (d:Int)=>Xn d) ⟨.nil,XsOk.nil,ItsOk.nil,YlOk.nil,IysOk.nil,XfOk.nil⟩ (BF) fun d hp=>h d hp
theorem BL:By:=H0 fun a _=>by unfold Xn;(try delta lI gD sT I64);simp
def KM:AL (Int×Int):=(.cons (.k (.i .i64)) (.one (.k (.i .i64))))
def MS (d:Int×Int):Prop:=True
def K3 (d:Int×Int):SV:=.val (.i .i64) (DF d.1 d.2)
def YJ (d:Int×Int):List OB:=[]
def X2:CSp:=XE KM MS K3 YJ
def JL (a:Int) (b:Int):Prop :=
 (True)∧(True)∧(false=true →
  (false=true →
   ((0:Int)=(DF a b)∧(True))) ∧
  (false=false →
   ((-1:Int)=(DF a b)∧(True)))) ∧
 (false=false →
  (false=true →
   ((1:Int)=(DF a b)∧(True))) ∧
  (false=false →
   ((decide (a<b))=true →
    ((-1:Int)=(DF a b)∧(True))) ∧
   ((decide (a<b))=false →
    ((decide (a > b))=true →
     ((1:Int)=(DF a b)∧(True))) ∧
    ((decide (a > b))=false →
     ((0:Int)=(DF a b)∧(True))))))
def Kz:Cx:=⟨[],[(77,YY)],20,[],0,[],[],[],[],false,[],[],[],[]⟩
def Gs (a:Int) (b:Int):List (Nat×LoopAnn):=[]
set_option maxRecDepth 100000 in
theorem GZ (d:Int×Int):gwp (Kz) (Gs d.1 d.2) c50 0 (WI [.tmp 4] (K3 d) (YJ d)) (Qs 20 (AL.can KM d))=JL d.1 d.2:=by kernel_rfl
abbrev GC:Prop:=OkC Tryz.prog 50 X2
theorem Dc (h:∀ (a:Int) (b:Int),(True)→JL a b):OkC Tryz.prog 50 X2 :=
 QA Q69 mixed (C:=Kz) (V:=fun (d:Int×Int)=>JL d.1 d.2) ⟨(.cons BL .nil),XsOk.nil,ItsOk.nil,YlOk.nil,IysOk.nil,XfOk.nil⟩ (GZ) fun d hp=>h d.1 d.2 hp
theorem Ko:GC:=Dc fun a b _=>by
 unfold JL;(try delta lI gD sT I64);simp only[decide_eq_true_eq,decide_eq_false_iff_not,true_and,and_true,decide_eq_true_eq,decide_eq_false_iff_not,gt_iff_lt,false_implies,Bool.false_eq_true,forall_const];unfold DF;refine⟨fun h=>?_,fun h=>⟨fun h2=>?_,fun h2=>?_⟩⟩
 ·rw[if_pos h]
 ·rw[if_neg h,if_pos h2]
 ·rw[if_neg h,if_neg h2]
def GR:AL (List Int):=(.one (.k (.list (.i .i64))))
def TP (d:List Int):Prop:=d.length≤1000
def M1 (d:List Int):SV:=.val (.i .i64) (orI d)
def M4 (d:List Int):List OB:=[]
def UC:CSp:=XE GR TP M1 M4
def Yo (l:List Int):Prop :=
 ∃ (e2:Unit) (d20:Int),(((0:Int)=(0:Int)∧l=l∧(lI l)=(lI l)∧(0:Int)=d20∧True)∧(True)) ∧
 LoopP (fun (d2:Int) (q2:(Int)→Prop) =>
  ((decide (d2<(lI l)))=true →
   (0≤d2)∧(d2<(List.length l))∧(((gD l d2 0) != (0:Int))=true →
    ((gD l d2 0)=(orI l)∧(True))) ∧
   (((gD l d2 0) != (0:Int))=false →
    (I64 (d2+(1:Int)))∧(∃ d3:Int,(((0:Int)=(0:Int)∧l=l∧(lI l)=(lI l)∧(d2+(1:Int))=d3∧True)∧(True))∧q2 d3))) ∧
  ((decide (d2<(lI l)))=false →
   ((0:Int)=(orI l)∧(True)))) d20
def Gw:Cx:=⟨[],[],18,[],0,[],[],[],[],false,[],[],[],[]⟩
def SJ (l:List Int):List (Nat×LoopAnn):=[(0,⟨Unit,Int,[3,6,7,8],fun e x=>[.val (.i .i64) (0:Int),.val (.list (.i .i64)) l,.val (.i .i64) (((List.length l):Nat):Int),.val (.i .i64) x],fun e x=>[]⟩)]
set_option maxRecDepth 100000 in
theorem L1 (d:List Int):gwp (Gw) (SJ d) c49 0 (WI [.tmp 2] (M1 d) (M4 d)) (Qs 18 (AL.can GR d))=Yo d:=by kernel_rfl
abbrev S5:Prop:=OkC Tryz.prog 49 UC
theorem SF (h:∀ (l:List Int),(l.length≤1000)→Yo l):OkC Tryz.prog 49 UC :=
 QA Q65 mixed (C:=Gw) (V:=fun (d:List Int)=>Yo d) ⟨.nil,XsOk.nil,ItsOk.nil,YlOk.nil,IysOk.nil,XfOk.nil⟩ (L1) fun d hp=>h d hp
theorem L4:S5:=SF fun l h=>by
 unfold Yo;(try delta lI gD sT I64);simp only[decide_eq_true_eq,decide_eq_false_iff_not];refine⟨(),0,(by and_intros<;>first|rfl|trivial|simp),?_⟩;refine LoopP.count l.length (fun k=>∀ j,j<k→l.getD j 0=0) (fun j hj=>by omega) fun k hk hJ q hq=>?_;simp only[Int.toNat_natCast];refine⟨fun ah=>?_,fun a_=>?_⟩
 ·have aM:k<l.length:=by omega
  refine⟨by omega,ah,fun hx=>?_,fun hx=>⟨by rw[QN];omega,_,(by and_intros<;>first|rfl|trivial|simp),hq aM fun j hj=>?_⟩⟩
  ·have hf:l.find? (fun x=>x != 0)=some l[k]:=by
    rw[List.find?_eq_some_iff_getElem];rw[Q5 aM] at hx;refine⟨hx,k,aM,rfl,fun j hj=>?_⟩;have:=hJ j hj;rw[Q5 (by omega)] at this;simp[this]
   refine⟨?_,trivial⟩;unfold orI;rw[hf,Q5 aM];rfl
  ·rcases Nat.lt_succ_iff_lt_or_eq.1 hj with hj|rfl
   ·exact hJ j hj
   ·simpa using hx
 ·have hf:l.find? (fun x=>x != 0)=none:=by
   rw[List.find?_eq_none];intro x hx;obtain⟨j,hj,rfl⟩:=List.getElem_of_mem hx;have:=hJ j (by omega);rw[Q5 hj] at this;simp[this]
  refine⟨?_,trivial⟩;unfold orI;rw[hf];rfl
def Xb:AL (List Int×List Int):=(.cons (.k (.list (.i .i64))) (.one (.k (.list (.i .i64)))))
def Kj (d:List Int×List Int):Prop:=d.1.length≤1000∧d.2.length≤1000
def X8 (d:List Int×List Int):SV:=.val (.i .i64) (RA d.1 d.2)
def X6 (d:List Int×List Int):List OB:=[]
def J9:CSp:=XE Xb Kj X8 X6
def Ze (a:List Int) (b:List Int):Prop :=
 ∃ (e2:Unit) (d20:Int),((a=a∧b=b∧a=a∧(lI a)=(lI a)∧(0:Int)=d20∧True)∧(True)) ∧
 LoopP (fun (d2:Int) (q2:(Int)→Prop) =>
  ((decide (d2<(lI a)))=true →
   (0≤d2)∧(d2<(List.length a))∧((decide (d2≥(lI b)))=true →
    ((1:Int)=(RA a b)∧(True))) ∧
   ((decide (d2≥(lI b)))=false →
    (0≤d2)∧(d2<(List.length b))∧(True)∧(((DF (gD a d2 0) (gD b d2 0)) != (0:Int))=true →
     ((DF (gD a d2 0) (gD b d2 0))=(RA a b)∧(True))) ∧
    (((DF (gD a d2 0) (gD b d2 0)) != (0:Int))=false →
     (I64 (d2+(1:Int)))∧(∃ d3:Int,((a=a∧b=b∧a=a∧(lI a)=(lI a)∧(d2+(1:Int))=d3∧True)∧(True))∧q2 d3)))) ∧
  ((decide (d2<(lI a)))=false →
   ((decide ((lI a)<(lI b)))=true →
    ((-1:Int)=(RA a b)∧(True))) ∧
   ((decide ((lI a)<(lI b)))=false →
    ((0:Int)=(RA a b)∧(True))))) d20
def Xd:Cx:=⟨[],[(50,X2)],36,[],0,[],[],[],[],false,[],[],[],[]⟩
def V8 (a:List Int) (b:List Int):List (Nat×LoopAnn):=[(0,⟨Unit,Int,[0,1,9,10,11],fun e x=>[.val (.list (.i .i64)) a,.val (.list (.i .i64)) b,.val (.list (.i .i64)) a,.val (.i .i64) (((List.length a):Nat):Int),.val (.i .i64) x],fun e x=>[]⟩)]
set_option maxRecDepth 100000 in
theorem KP (d:List Int×List Int):gwp (Xd) (V8 d.1 d.2) c51 0 (WI [.tmp 4] (X8 d) (X6 d)) (Qs 36 (AL.can Xb d))=Ze d.1 d.2:=by kernel_rfl
abbrev V6:Prop:=OkC Tryz.prog 51 J9
theorem KQ (h:∀ (a:List Int) (b:List Int),(a.length≤1000∧b.length≤1000)→Ze a b):OkC Tryz.prog 51 J9 :=
 QA Q5a mixed (C:=Xd) (V:=fun (d:List Int×List Int)=>Ze d.1 d.2) ⟨(.cons Ko .nil),XsOk.nil,ItsOk.nil,YlOk.nil,IysOk.nil,XfOk.nil⟩ (KP) fun d hp=>h d.1 d.2 hp
theorem V5:V6:=KQ fun a b h=>by
 obtain⟨h1,h2⟩:=h;unfold Ze;(try delta lI gD sT I64);simp only[decide_eq_true_eq,decide_eq_false_iff_not];refine⟨(),0,(by and_intros<;>first|rfl|trivial|simp),?_⟩;refine LoopP.count a.length (fun k=>k≤b.length∧∀ j,j<k→a.getD j 0=b.getD j 0) ⟨by omega,fun j hj=>by omega⟩ fun k hk hJ q hq=>?_;obtain⟨j1,j2⟩:=hJ;have hc:=C4 k hk j1 j2;simp only[Int.toNat_natCast];refine⟨fun ah=>?_,fun a_=>?_⟩
 ·have aM:k<a.length:=by omega
  rw[List.drop_eq_getElem_cons aM] at hc;refine⟨by omega,ah,fun h3=>?_,fun h3=>?_⟩
  ·rw[List.drop_eq_nil_of_le (show b.length≤k by omega)] at hc;rw[hc];exact⟨rfl,trivial⟩
  ·have p6:k<b.length:=by omega
   rw[List.drop_eq_getElem_cons p6,RA] at hc;rw[Q5 aM,Q5 p6];refine⟨by omega,by omega,trivial,fun hx=>?_,fun hx=>⟨by rw[QN];omega,_,(by and_intros<;>first|rfl|trivial|simp),hq aM ⟨by omega,fun j hj=>?_⟩⟩⟩
   ·have hx:DF a[k] b[k]≠0:=by simpa using hx
    rw[hc,if_pos hx];exact⟨rfl,trivial⟩
   ·rcases Nat.lt_succ_iff_lt_or_eq.1 hj with hj|rfl
    ·exact j2 j hj
    ·rw[Q5 aM,Q5 p6];exact HX.1 (by simpa using hx)
 ·have:k=a.length:=by omega
  subst this;rw[List.drop_length] at hc;refine⟨fun h3=>?_,fun h3=>?_⟩
  ·rw[List.drop_eq_getElem_cons (show a.length<b.length by omega)] at hc;rw[hc];exact⟨rfl,trivial⟩
  ·rw[List.drop_eq_nil_of_le (show b.length≤a.length by omega)] at hc;rw[hc];exact⟨rfl,trivial⟩
end Go.Proofs.Tryz
set_option linter.unusedVariables false
namespace Go.Proofs.Tryz
open Go Go.V Go.Proofs
def YO:AL (((List (Int×(Int×Int)×Int))×Int)×Int×Int):=(.cons (.agg (.cons (.k (.list (.pair (.i .i64) (.pair (.pair (.i .i64) (.i .i64)) (.i .i64))))) (.one (.k (.i .i64))))) (.one (.agg (.cons (.k (.i .i64)) (.one (.k (.i .i64)))))))
def Nw (d:((List (Int×(Int×Int)×Int))×Int)×Int×Int):Prop:=d.1.1.length≤12∧(∀ y∈d.1.1,XV y=true)
def Y6 (d:((List (Int×(Int×Int)×Int))×Int)×Int×Int):SV:=.tup [.lst 0,.val (.i .i64) (if (Z8 d.1.1 d.1.2 d.2.1 d.2.2 (2 ^ d.1.1.length)).isEmpty then 7 else 0)]
def Yb (d:((List (Int×(Int×Int)×Int))×Int)×Int×Int):List OB:=[.lst 3 (.i .i64) (Z8 d.1.1 d.1.2 d.2.1 d.2.2 (2 ^ d.1.1.length)) ((Z8 d.1.1 d.1.2 d.2.1 d.2.2 (2 ^ d.1.1.length)).isEmpty)]
def XX:CSp:=XE YO Nw Y6 Yb
def Jw (l:List (Int×(Int×Int)×Int)) (tl:Int) (nc:Int) (ng:Int):Prop :=
 ∃ (e4:Unit) (d40:(List Int)×Int),((True∧True∧True∧(1:Int)=d40.2∧True)∧((l=l∧tl=tl∧(([]:List SV)=[]))∧(nc=nc∧ng=ng∧(([]:List SV)=[]))∧(d40.1=[]∧(List.isEmpty d40.1)=true)∧True)) ∧
 LoopP (fun (d4:(List Int)×Int) (q4:((List Int)×Int)→Prop) =>
  (0≤(lI l))∧(InK .u64 (O9 .u64 (1:Int) (lI l)))∧((decide (d4.2<(O9 .u64 (1:Int) (lI l))))=true →
   (0≤d4.2∧d4.2≤1048576)∧(0≤(0:Int))∧((0:Int)<(List.length (Qm d4.2.toNat)))∧(0≤(gD (Qm d4.2.toNat) (0:Int) 0))∧((gD (Qm d4.2.toNat) (0:Int) 0)<(List.length l))∧(((gD l (gD (Qm d4.2.toNat) (0:Int) 0) (0,((0,0),0))).1 != nc)=false→l.length≤12∧(∀ y∈l,XV y=true)∧0≤d4.2∧d4.2<2 ^ l.length)∧((((gD l (gD (Qm d4.2.toNat) (0:Int) 0) (0,((0,0),0))).1 != nc)||(decide ((XU l (Qm d4.2.toNat))<ng)))=false→l.length≤12∧(∀ y∈l,XV y=true)∧0<d4.2∧d4.2<2 ^ l.length)∧(((((gD l (gD (Qm d4.2.toNat) (0:Int) 0) (0,((0,0),0))).1 != nc)||(decide ((XU l (Qm d4.2.toNat))<ng)))||(!(Bf l tl (Qm d4.2.toNat))))=true →
    (InK .u64 (d4.2+(1:Int)))∧(∃ d5:(List Int)×Int,((True∧True∧True∧(d4.2+(1:Int))=d5.2∧True)∧((l=l∧tl=tl∧(([]:List SV)=[]))∧(nc=nc∧ng=ng∧(([]:List SV)=[]))∧(d4.1=d5.1∧(List.isEmpty d4.1)=(List.isEmpty d5.1))∧True))∧q4 d5)) ∧
   (((((gD l (gD (Qm d4.2.toNat) (0:Int) 0) (0,((0,0),0))).1 != nc)||(decide ((XU l (Qm d4.2.toNat))<ng)))||(!(Bf l tl (Qm d4.2.toNat))))=false →
    ((List.isEmpty d4.1)=false→True)∧((List.isEmpty d4.1)=false→(Qm d4.2.toNat).length≤1000∧d4.1.length≤1000)∧((List.isEmpty d4.1)=false→True)∧((List.isEmpty d4.1)=false→[(DF (lI (Qm d4.2.toNat)) (lI d4.1)),(RA (Qm d4.2.toNat) d4.1)].length≤1000)∧(((List.isEmpty d4.1)||(decide ((orI [(DF (lI (Qm d4.2.toNat)) (lI d4.1)),(RA (Qm d4.2.toNat) d4.1)])<(0:Int))))=true →
     (InK .u64 (d4.2+(1:Int)))∧(∃ d6:(List Int)×Int,((True∧True∧True∧(d4.2+(1:Int))=d6.2∧True)∧((l=l∧tl=tl∧(([]:List SV)=[]))∧(nc=nc∧ng=ng∧(([]:List SV)=[]))∧((Qm d4.2.toNat)=d6.1∧(Qm d4.2.toNat).isEmpty=(List.isEmpty d6.1))∧True))∧q4 d6)) ∧
    (((List.isEmpty d4.1)||(decide ((orI [(DF (lI (Qm d4.2.toNat)) (lI d4.1)),(RA (Qm d4.2.toNat) d4.1)])<(0:Int))))=false →
     (InK .u64 (d4.2+(1:Int)))∧(∃ d7:(List Int)×Int,((True∧True∧True∧(d4.2+(1:Int))=d7.2∧True)∧((l=l∧tl=tl∧(([]:List SV)=[]))∧(nc=nc∧ng=ng∧(([]:List SV)=[]))∧(d4.1=d7.1∧(List.isEmpty d4.1)=(List.isEmpty d7.1))∧True))∧q4 d7)))) ∧
  ((decide (d4.2<(O9 .u64 (1:Int) (lI l))))=false →
   ((List.isEmpty d4.1)=true →
    ((True∧(7:Int)=(if (Z8 l tl nc ng (2 ^ l.length)).isEmpty then 7 else 0)∧(([]:List SV)=[]))∧(((Z8 l tl nc ng (2 ^ l.length))=[]∧(Z8 l tl nc ng (2 ^ l.length)).isEmpty=true)∧True))) ∧
   ((List.isEmpty d4.1)=false →
    ((True∧(0:Int)=(if (Z8 l tl nc ng (2 ^ l.length)).isEmpty then 7 else 0)∧(([]:List SV)=[]))∧((d4.1=(Z8 l tl nc ng (2 ^ l.length))∧(List.isEmpty d4.1)=(Z8 l tl nc ng (2 ^ l.length)).isEmpty)∧True))))) d40
def Kb:Cx:=⟨[(3,(.i .i64))],[(33,JP),(47,Xv),(48,Xr),(50,X2),(51,J9),(49,UC)],62,[],0,[],[],[],[],false,[],[],[],[]⟩
def G4 (l:List (Int×(Int×Int)×Int)) (tl:Int) (nc:Int) (ng:Int):List (Nat×LoopAnn):=[(0,⟨Unit,(List Int)×Int,[2,3,4,6],fun e x=>[.box 2 0,.box 3 0,.lst 6000004,.val (.i .u64) x.2],fun e x=>[(2,.slot 2,.cells [.val (.list (.pair (.i .i64) (.pair (.pair (.i .i64) (.i .i64)) (.i .i64)))) l,.val (.i .i64) tl] (some 83)),(3,.slot 3,.cells [.val (.i .i64) nc,.val (.i .i64) ng] (some 45)),(6000004,.slot 4,.lst 3 (.i .i64) x.1 (List.isEmpty x.1))]⟩)]
set_option maxRecDepth 100000 in
theorem MG (d:((List (Int×(Int×Int)×Int))×Int)×Int×Int):gwp (Kb) (G4 d.1.1 d.1.2 d.2.1 d.2.2) c25 0 (WI [.tmp 4,.tmp 5] (Y6 d) (Yb d)) (Qs 62 (AL.can YO d))=Jw d.1.1 d.1.2 d.2.1 d.2.2:=by kernel_rfl
abbrev MI:Prop:=OkC Tryz.prog 25 XX
theorem MQ (h:∀ (l:List (Int×(Int×Int)×Int)) (tl:Int) (nc:Int) (ng:Int),(l.length≤12∧(∀ y∈l,XV y=true))→Jw l tl nc ng):OkC Tryz.prog 25 XX :=
 QA Q6q mixed (C:=Kb) (V:=fun (d:((List (Int×(Int×Int)×Int))×Int)×Int×Int)=>Jw d.1.1 d.1.2 d.2.1 d.2.2) ⟨(.cons WL (.cons NM (.cons Nx (.cons Ko (.cons V5 (.cons L4 .nil)))))),XsOk.nil,ItsOk.nil,YlOk.nil,IysOk.nil,XfOk.nil⟩ (MG) fun d hp=>h d.1.1 d.1.2 d.2.1 d.2.2 hp
end Go.Proofs.Tryz
set_option linter.unusedVariables false
namespace Go.Proofs.Tryz
open Go Go.V Go.Proofs
theorem Mz:MI:=MQ fun l tl nc ng h=>by
 obtain⟨h1,h2⟩:=h;have dW:2 ^ l.length≤2 ^ 12:=Nat.pow_le_pow_right (by omega) h1;have jC:(2:Nat) ^ 12=4096:=rfl;have uV:0<2 ^ l.length:=Nat.two_pow_pos _;have fU:(2:Int) ^ l.length=((2 ^ l.length:Nat):Int):=by simp
 unfold Jw;(try delta lI gD sT I64);have dC:O9 .u64 1 (l.length:Int)=((2 ^ l.length:Nat):Int):=by unfold O9;rw[Int.toNat_natCast,show Nat.min l.length (IntKind.bits .u64)=l.length from Nat.min_eq_left (show l.length≤64 by omega),Int.one_mul];exact fU
 have hd:∀ j,l.getD j (0,((0,0),0))=l.getD j XG:=fun _=>rfl;simp only[dC,decide_eq_true_eq,decide_eq_false_iff_not,hd];refine⟨(),([],1),(by and_intros<;>first|rfl|trivial|simp),?_⟩;refine⟨fun d=>∃ s:Nat,d.2=s∧1≤s∧s≤2 ^ l.length∧d.1=Z8 l tl nc ng s,fun d=>2 ^ l.length-d.2.toNat,⟨1,rfl,by omega,by omega,rfl⟩,?_⟩;rintro⟨_,_⟩ ⟨s,rfl,i1,i2,rfl⟩;dsimp only;have nW:=Pd (tl:=tl) (nc:=nc) (ng:=ng) (show l.length≤64 by omega) s i2;have hK:Z8 l tl nc ng (s+1)=if UZ l tl nc ng s&&((Z8 l tl nc ng s).isEmpty||Cy (Qm s) (Z8 l tl nc ng s)) then Qm s else Z8 l tl nc ng s:=by
  conv=>lhs;unfold Z8
  rw[if_neg (by omega)]
 simp only[Int.toNat_natCast];refine⟨by omega,by rw[T3];omega,fun ah=>?_,fun a_=>?_⟩
 ·have hs:s<2 ^ l.length:=by omega
  have uW:=DA hs (show l.length≤64 by omega);have tJ:=HO (show 0<s by omega);have qZ:0<(Qm s).length:=List.length_pos_iff.2 tJ;have hm:=Hx hs (show l.length≤64 by omega) _ (by rw[Q5 qZ];exact List.getElem_mem qZ:(Qm s).getD 0 0∈Qm s);have hz:((0:Int)).toNat=0:=rfl;simp only[hz,I8];have tK:(decide (orI [DF ((Qm s).length:Int) ((Z8 l tl nc ng s).length:Int),RA (Qm s) (Z8 l tl nc ng s)]<0))=Cy (Qm s) (Z8 l tl nc ng s):=rfl;rw[tK];have q6:(s:Int)<2 ^ l.length:=by rw[fU];omega
  have nx:∀ b:List Int,b=Z8 l tl nc ng (s+1)→(∃ s',((s:Int)+1)=((s':Nat):Int)∧1≤s'∧s'≤2 ^ l.length∧b=Z8 l tl nc ng s'):=fun b hb=>⟨s+1,by omega,by omega,by omega,hb⟩;refine⟨⟨by omega,by omega⟩,by omega,by omega,hm.1,hm.2,fun _=>⟨h1,h2,by omega,q6⟩,fun _=>⟨h1,h2,by omega,q6⟩,fun hx=>⟨by rw[T3];omega,(Z8 l tl nc ng s,(s:Int)+1),(by and_intros<;>first|rfl|trivial|simp),nx _ ?_,by dsimp only;omega⟩,fun hx=>⟨fun _=>trivial,fun _=>⟨by omega,by omega⟩,fun _=>trivial,fun _=>by simp,fun hy=>⟨by rw[T3];omega,(Qm s,(s:Int)+1),(by and_intros<;>first|rfl|trivial|simp),nx _ ?_,by dsimp only;omega⟩,fun hy=>⟨by rw[T3];omega,(Z8 l tl nc ng s,(s:Int)+1),(by and_intros<;>first|rfl|trivial|simp),nx _ ?_,by dsimp only;omega⟩⟩⟩
  ·have hx:UZ l tl nc ng s=false:=by simpa using hx
   rw[hK,hx,Bool.false_and,if_neg (by decide)]
  ·have hx:UZ l tl nc ng s=true:=by simpa using hx
   rw[hK,hx,hy];rfl
  ·have hx:UZ l tl nc ng s=true:=by simpa using hx
   rw[hK,hx,hy,Bool.and_false,if_neg (by decide)]
 ·have:s=2 ^ l.length:=by omega
  subst this;refine⟨fun he=>?_,fun he=>?_⟩
  ·rw[he];have:=List.isEmpty_iff.1 he;rw[this];exact(by and_intros<;>first|rfl|trivial|simp)
  ·rw[he];exact(by and_intros<;>first|rfl|trivial|simp)
end Go.Proofs.Tryz
set_option linter.unusedVariables false
namespace Go.Proofs.Tryz
open Go Go.V Go.Proofs
def Gj:Cx:=⟨[(3,(.i .i64))],[(45,Yp),(46,Zf)],21,[],0,[],[],[],[],false,[],[],[],[]⟩
def Ba:XSp:=Q8k Gj (fun _=>[]) c23 [.cell 4 true 2,.tmp 5] 21
theorem TO:XOk Tryz.prog 23 Ba:=FK Q4j mixed (C:=Gj) ⟨(.cons Mp (.cons Zz .nil)),XsOk.nil,ItsOk.nil,YlOk.nil,IysOk.nil,XfOk.nil⟩ _
def GI:AL ((List (Int×(Int×Int)×Int))×Int×Int×Int):=(.cons (.k (.list (.pair (.i .i64) (.pair (.pair (.i .i64) (.i .i64)) (.i .i64))))) (.cons (.k (.i .i64)) (.one (.agg (.cons (.k (.i .i64)) (.one (.k (.i .i64))))))))
def Tk (d:(List (Int×(Int×Int)×Int))×Int×Int×Int):Prop:=d.1.length≤1000
def Ma (d:(List (Int×(Int×Int)×Int))×Int×Int×Int):SV:=.tup [.lst 0,.val (.i .i64) (Je d.1 d.2.1 d.2.2.1 d.2.2.2)]
def Mo (d:(List (Int×(Int×Int)×Int))×Int×Int×Int):List OB:=[.lst 3 (.i .i64) (WA d.1 d.2.1 d.2.2.1 d.2.2.2) ((WA d.1 d.2.1 d.2.2.1 d.2.2.2).isEmpty)]
def Ux:CSp:=XE GI Tk Ma Mo
def Yh (l:List (Int×(Int×Int)×Int)) (tl:Int) (nc:Int) (ng:Int):Prop :=
 ∀ w1:List Value,(l.length≤1000)∧(((ZB l)==(0:Int))=true→True)∧(((ZB l)==(0:Int))=true→[tl].length≤1000000)∧((((ZB l)==(0:Int))&&(!(!([tl].any fun n=>decide (n<(0:Int))||decide ((1000:Int)<n)))))=true →
  w1=w1∧(((3:Int) != (0:Int))=true →
   ((True∧(3:Int)=(Je l tl nc ng)∧(([]:List SV)=[]))∧(((WA l tl nc ng)=[]∧(WA l tl nc ng).isEmpty=true)∧True))) ∧
  (((3:Int) != (0:Int))=false →
   (True)∧((!(M7 nc ng))=true →
    ((True∧(2:Int)=(Je l tl nc ng)∧(([]:List SV)=[]))∧(((WA l tl nc ng)=[]∧(WA l tl nc ng).isEmpty=true)∧True))) ∧
   ((!(M7 nc ng))=false →
    (l.length≤12∧(∀ y∈l,XV y=true))∧((True∧(if (Z8 l tl nc ng (2 ^ l.length)).isEmpty then 7 else 0)=(Je l tl nc ng)∧(([]:List SV)=[]))∧(((Z8 l tl nc ng (2 ^ l.length))=(WA l tl nc ng)∧(Z8 l tl nc ng (2 ^ l.length)).isEmpty=(WA l tl nc ng).isEmpty)∧True))))) ∧
 ((((ZB l)==(0:Int))&&(!(!([tl].any fun n=>decide (n<(0:Int))||decide ((1000:Int)<n)))))=false →
  w1=w1∧(((ZB l) != (0:Int))=true →
   ((True∧(ZB l)=(Je l tl nc ng)∧(([]:List SV)=[]))∧(((WA l tl nc ng)=[]∧(WA l tl nc ng).isEmpty=true)∧True))) ∧
  (((ZB l) != (0:Int))=false →
   (True)∧((!(M7 nc ng))=true →
    ((True∧(2:Int)=(Je l tl nc ng)∧(([]:List SV)=[]))∧(((WA l tl nc ng)=[]∧(WA l tl nc ng).isEmpty=true)∧True))) ∧
   ((!(M7 nc ng))=false →
    (l.length≤12∧(∀ y∈l,XV y=true))∧((True∧(if (Z8 l tl nc ng (2 ^ l.length)).isEmpty then 7 else 0)=(Je l tl nc ng)∧(([]:List SV)=[]))∧(((Z8 l tl nc ng (2 ^ l.length))=(WA l tl nc ng)∧(Z8 l tl nc ng (2 ^ l.length)).isEmpty=(WA l tl nc ng).isEmpty)∧True)))))
def Dj:Cx:=⟨[(3,(.i .i64))],[(45,Yp),(46,Zf),(24,KY),(25,XX)],29,[],0,[(23,Ba)],[],[],[],false,[],[],[],[]⟩
def L0 (l:List (Int×(Int×Int)×Int)) (tl:Int) (nc:Int) (ng:Int):List (Nat×LoopAnn):=[]
set_option maxRecDepth 100000 in
theorem RV (d:(List (Int×(Int×Int)×Int))×Int×Int×Int):gwp (Dj) (L0 d.1 d.2.1 d.2.2.1 d.2.2.2) c9 0 (WI [.tmp 6,.tmp 7] (Ma d) (Mo d)) (Qs 29 (AL.can GI d))=Yh d.1 d.2.1 d.2.2.1 d.2.2.2:=by kernel_rfl
abbrev S_:Prop:=OkC Tryz.prog 9 Ux
theorem SQ (h:∀ (l:List (Int×(Int×Int)×Int)) (tl:Int) (nc:Int) (ng:Int),(l.length≤1000)→Yh l tl nc ng):OkC Tryz.prog 9 Ux :=
 QA Q9j mixed (C:=Dj) (V:=fun (d:(List (Int×(Int×Int)×Int))×Int×Int×Int)=>Yh d.1 d.2.1 d.2.2.1 d.2.2.2) ⟨(.cons Mp (.cons Zz (.cons Hy (.cons Mz .nil)))),(XsOk.cons TO XsOk.nil),ItsOk.nil,YlOk.nil,IysOk.nil,XfOk.nil⟩ (RV) fun d hp=>h d.1 d.2.1 d.2.2.1 d.2.2.2 hp
theorem Q75:((3:Int) != 0)=true:=rfl
theorem S0:S_:=SQ fun l tl nc ng h=>by
 unfold Yh;(try delta lI gD sT I64);have e:∀ n a b:Int,(decide (n<a)||decide (b<n))=!inI n a b:=fun n a b=>(nIb n a b).symm;simp only[List.any_cons,List.any_nil,Bool.or_false,e,Bool.not_not,List.length_cons,List.length_nil,Q75,Bool.true_eq_false,true_and,and_true,beq_iff_eq,bne_iff_ne,ne_eq,bne_eq_false_iff_eq,Bool.not_eq_true',Bool.not_eq_false',false_implies,Bool.or_false,implies_true,forall_const];refine⟨h,by omega,fun hx=>?_,fun hx=>⟨fun a=>?_,fun a=>⟨fun b=>?_,fun b=>?_⟩⟩⟩
 ·simp only[Bool.and_eq_true,beq_iff_eq,Bool.not_eq_true'] at hx;have o:W9 l tl=3:=by unfold W9;rw[if_neg (by omega),hx.2];rfl
  have e1:Je l tl nc ng=3:=by unfold Je;rw[o];rfl
  have e2:WA l tl nc ng=[]:=by unfold WA;rw[o];rfl
  rw[e1,e2];exact(by and_intros<;>first|rfl|trivial|simp)
 ·have o:W9 l tl=ZB l:=by unfold W9;rw[if_pos a]
  have e1:Je l tl nc ng=ZB l:=by unfold Je;rw[o,if_pos a]
  have e2:WA l tl nc ng=[]:=by unfold WA;rw[if_pos (.inl (by rw[o];exact a))]
  rw[e1,e2];exact(by and_intros<;>first|rfl|trivial|simp)
 ·have o:W9 l tl=0:=by
   unfold W9;rw[if_neg (by omega),if_neg];intro h2;rw[a,h2] at hx;cases hx
  have e1:Je l tl nc ng=2:=by unfold Je;rw[if_neg (by omega),b];rfl
  have e2:WA l tl nc ng=[]:=by unfold WA;rw[if_pos (.inr b)]
  rw[e1,e2];exact(by and_intros<;>first|rfl|trivial|simp)
 ·have o:W9 l tl=0:=by
   unfold W9;rw[if_neg (by omega),if_neg];intro h2;rw[a,h2] at hx;cases hx
  have e1:Je l tl nc ng=if (Z8 l tl nc ng (2 ^ l.length)).isEmpty then 7 else 0:=by unfold Je;rw[if_neg (by omega),b];rfl
  have e2:WA l tl nc ng=Z8 l tl nc ng (2 ^ l.length):=by
   unfold WA;rw[if_neg];rintro (h|h)
   ·exact h o
   ·rw[b] at h;cases h
  rw[e1,e2];refine⟨Ic a,?_⟩;exact(by and_intros<;>first|rfl|trivial|simp)
def Px (n m:Nat):List Int:=((List.range m).filter fun k=>n.testBit k).map fun (k:Nat)=>(k:Int)
theorem P1:∀ {a b:List Int},a.Pairwise (·<·)→b.Pairwise (·<·)→(∀ x,x∈a↔x∈b)→a=b
 |[],[],_,_,_=>rfl
 |[],y::b,_,_,h=>by have:=(h y).2 (List.mem_cons_self ..);cases this
 |x::a,[],_,_,h=>by have:=(h x).1 (List.mem_cons_self ..);cases this
 |x::a,y::b,ha,hb,h=>by
  obtain⟨q8,nZ⟩:=List.pairwise_cons.1 ha;obtain⟨bc,bV⟩:=List.pairwise_cons.1 hb;have tL:x=y:=by
   rcases List.mem_cons.1 ((h x).1 (List.mem_cons_self ..)) with e|e
   ·exact e
   ·rcases List.mem_cons.1 ((h y).2 (List.mem_cons_self ..)) with e2|e2
    ·exact e2.symm
    ·have h1:=bc x e;have h2:=q8 y e2;omega
  subst tL;rw[P1 nZ bV fun z=>?_];constructor
  ·intro hz;rcases List.mem_cons.1 ((h z).1 (List.mem_cons_of_mem _ hz)) with e|e
   ·have:=q8 z hz;omega
   ·exact e
  ·intro hz;rcases List.mem_cons.1 ((h z).2 (List.mem_cons_of_mem _ hz)) with e|e
   ·have:=bc z hz;omega
   ·exact e
theorem Q3k {n k:Nat}(h0:0<n) (h1:n<2 ^ 64) (hk:n.testBit k=true):tzN n≤k:=by
 obtain⟨_,m,hm⟩:=Nl h0 h1;generalize tzN n=t at *
 rcases Nat.lt_or_ge k t with h|h
 ·rw[hm,Nat.testBit_two_pow_mul,decide_eq_false (show ¬ k≥t by omega)] at hk;cases hk
 ·exact h
theorem PA:∀ f n,n≤f→n<2 ^ 64→(T_ f n).Pairwise (·<·)
 |0,n,_,_=>by simp[T_]
 |f+1,n,h1,h2=>by
  unfold T_;by_cases h:n=0
  ·rw[if_pos h];exact List.Pairwise.nil
  ·rw[if_neg h,List.pairwise_cons];have hle:=Nat.and_le_right (n:=n) (m:=n-1);refine⟨fun i hm=>?_,PA f _ (by omega) (by omega)⟩;obtain⟨k,rfl,hb⟩:=(Hh f _ (by omega) (by omega) _).1 hm;rw[D8 (by omega) h2] at hb;simp only[Bool.and_eq_true,Bool.not_eq_true',decide_eq_false_iff_not] at hb;have:=Q3k (by omega) h2 hb.1;omega
theorem Cm {n m:Nat}(h:n<2 ^ m) (hm:m≤64):Qm n=Px n m:=by
 have hp:2 ^ m≤2 ^ 64:=Nat.pow_le_pow_right (by omega) hm;refine P1 (PA n n (Nat.le_refl _) (by omega)) ?_ fun x=>?_
 ·unfold Px;rw[List.pairwise_map];exact(List.Pairwise.filter _ List.pairwise_lt_range).imp fun h=>by omega
 ·rw[Am (by omega)];simp only[Px,List.mem_map,List.mem_filter,List.mem_range];constructor
  ·rintro⟨k,rfl,hb⟩;have:k<m:=by
    rcases Nat.lt_or_ge k m with h2|h2
    ·exact h2
    ·rw[Nat.testBit_lt_two_pow (Nat.lt_of_lt_of_le h (Nat.pow_le_pow_right (by omega) h2))] at hb;cases hb
   exact⟨k,⟨this,hb⟩,rfl⟩
  ·rintro⟨k,⟨_,hb⟩,rfl⟩;exact⟨k,rfl,hb⟩
def Q3z (a b:Lot) (t:Int):Bool:=(a.1==b.1)&&decide (Oq a b≤t)&&decide (Oq a a≤t)&&decide (Oq b b≤t)
def FP (p:List Lot) (t:Int):Bool:=(List.range p.length).all fun i=>(List.range p.length).all fun k=>Q3z (p.getD i XG) (p.getD k XG) t
theorem DK {p:List Lot}{t:Int}:FP p t=true↔∀ i,i<p.length→∀ k,k<p.length→(p.getD i XG).1=(p.getD k XG).1∧Oq (p.getD i XG) (p.getD k XG)≤t:=by simp only[FP,List.all_eq_true,List.mem_range,Q3z,Bool.and_eq_true,beq_iff_eq,decide_eq_true_eq];exact⟨fun h i hi k hk=>⟨(h i hi k hk).1.1.1,(h i hi k hk).1.1.2⟩,fun h i hi k hk=>⟨⟨⟨(h i hi k hk).1,(h i hi k hk).2⟩,(h i hi i hi).2⟩,(h k hk k hk).2⟩⟩
theorem Lw {p:List Lot}{t:Int}(h:p≠[]):O2 t p=FP p t:=by
 have hp:1≤p.length:=List.length_pos_iff.2 h;obtain⟨a,_,_,⟨i3,b3,c3⟩,⟨i4,b4,c4⟩⟩:=HR h p.length hp (Nat.le_refl _);rw[Bool.eq_iff_iff,DK];unfold O2 Q0n;simp only[Bool.and_eq_true,Bool.not_eq_true',decide_eq_true_eq,List.any_eq_false,bne_iff_ne,ne_eq,Decidable.not_not];generalize U2 p p.length=S at *
 constructor
 ·rintro⟨h1,h2⟩ i hi k hk;have e1:=h1 _ (by rw[Q5 hi];exact List.getElem_mem hi:p.getD i XG∈p);have e2:=h1 _ (by rw[Q5 hk];exact List.getElem_mem hk:p.getD k XG∈p);have u:=a i hi;have v:=a k hk;refine⟨e1.trans e2.symm,?_⟩;unfold Oq;rw[W8];omega
 ·intro h1;refine⟨fun x hx=>?_,?_⟩
  ·obtain⟨i,hi,rfl⟩:=List.getElem_of_mem hx;have:=(h1 i hi 0 (by omega)).1
   rwa [Q5 hi] at this
  ·have:=(h1 i4 b4 i3 b3).2;unfold Oq at this;rw[W8] at this;omega
def OM (a b:List Int):Bool:=if a.length≠b.length then decide (a.length<b.length) else decide (RA a b<0)
theorem Ix (a b:List Int):Cy a b=OM a b:=by
 unfold Cy OM;by_cases h:a.length=b.length
 ·have e:DF (a.length:Int) (b.length:Int)=0:=HX.2 (by omega);rw[if_neg (by omega),e];have:orI [0,RA a b]=RA a b:=by
   unfold orI;by_cases h2:RA a b=0
   ·rw[h2];rfl
   ·rw[List.find?_cons_of_neg (by simp),List.find?_cons_of_pos (by simpa using h2)];rfl
  rw[this]
 ·have e:DF (a.length:Int) (b.length:Int)=if a.length<b.length then -1 else 1:=by
   unfold DF;by_cases h2:a.length<b.length
   ·rw[if_pos h2,if_pos (by omega)]
   ·rw[if_neg h2,if_neg (by omega),if_pos (by omega)]
  have h3:DF (a.length:Int) (b.length:Int)≠0:=by rw[e];split<;>decide
  have:orI [DF (a.length:Int) (b.length:Int),RA a b]=DF (a.length:Int) (b.length:Int):=by unfold orI;rw[List.find?_cons_of_pos (by simpa using h3)];rfl
  rw[this,e,if_pos h];by_cases h2:a.length<b.length
  ·rw[if_pos h2,decide_eq_true h2];rfl
  ·rw[if_neg h2,decide_eq_false h2];rfl
theorem Q1m {a b:List Int}(h:Cy a b=true):a.length≤b.length:=by
 rw[Ix] at h;unfold OM at h;split at h
 ·have:=of_decide_eq_true h;omega
 ·omega
theorem Q0l {a b:List Int}(h:Cy a b=false):b.length≤a.length:=by
 rw[Ix] at h;unfold OM at h;split at h
 ·have:=of_decide_eq_false h;omega
 ·omega
theorem Au {l:List Lot}{tl nc ng:Int}:∀ n,Z8 l tl nc ng n=[]∨∃ s,1≤s∧s<n∧UZ l tl nc ng s=true∧Z8 l tl nc ng n=Qm s
 |0=>.inl rfl
 |n+1=>by
  unfold Z8;by_cases h:n=0
  ·rw[if_pos h];exact .inl rfl
  ·rw[if_neg h];split
   ·rename_i h2;rw[Bool.and_eq_true] at h2;exact .inr ⟨n,by omega,by omega,h2.1,rfl⟩
   ·rcases Au (l:=l) (tl:=tl) (nc:=nc) (ng:=ng) n with h3|⟨s,h3,h4,h5⟩
    ·exact .inl h3
    ·exact .inr ⟨s,h3,by omega,h5⟩
theorem Cd {l:List Lot}{tl nc ng:Int}{s:Nat}(h1:1≤s) (h2:UZ l tl nc ng s=true):∀ n,s<n→Z8 l tl nc ng n≠[]∧(Z8 l tl nc ng n).length≤(Qm s).length
 |0,h=>by omega
 |n+1,h=>by
  unfold Z8;rw[if_neg (by omega)];by_cases h3:s=n
  ·subst h3;rw[h2,Bool.true_and];split
   ·exact⟨HO (by omega),Nat.le_refl _⟩
   ·rename_i h4;rw[Bool.not_eq_true,Bool.or_eq_false_iff] at h4;exact⟨fun e=>(by rw[e] at h4;cases h4.1),Q0l h4.2⟩
  ·obtain⟨h5,h6⟩:=Cd h1 h2 n (by omega);split
   ·rename_i h4;rw[Bool.and_eq_true,Bool.or_eq_true] at h4;refine⟨HO (by omega),?_⟩;rcases h4.2 with h7|h7
    ·exact(h5 (List.isEmpty_iff.1 h7)).elim
    ·have:=Q1m h7;omega
   ·exact⟨h5,h6⟩
end Go.Proofs.Tryz
set_option linter.unusedVariables false
namespace Go.Proofs.Tryz
open Go Go.V Go.Proofs
def Fp (a b:Int):Int:=(Nat.gcd a.toNat b.toNat:Nat)
def takeN (ro st:Int) (ps:List (Int×Int)):Int:=ps.foldl (fun a p=>a*p.1) (ro*st)
def Xy (rt:Int) (ps:List (Int×Int)):Int:=ps.foldl (fun a p=>a*p.2) rt
def PF (a b:Int):Int:=Int.tdiv a (Fp a b)
def BQ (a b:Int):Int:=Int.tdiv b (Fp a b)
theorem Aa {a b:Int}(ha:0<a) (hb:0<b):∃ g:Int,0<g∧Fp a b=g∧a=g*PF a b∧b=g*BQ a b∧0<PF a b∧0<BQ a b:=by
 have hg:0<Nat.gcd a.toNat b.toNat:=Nat.gcd_pos_of_pos_left _ (by omega);obtain⟨u,hu⟩:=Nat.gcd_dvd_left a.toNat b.toNat;obtain⟨v,hv⟩:=Nat.gcd_dvd_right a.toNat b.toNat;have eg:Fp a b=((Nat.gcd a.toNat b.toNat:Nat):Int):=rfl;generalize Nat.gcd a.toNat b.toNat=g at *
 have ea:a=(g:Int)*(u:Int):=by rw[←Int.natCast_mul,←hu];omega
 have eb:b=(g:Int)*(v:Int):=by rw[←Int.natCast_mul,←hv];omega
 have hg0:(g:Int)≠0:=by omega
 have e1:PF a b=u:=by unfold PF;rw[eg];rw[show a=(g:Int)*(u:Int) from ea];exact Int.mul_tdiv_cancel_left _ hg0
 have e2:BQ a b=v:=by unfold BQ;rw[eg];rw[show b=(g:Int)*(v:Int) from eb];exact Int.mul_tdiv_cancel_left _ hg0
 refine⟨g,by omega,eg,by rw[e1];exact ea,by rw[e2];exact eb,?_,?_⟩
 ·rw[e1];rcases Nat.eq_zero_or_pos u with h|h
  ·rw[h] at ea;simp at ea;omega
  ·omega
 ·rw[e2];rcases Nat.eq_zero_or_pos v with h|h
  ·rw[h] at eb;simp at eb;omega
  ·omega
theorem Q1g {a b L:Int}(ha:0<a) (hb:0<b) (hL:0≤L):Int.tdiv (L*BQ a b) (PF a b)=(L*b) / a:=by
 obtain⟨g,g0,-,e1,e2,n0,d0⟩:=Aa ha hb;rw[Int.tdiv_eq_ediv_of_nonneg (Int.mul_nonneg hL (by omega))];generalize PF a b=N at *
 generalize BQ a b=D at *
 subst e1 e2;rw[show L*(g*D)=g*(L*D) by rw[Int.mul_left_comm],Int.mul_ediv_mul_of_pos _ _ g0]
theorem OV {L rt dr dn ro:Int}(hL:0≤L∧L≤65535) (h1:20≤rt∧rt≤99) (h2:10≤dr∧dr≤39) (h3:40≤dn∧dn≤99) (h4:20000≤ro∧ro≤85535) :
  0≤Int.tdiv (L*BQ (ro*1*dr) (rt*dn)) (PF (ro*1*dr) (rt*dn))∧Int.tdiv (L*BQ (ro*1*dr) (rt*dn)) (PF (ro*1*dr) (rt*dn))≤4000:=by
 have a1:20000*10≤ro*1*dr:=Int.mul_le_mul (by omega) (by omega) (by omega) (by omega);have b0:0<rt*dn:=Int.mul_pos (by omega) (by omega);have b1:rt*dn≤99*99:=Int.mul_le_mul (by omega) (by omega) (by omega) (by omega);rw[Q1g (by omega) b0 hL.1];have c0:0≤L*(rt*dn):=Int.mul_nonneg hL.1 (by omega);have c1:L*(rt*dn)≤65535*(99*99):=Int.mul_le_mul (by omega) b1 (by omega) (by omega);refine⟨Int.ediv_nonneg c0 (by omega),?_⟩;refine Int.le_of_lt_add_one (Int.ediv_lt_of_lt_mul (by omega) ?_);omega
def WN (p:Int×Int):Bool:=!(!([p.1,p.2].any fun n=>decide (n<1)||decide (100<n)))
def Z9 (rt st:Int) (ps:List (Int×Int)) (ro:Int):Int:=if 2<ps.length then 5 else if ((!inI rt 1 100||!inI st 1 5)||!inI ro 1 500000)||ps.any WN then 2 else 0
def J5 (rt st:Int) (ps:List (Int×Int)) (ro n:Int):Int:=if Z9 rt st ps ro≠0 then Z9 rt st ps ro else if !inI n 0 10000000000 then 3 else 0
def WD (rt st:Int) (ps:List (Int×Int)) (ro n:Int):Int:=if J5 rt st ps ro n=0 then Int.tdiv (n*BQ (takeN ro st ps) (Xy rt ps)) (PF (takeN ro st ps) (Xy rt ps)) else 0
theorem I2 {x y:Int}(hx:0≤x) (hy:0<y):Fp y (Int.tmod x y)=Fp x y:=by
 unfold Fp;obtain⟨m,rfl⟩:=Int.eq_ofNat_of_zero_le hx;obtain⟨n,rfl⟩:=Int.eq_ofNat_of_zero_le (Int.le_of_lt hy);rw[Int.tmod_eq_emod_of_nonneg hx];have:((m:Int) % (n:Int)).toNat=m % n:=by rw[←Int.natCast_emod];rfl
 rw[this,Int.toNat_natCast,Int.toNat_natCast,Nat.gcd_comm n,←Nat.gcd_rec,Nat.gcd_comm]
theorem FM {x y:Int}(hx:0≤x) (hy:y≤0):Fp x y=x:=by
 unfold Fp;have:y.toNat=0:=by omega
 rw[this,Nat.gcd_zero_right];omega
theorem Dp {ro st:Int}{ps:List (Int×Int)}{k:Nat}(h:k<ps.length):takeN ro st (ps.take (k+1))=takeN ro st (ps.take k)*(ps.getD k (0,0)).1:=by unfold takeN;rw[Q5 h,List.take_add_one,List.foldl_append];simp[h]
theorem B2 {rt:Int}{ps:List (Int×Int)}{k:Nat}(h:k<ps.length):Xy rt (ps.take (k+1))=Xy rt (ps.take k)*(ps.getD k (0,0)).2:=by unfold Xy;rw[Q5 h,List.take_add_one,List.foldl_append];simp[h]
theorem Nk {rt st ro:Int}{ps:List (Int×Int)}(h:Z9 rt st ps ro=0):ps.length≤2∧(1≤rt∧rt≤100)∧(1≤st∧st≤5)∧(1≤ro∧ro≤500000)∧∀ k,k<ps.length→(1≤(ps.getD k (0,0)).1∧(ps.getD k (0,0)).1≤100)∧1≤(ps.getD k (0,0)).2∧(ps.getD k (0,0)).2≤100:=by
 unfold Z9 at h;by_cases h1:2<ps.length
 ·rw[if_pos h1] at h;omega
 ·rw[if_neg h1] at h;by_cases h2:(((!inI rt 1 100||!inI st 1 5)||!inI ro 1 500000)||ps.any WN)=true
  ·rw[if_pos h2] at h;omega
  ·simp only[Bool.or_eq_true,Bool.not_eq_true',not_or,Bool.not_eq_false] at h2;obtain⟨⟨⟨a,b⟩,c⟩,d⟩:=h2;unfold inI at a b c;simp only[Bool.and_eq_true,decide_eq_true_eq] at a b c;refine⟨by omega,a,b,c,fun k hk=>?_⟩;rw[List.any_eq_true] at d;have e:¬ WN ps[k]=true:=fun h=>d ⟨ps[k],List.getElem_mem hk,h⟩;rw[Q5 hk];unfold WN at e;simp at e;omega
theorem Cq {rt st ro:Int}{ps:List (Int×Int)}(h:Z9 rt st ps ro=0):∀ k,k≤ps.length→(1≤takeN ro st (ps.take k)∧takeN ro st (ps.take k)≤2500000*100 ^ k)∧1≤Xy rt (ps.take k)∧Xy rt (ps.take k)≤100*100 ^ k
 |0,_=>by obtain⟨a,b,c,d,e⟩:=Nk h;have h1:1*1≤ro*st:=Int.mul_le_mul (by omega) (by omega) (by omega) (by omega);have h2:ro*st≤500000*5:=Int.mul_le_mul (by omega) (by omega) (by omega) (by omega);simp[takeN,Xy];omega
 |k+1,hk=>by have ih:=Cq h k (by omega);obtain⟨a,b,c,d,e⟩:=Nk h;obtain⟨e1,e2⟩:=e k hk;rw[Dp hk,B2 hk];have p:(0:Int)<100 ^ k:=Int.pow_pos (by omega);have h1:1*1≤takeN ro st (ps.take k)*(ps.getD k (0,0)).1:=Int.mul_le_mul (by omega) (by omega) (by omega) (by omega);have h2:takeN ro st (ps.take k)*(ps.getD k (0,0)).1≤(2500000*100 ^ k)*100:=Int.mul_le_mul (by omega) (by omega) (by omega) (by omega);have h3:1*1≤Xy rt (ps.take k)*(ps.getD k (0,0)).2:=Int.mul_le_mul (by omega) (by omega) (by omega) (by omega);have h4:Xy rt (ps.take k)*(ps.getD k (0,0)).2≤(100*100 ^ k)*100:=Int.mul_le_mul (by omega) (by omega) (by omega) (by omega);rw[Int.pow_succ];omega
theorem Q11 {a b:Int}(ha:0<a) (hb:0<b):(0<PF a b∧PF a b≤a)∧0<BQ a b∧BQ a b≤b:=by obtain⟨g,g0,-,e1,e2,n0,d0⟩:=Aa ha hb;have h1:=Int.mul_le_mul_of_nonneg_right (show 1≤g by omega) (show 0≤PF a b by omega);have h2:=Int.mul_le_mul_of_nonneg_right (show 1≤g by omega) (show 0≤BQ a b by omega);omega
theorem Q2c {gr gd ge go le:Int}(h1:0≤gr∧gr≤255) (h2:0≤gd∧gd≤255) (h3:0≤ge∧ge≤255) (h4:0≤go∧go≤65535) (hl:0≤le∧le≤65535) :
  J5 (20+Int.tmod gr 80) 1 [(10+Int.tmod gd 30,40+Int.tmod ge 60)] (20000+go) le=0∧0≤WD (20+Int.tmod gr 80) 1 [(10+Int.tmod gd 30,40+Int.tmod ge 60)] (20000+go) le∧WD (20+Int.tmod gr 80) 1 [(10+Int.tmod gd 30,40+Int.tmod ge 60)] (20000+go) le≤4000:=by
 have a1:=Int.tmod_nonneg 80 h1.1;have a2:=Int.tmod_lt_of_pos gr (show (0:Int)<80 by decide);have b1:=Int.tmod_nonneg 30 h2.1;have b2:=Int.tmod_lt_of_pos gd (show (0:Int)<30 by decide);have c1:=Int.tmod_nonneg 60 h3.1;have c2:=Int.tmod_lt_of_pos ge (show (0:Int)<60 by decide);generalize Int.tmod gr 80=R at *
 generalize Int.tmod gd 30=D at *
 generalize Int.tmod ge 60=N at *
 have i1:∀ n a b:Int,a≤n→n≤b→inI n a b=true:=fun n a b x y=>by unfold inI;rw[decide_eq_true x,decide_eq_true y];rfl
 have te:Z9 (20+R) 1 [(10+D,40+N)] (20000+go)=0:=by unfold Z9;rw[if_neg (by simp),if_neg];rw[i1 _ 1 100 (by omega) (by omega),i1 1 1 5 (by omega) (by omega),i1 _ 1 500000 (by omega) (by omega)];simp[WN];omega
 have pe:J5 (20+R) 1 [(10+D,40+N)] (20000+go) le=0:=by unfold J5;rw[if_neg (by omega),if_neg (by rw[i1 _ _ _ hl.1 (by omega)];decide)]
 refine⟨pe,?_⟩;unfold WD;rw[if_pos pe];exact OV (L:=le) (rt:=20+R) (dr:=10+D) (dn:=40+N) (ro:=20000+go) hl (by omega) (by omega) (by omega) (by omega)
def VY:AL (Int×Int×Int):=(.cons (.k (.i .i64)) (.cons (.ptr (.one (.k (.i .i64)))) (.one (.ptr (.one (.k (.i .i64)))))))
def D_ (d:Int×Int×Int):Prop:=True
def Vf (d:Int×Int×Int):SV:=.val .bo (decide (d.1<d.2.1)||decide (d.2.2<d.1))
def Vz (d:Int×Int×Int):List OB:=[]
def YZ:CSp:=XE VY D_ Vf Vz
def WV (n:Int) (a:Int) (b:Int):Prop :=
 (((decide (n<a))||(decide (n > b)))=(decide (n<a)||decide (b<n))∧(True))
def U0:Cx:=⟨[],[],13,[],0,[],[],[],[],false,[],[],[],[]⟩
def H6 (n:Int) (a:Int) (b:Int):List (Nat×LoopAnn):=[]
set_option maxRecDepth 100000 in
theorem BX (d:Int×Int×Int):gwp (U0) (H6 d.1 d.2.1 d.2.2) c69 0 (WI [.tmp 4] (Vf d) (Vz d)) (Qs 13 (AL.can VY d))=WV d.1 d.2.1 d.2.2:=by kernel_rfl
abbrev Hb:Prop:=OkC Tryz.prog 69 YZ
theorem BJ (h:∀ (n:Int) (a:Int) (b:Int),(True)→WV n a b):OkC Tryz.prog 69 YZ :=
 QA Q5c mixed (C:=U0) (V:=fun (d:Int×Int×Int)=>WV d.1 d.2.1 d.2.2) ⟨.nil,XsOk.nil,ItsOk.nil,YlOk.nil,IysOk.nil,XfOk.nil⟩ (BX) fun d hp=>h d.1 d.2.1 d.2.2 hp
theorem Bz:Hb:=BJ fun n a b _=>by exact⟨rfl,trivial⟩
def Mq:AL (Int×Int×List Int):=(.cons (.k (.i .i64)) (.cons (.k (.i .i64)) (.one (.k (.list (.i .i64))))))
def T8 (d:Int×Int×List Int):Prop:=d.2.2.length≤1000000
def UK (d:Int×Int×List Int):SV:=.val .bo (!(d.2.2.any fun n=>decide (n<d.1)||decide (d.2.1<n)))
def Up (d:Int×Int×List Int):List OB:=[]
def XZ:CSp:=XE Mq T8 UK Up
def KU (a:Int) (b:Int) (l:List Int):Prop :=
 (l.length≤1000000∧∀ x∈l,(fun (x1:Int)=>True) x)∧((!(l.any (fun (x1:Int)=>(decide (x1<a)||decide (b<x1)))))=(!(l.any fun n=>decide (n<a)||decide (b<n)))∧(True))
def Mf:Cx:=⟨[],[(61,QU),(69,YZ)],11,[],0,[],[],[],[],false,[],[],[],[]⟩
def TU (a:Int) (b:Int) (l:List Int):List (Nat×LoopAnn):=[]
set_option maxRecDepth 100000 in
theorem Ty (d:Int×Int×List Int):gwp (Mf) (TU d.1 d.2.1 d.2.2) c42 0 (WI [.tmp 6] (UK d) (Up d)) (Qs 11 (AL.can Mq d))=KU d.1 d.2.1 d.2.2:=by kernel_rfl
abbrev Tb:Prop:=OkC Tryz.prog 42 XZ
theorem TC (h:∀ (a:Int) (b:Int) (l:List Int),(l.length≤1000000)→KU a b l):OkC Tryz.prog 42 XZ :=
 QA Q3w mixed (C:=Mf) (V:=fun (d:Int×Int×List Int)=>KU d.1 d.2.1 d.2.2) ⟨(.cons Jt (.cons Bz .nil)),XsOk.nil,ItsOk.nil,YlOk.nil,IysOk.nil,XfOk.nil⟩ (Ty) fun d hp=>h d.1 d.2.1 d.2.2 hp
theorem K_:Tb:=TC fun a b l h=>by exact⟨⟨h,fun _ _=>trivial⟩,rfl,trivial⟩
def VZ:AL (List Int):=(.one (.k (.list (.i .i64))))
def DV (d:List Int):Prop:=d.length≤1000000
def Vl (d:List Int):SV:=.val .bo (!(d.any fun n=>decide (n<1)||decide (100<n)))
def Vk (d:List Int):List OB:=[]
def W0:CSp:=XE VZ DV Vl Vk
def WO (l:List Int):Prop :=
 (l.length≤1000000)∧((!(l.any fun n=>decide (n<(1:Int))||decide ((100:Int)<n)))=(!(l.any fun n=>decide (n<1)||decide (100<n)))∧(True))
def U8:Cx:=⟨[],[(42,XZ)],5,[],0,[],[],[],[],false,[],[],[],[]⟩
def BY (l:List Int):List (Nat×LoopAnn):=[]
set_option maxRecDepth 100000 in
theorem BN (d:List Int):gwp (U8) (BY d) c41 0 (WI [.tmp 2] (Vl d) (Vk d)) (Qs 5 (AL.can VZ d))=WO d:=by kernel_rfl
abbrev H5:Prop:=OkC Tryz.prog 41 W0
theorem BG (h:∀ (l:List Int),(l.length≤1000000)→WO l):OkC Tryz.prog 41 W0 :=
 QA Q48 mixed (C:=U8) (V:=fun (d:List Int)=>WO d) ⟨(.cons K_ .nil),XsOk.nil,ItsOk.nil,YlOk.nil,IysOk.nil,XfOk.nil⟩ (BN) fun d hp=>h d hp
theorem U6:H5:=BG fun l h=>by exact⟨h,rfl,trivial⟩
def U1:AL (List Int):=(.one (.k (.list (.i .i64))))
def Dy (d:List Int):Prop:=d.length≤1000000
def Vy (d:List Int):SV:=.val .bo (!(d.any fun n=>decide (n<0)||decide (10000000000<n)))
def Vh (d:List Int):List OB:=[]
def YE:CSp:=XE U1 Dy Vy Vh
def WR (l:List Int):Prop :=
 (l.length≤1000000)∧((!(l.any fun n=>decide (n<(0:Int))||decide ((10000000000:Int)<n)))=(!(l.any fun n=>decide (n<0)||decide (10000000000<n)))∧(True))
def VW:Cx:=⟨[],[(42,XZ)],5,[],0,[],[],[],[],false,[],[],[],[]⟩
def H8 (l:List Int):List (Nat×LoopAnn):=[]
set_option maxRecDepth 100000 in
theorem BO (d:List Int):gwp (VW) (H8 d) c21 0 (WI [.tmp 2] (Vy d) (Vh d)) (Qs 5 (AL.can U1 d))=WR d:=by kernel_rfl
abbrev H3:Prop:=OkC Tryz.prog 21 YE
theorem BZ (h:∀ (l:List Int),(l.length≤1000000)→WR l):OkC Tryz.prog 21 YE :=
 QA Q49 mixed (C:=VW) (V:=fun (d:List Int)=>WR d) ⟨(.cons K_ .nil),XsOk.nil,ItsOk.nil,YlOk.nil,IysOk.nil,XfOk.nil⟩ (BO) fun d hp=>h d hp
theorem BR:H3:=BZ fun l h=>by exact⟨h,rfl,trivial⟩
def N9:AL (Int×Int):=(.one (.agg (.cons (.k (.i .i64)) (.one (.k (.i .i64))))))
def BE (d:Int×Int):Prop:=True
def Uf (d:Int×Int):SV:=.val .bo (WN (d.1,d.2))
def Ub (d:Int×Int):List OB:=[]
def V7:CSp:=XE N9 BE Uf Ub
def YK (pa:Int) (pb:Int):Prop :=
 ([pa,pb].length≤1000000)∧((!(!([pa,pb].any fun n=>decide (n<1)||decide (100<n))))=(WN (pa,pb))∧(True))
def Uo:Cx:=⟨[(3,(.i .i64))],[(41,W0)],10,[],0,[],[],[],[],false,[],[],[],[]⟩
def P8 (pa:Int) (pb:Int):List (Nat×LoopAnn):=[]
set_option maxRecDepth 100000 in
theorem HZ (d:Int×Int):gwp (Uo) (P8 d.1 d.2) c40 0 (WI [.tmp 2] (Uf d) (Ub d)) (Qs 10 (AL.can N9 d))=YK d.1 d.2:=by kernel_rfl
abbrev T5:Prop:=OkC Tryz.prog 40 V7
theorem Hr (h:∀ (pa:Int) (pb:Int),(True)→YK pa pb):OkC Tryz.prog 40 V7 :=
 QA Q4l mixed (C:=Uo) (V:=fun (d:Int×Int)=>YK d.1 d.2) ⟨(.cons U6 .nil),XsOk.nil,ItsOk.nil,YlOk.nil,IysOk.nil,XfOk.nil⟩ (HZ) fun d hp=>h d.1 d.2 hp
theorem Pj:T5:=Hr fun pa pb _=>by exact⟨by simp,rfl,trivial⟩
def Z2:AL ((List (Int×Int))×((Int×Int→Prop)×(Int×Int→Bool))):=(.cons (.k (.list (.pair (.i .i64) (.i .i64)))) (.one (.fn [(.pair (.i .i64) (.i .i64))] .bo)))
def J1 (d:(List (Int×Int))×((Int×Int→Prop)×(Int×Int→Bool))):Prop:=d.1.length≤1000000∧∀ x∈d.1,d.2.1 x
def QW (d:(List (Int×Int))×((Int×Int→Prop)×(Int×Int→Bool))):SV:=.val (.i .i64) (Sg d.1 d.2.2)
def QY (d:(List (Int×Int))×((Int×Int→Prop)×(Int×Int→Bool))):List OB:=[]
def Qq:CSp:=XE Z2 J1 QW QY
def Qd (l:List (Int×Int)) (p:(Int×Int→Prop)×(Int×Int→Bool)):Prop :=
 ∃ (e2:Unit) (d20:Int),((l=l∧(SV.pf [(.pair (.i .i64) (.i .i64))] .bo p.1 p.2=SV.pf [(.pair (.i .i64) (.i .i64))] .bo p.1 p.2)∧(lI l)=(lI l)∧(0:Int)=d20∧True)∧(True)) ∧
 LoopP (fun (d2:Int) (q2:(Int)→Prop) =>
  ((decide (d2<(lI l)))=true →
   (0≤d2)∧(d2<(List.length l))∧(p.1 ((gD l d2 (0,0)).1,(gD l d2 (0,0)).2))∧((p.2 ((gD l d2 (0,0)).1,(gD l d2 (0,0)).2))=true →
    (d2=(Sg l p.2)∧(True))) ∧
   ((p.2 ((gD l d2 (0,0)).1,(gD l d2 (0,0)).2))=false →
    (I64 (d2+(1:Int)))∧(∃ d3:Int,((l=l∧(SV.pf [(.pair (.i .i64) (.i .i64))] .bo p.1 p.2=SV.pf [(.pair (.i .i64) (.i .i64))] .bo p.1 p.2)∧(lI l)=(lI l)∧(d2+(1:Int))=d3∧True)∧(True))∧q2 d3))) ∧
  ((decide (d2<(lI l)))=false →
   ((-1:Int)=(Sg l p.2)∧(True)))) d20
def Z0:Cx:=⟨[],[],19,[],0,[],[],[],[],false,[],[],[],[]⟩
def Jc (l:List (Int×Int)) (p:(Int×Int→Prop)×(Int×Int→Bool)):List (Nat×LoopAnn):=[(0,⟨Unit,Int,[0,1,7,8],fun e x=>[.val (.list (.pair (.i .i64) (.i .i64))) l,.pf [(.pair (.i .i64) (.i .i64))] .bo p.1 p.2,.val (.i .i64) (((List.length l):Nat):Int),.val (.i .i64) x],fun e x=>[]⟩)]
set_option maxRecDepth 100000 in
theorem Jh (d:(List (Int×Int))×((Int×Int→Prop)×(Int×Int→Bool))):gwp (Z0) (Jc d.1 d.2) c70 0 (WI [.tmp 4] (QW d) (QY d)) (Qs 19 (AL.can Z2 d))=Qd d.1 d.2:=by kernel_rfl
abbrev Jb:Prop:=OkC Tryz.prog 70 Qq
theorem Jn (h:∀ (l:List (Int×Int)) (p:(Int×Int→Prop)×(Int×Int→Bool)),(l.length≤1000000∧∀ x∈l,p.1 x)→Qd l p):OkC Tryz.prog 70 Qq :=
 QA Q52 mixed (C:=Z0) (V:=fun (d:(List (Int×Int))×((Int×Int→Prop)×(Int×Int→Bool)))=>Qd d.1 d.2) ⟨.nil,XsOk.nil,ItsOk.nil,YlOk.nil,IysOk.nil,XfOk.nil⟩ (Jh) fun d hp=>h d.1 d.2 hp
theorem Ji:Jb:=Jn fun l p hp=>by
 unfold Qd;(try delta lI gD sT I64);simp only[true_and,and_true,exists_eq_left',exists_const,decide_eq_true_eq,decide_eq_false_iff_not];refine LoopP.count l.length (fun k=>(l.take k).any p.2=false) (by simp) fun k aV hJ q hq=>?_;simp only[Int.toNat_natCast,Int.ofNat_lt,QN];refine⟨fun ah=>?_,fun a_=>?_⟩
 ·have ah:k<l.length:=by omega
  rw[Q5 ah];refine⟨by omega,by omega,hp.2 _ (List.getElem_mem ah),fun hx=>?_,fun hx=>⟨by omega,hq ah ?_⟩⟩
  ·rw[HV ah hx hJ]
  ·rw[Zq ah,List.any_append,hJ];simp[hx]
 ·rw[List.take_of_length_le (by omega)] at hJ;rw[D7 hJ]
def QQ:AL ((List (Int×Int))×((Int×Int→Prop)×(Int×Int→Bool))):=(.cons (.k (.list (.pair (.i .i64) (.i .i64)))) (.one (.fn [(.pair (.i .i64) (.i .i64))] .bo)))
def ZH (d:(List (Int×Int))×((Int×Int→Prop)×(Int×Int→Bool))):Prop:=d.1.length≤1000000∧∀ x∈d.1,d.2.1 x
def QH (d:(List (Int×Int))×((Int×Int→Prop)×(Int×Int→Bool))):SV:=.val .bo (d.1.any d.2.2)
def QI (d:(List (Int×Int))×((Int×Int→Prop)×(Int×Int→Bool))):List OB:=[]
def Qk:CSp:=XE QQ ZH QH QI
def Qa (l:List (Int×Int)) (p:(Int×Int→Prop)×(Int×Int→Bool)):Prop :=
 (l.length≤1000000∧∀ x∈l,(fun (x1:Int×Int)=>p.1 (x1.1,x1.2)) x)∧((decide ((Sg l (fun (x1:Int×Int)=>(p.2 (x1.1,x1.2))))≥(0:Int)))=(l.any p.2)∧(True))
def QS:Cx:=⟨[],[(70,Qq)],9,[],0,[],[],[],[],false,[],[],[],[]⟩
def ZQ (l:List (Int×Int)) (p:(Int×Int→Prop)×(Int×Int→Bool)):List (Nat×LoopAnn):=[]
set_option maxRecDepth 100000 in
theorem ZS (d:(List (Int×Int))×((Int×Int→Prop)×(Int×Int→Bool))):gwp (QS) (ZQ d.1 d.2) c43 0 (WI [.tmp 4] (QH d) (QI d)) (Qs 9 (AL.can QQ d))=Qa d.1 d.2:=by kernel_rfl
abbrev ZT:Prop:=OkC Tryz.prog 43 Qk
theorem ZV (h:∀ (l:List (Int×Int)) (p:(Int×Int→Prop)×(Int×Int→Bool)),(l.length≤1000000∧∀ x∈l,p.1 x)→Qa l p):OkC Tryz.prog 43 Qk :=
 QA Q4k mixed (C:=QS) (V:=fun (d:(List (Int×Int))×((Int×Int→Prop)×(Int×Int→Bool)))=>Qa d.1 d.2) ⟨(.cons Ji .nil),XsOk.nil,ItsOk.nil,YlOk.nil,IysOk.nil,XfOk.nil⟩ (ZS) fun d hp=>h d.1 d.2 hp
theorem ZW:ZT:=ZV fun l p hp=>by simp only[Qa];exact⟨hp,SE l p.2,trivial⟩
def GD:AL (Int×Int×(List (Int×Int))×Int):=(.one (.agg (.cons (.k (.i .i64)) (.cons (.k (.i .i64)) (.cons (.k (.list (.pair (.i .i64) (.i .i64)))) (.one (.k (.i .i64))))))))
def TM (d:Int×Int×(List (Int×Int))×Int):Prop:=d.2.2.1.length≤1000
def Mi (d:Int×Int×(List (Int×Int))×Int):SV:=.val (.i .i64) (Z9 d.1 d.2.1 d.2.2.1 d.2.2.2)
def Me (d:Int×Int×(List (Int×Int))×Int):List OB:=[]
def UY:CSp:=XE GD TM Mi Me
def Yr (rt:Int) (st:Int) (ps:List (Int×Int)) (ro:Int):Prop :=
 ((decide ((lI ps) > (2:Int)))=true →
  ((5:Int)=(Z9 rt st ps ro)∧(True))) ∧
 ((decide ((lI ps) > (2:Int)))=false →
  ([rt].length≤1000000)∧((!(!([rt].any fun n=>decide (n<1)||decide (100<n))))=true →
   ((!(!([rt].any fun n=>decide (n<1)||decide (100<n))))=true →
    ((2:Int)=(Z9 rt st ps ro)∧(True))) ∧
   ((!(!([rt].any fun n=>decide (n<1)||decide (100<n))))=false →
    ((0:Int)=(Z9 rt st ps ro)∧(True)))) ∧
  ((!(!([rt].any fun n=>decide (n<1)||decide (100<n))))=false →
   ([st].length≤1000000)∧((!(!([st].any fun n=>decide (n<(1:Int))||decide ((5:Int)<n))))=true →
    ((!(!([st].any fun n=>decide (n<(1:Int))||decide ((5:Int)<n))))=true →
     ((2:Int)=(Z9 rt st ps ro)∧(True))) ∧
    ((!(!([st].any fun n=>decide (n<(1:Int))||decide ((5:Int)<n))))=false →
     ((0:Int)=(Z9 rt st ps ro)∧(True)))) ∧
   ((!(!([st].any fun n=>decide (n<(1:Int))||decide ((5:Int)<n))))=false →
    ([ro].length≤1000000)∧((!(!([ro].any fun n=>decide (n<(1:Int))||decide ((500000:Int)<n))))=true →
     ((!(!([ro].any fun n=>decide (n<(1:Int))||decide ((500000:Int)<n))))=true →
      ((2:Int)=(Z9 rt st ps ro)∧(True))) ∧
     ((!(!([ro].any fun n=>decide (n<(1:Int))||decide ((500000:Int)<n))))=false →
      ((0:Int)=(Z9 rt st ps ro)∧(True)))) ∧
    ((!(!([ro].any fun n=>decide (n<(1:Int))||decide ((500000:Int)<n))))=false →
     (ps.length≤1000000∧∀ x∈ps,(fun (x1:Int×Int)=>True) x)∧((ps.any (fun (x1:Int×Int)=>(WN (x1.1,x1.2))))=true →
      ((2:Int)=(Z9 rt st ps ro)∧(True))) ∧
     ((ps.any (fun (x1:Int×Int)=>(WN (x1.1,x1.2))))=false →
      ((0:Int)=(Z9 rt st ps ro)∧(True)))))))
def GG:Cx:=⟨[(3,(.i .i64))],[(41,W0),(42,XZ),(43,Qk),(40,V7)],29,[],0,[],[],[],[],false,[],[],[],[]⟩
def Sa (rt:Int) (st:Int) (ps:List (Int×Int)) (ro:Int):List (Nat×LoopAnn):=[]
set_option maxRecDepth 100000 in
theorem S1 (d:Int×Int×(List (Int×Int))×Int):gwp (GG) (Sa d.1 d.2.1 d.2.2.1 d.2.2.2) c20 0 (WI [.tmp 2] (Mi d) (Me d)) (Qs 29 (AL.can GD d))=Yr d.1 d.2.1 d.2.2.1 d.2.2.2:=by kernel_rfl
abbrev S8:Prop:=OkC Tryz.prog 20 UY
theorem SL (h:∀ (rt:Int) (st:Int) (ps:List (Int×Int)) (ro:Int),(ps.length≤1000)→Yr rt st ps ro):OkC Tryz.prog 20 UY :=
 QA Q4d mixed (C:=GG) (V:=fun (d:Int×Int×(List (Int×Int))×Int)=>Yr d.1 d.2.1 d.2.2.1 d.2.2.2) ⟨(.cons U6 (.cons K_ (.cons ZW (.cons Pj .nil)))),XsOk.nil,ItsOk.nil,YlOk.nil,IysOk.nil,XfOk.nil⟩ (S1) fun d hp=>h d.1 d.2.1 d.2.2.1 d.2.2.2 hp
theorem RZ:S8:=SL fun rt st ps ro h=>by
 unfold Yr;(try delta lI gD sT I64);have e:∀ n a b:Int,(decide (n<a)||decide (b<n))=!inI n a b:=fun n a b=>(nIb n a b).symm;have e2:(ps.any fun x1=>WN (x1.1,x1.2))=ps.any WN:=rfl;simp only[List.any_cons,List.any_nil,Bool.or_false,e,e2,Bool.not_not,List.length_cons,List.length_nil];unfold Z9;refine⟨fun h2=>?_,fun h2=>?_⟩
 ·have h2:=of_decide_eq_true h2;rw[if_pos (by omega)];exact⟨rfl,trivial⟩
 have h2:=of_decide_eq_false h2;rw[if_neg (by omega)];cases inI rt 1 100<;>cases inI st 1 5<;>cases inI ro 1 500000<;>cases ps.any WN<;>simp<;>omega
def Y2:AL (Int×Int):=(.one (.agg (.cons (.k (.i .i64)) (.one (.k (.i .i64))))))
def UW (d:Int×Int):Prop:=(0<d.1∧d.1≤1000000000000000000)∧0<d.2∧d.2≤1000000000000000000
def Wq (d:Int×Int):SV:=.agg [.val (.i .i64) (PF d.1 d.2),.val (.i .i64) (BQ d.1 d.2)]
def Wu (d:Int×Int):List OB:=[]
def Xx:CSp:=XE Y2 UW Wq Wu
def J6 (a:Int) (b:Int):Prop :=
 ∃ (e3:Unit) (d30:Int×Int),((True∧True∧a=d30.1∧b=d30.2∧True)∧((a=a∧b=b∧(([]:List SV)=[]))∧((0:Int)=(0:Int)∧(0:Int)=(0:Int)∧(([]:List SV)=[]))∧True)) ∧
 LoopP (fun (d3:Int×Int) (q3:(Int×Int)→Prop) =>
  ((decide (d3.2 > (0:Int)))=true →
   (d3.2≠0)∧(∃ d4:Int×Int,((True∧True∧d3.2=d4.1∧(Int.tmod d3.1 d3.2)=d4.2∧True)∧((a=a∧b=b∧(([]:List SV)=[]))∧((0:Int)=(0:Int)∧(0:Int)=(0:Int)∧(([]:List SV)=[]))∧True))∧q3 d4)) ∧
  ((decide (d3.2 > (0:Int)))=false →
   (d3.1≠0)∧(I64 (Int.tdiv a d3.1))∧(d3.1≠0)∧(I64 (Int.tdiv b d3.1))∧(((Int.tdiv a d3.1)=(PF a b)∧(Int.tdiv b d3.1)=(BQ a b)∧(([]:List SV)=[]))∧(True)))) d30
def Y3:Cx:=⟨[],[],29,[],0,[],[],[],[],false,[],[],[],[]⟩
def Nt (a:Int) (b:Int):List (Nat×LoopAnn):=[(0,⟨Unit,Int×Int,[1,2,3,4],fun e x=>[.box 1 0,.box 2 0,.val (.i .i64) x.1,.val (.i .i64) x.2],fun e x=>[(1,.slot 1,.cells [.val (.i .i64) a,.val (.i .i64) b] (some 80)),(2,.slot 2,.cells [.val (.i .i64) (0:Int),.val (.i .i64) (0:Int)] (some 80))]⟩)]
set_option maxRecDepth 100000 in
theorem Nu (d:Int×Int):gwp (Y3) (Nt d.1 d.2) c44 0 (WI [.cell 2 true 2] (Wq d) (Wu d)) (Qs 29 (AL.can Y2 d))=J6 d.1 d.2:=by kernel_rfl
abbrev NI:Prop:=OkC Tryz.prog 44 Xx
theorem Nv (h:∀ (a:Int) (b:Int),((0<a∧a≤1000000000000000000)∧0<b∧b≤1000000000000000000)→J6 a b):OkC Tryz.prog 44 Xx :=
 QA Q5w mixed (C:=Y3) (V:=fun (d:Int×Int)=>J6 d.1 d.2) ⟨.nil,XsOk.nil,ItsOk.nil,YlOk.nil,IysOk.nil,XfOk.nil⟩ (Nu) fun d hp=>h d.1 d.2 hp
theorem NH:NI:=Nv fun a b h=>by
 obtain⟨⟨ha,nZ⟩,hb,bV⟩:=h;have hl:=Q11 ha hb;unfold J6;(try delta lI gD sT I64);refine⟨(),(a,b),by and_intros<;>first|rfl|trivial,?_⟩;refine⟨fun d=>0<d.1∧0≤d.2∧Fp d.1 d.2=Fp a b,fun d=>d.2.toNat,⟨ha,by omega,rfl⟩,?_⟩;rintro⟨x,y⟩ ⟨h1,h2,h3⟩;dsimp only at *
 refine⟨fun c=>?_,fun c=>?_⟩
 ·have c:=of_decide_eq_true c;refine⟨by omega,(y,Int.tmod x y),by and_intros<;>first|rfl|trivial,⟨c,Int.tmod_nonneg _ (by omega),?_⟩,?_⟩
  ·dsimp only;rw[I2 (by omega) (by omega),h3]
  ·have t1:=Int.tmod_lt_of_pos x (show 0<y by omega);have t2:=Int.tmod_nonneg y (show 0≤x by omega);dsimp only;omega
 ·have c:=of_decide_eq_false c;have hx:x=Fp a b:=by rw[←h3,FM (by omega) (by omega)]
  rw[hx];have a1:InK .i64 (PF a b):=by rw[QN];omega
  have a2:InK .i64 (BQ a b):=by rw[QN];omega
  refine⟨by omega,a1,by omega,a2,?_⟩;and_intros<;>first|rfl|trivial
def Gt:AL (Int×Int×(List (Int×Int))×Int):=(.one (.agg (.cons (.k (.i .i64)) (.cons (.k (.i .i64)) (.cons (.k (.list (.pair (.i .i64) (.i .i64)))) (.one (.k (.i .i64))))))))
def TS (d:Int×Int×(List (Int×Int))×Int):Prop:=Z9 d.1 d.2.1 d.2.2.1 d.2.2.2=0
def NO (d:Int×Int×(List (Int×Int))×Int):SV:=.agg [.val (.i .i64) (PF (takeN d.2.2.2 d.2.1 d.2.2.1) (Xy d.1 d.2.2.1)),.val (.i .i64) (BQ (takeN d.2.2.2 d.2.1 d.2.2.1) (Xy d.1 d.2.2.1))]
def NY (d:Int×Int×(List (Int×Int))×Int):List OB:=[]
def N2:CSp:=XE Gt TS NO NY
def Yu (rt:Int) (st:Int) (ps:List (Int×Int)) (ro:Int):Prop :=
 (I64 (ro*st))∧∃ (e3:Unit) (d30:Int×Int×Int),((True∧True∧ps=ps∧(lI ps)=(lI ps)∧(0:Int)=d30.2.2∧True)∧(((0:Int)=(0:Int)∧(0:Int)=(0:Int)∧(([]:List SV)=[]))∧((ro*st)=d30.1∧rt=d30.2.1∧(([]:List SV)=[]))∧True)) ∧
 LoopP (fun (d3:Int×Int×Int) (q3:(Int×Int×Int)→Prop) =>
  ((decide (d3.2.2<(lI ps)))=true →
   (0≤d3.2.2)∧(d3.2.2<(List.length ps))∧(I64 (d3.1*(gD ps d3.2.2 (0,0)).1))∧(I64 (d3.2.1*(gD ps d3.2.2 (0,0)).2))∧(I64 (d3.2.2+(1:Int)))∧(∃ d4:Int×Int×Int,((True∧True∧ps=ps∧(lI ps)=(lI ps)∧(d3.2.2+(1:Int))=d4.2.2∧True)∧(((0:Int)=(0:Int)∧(0:Int)=(0:Int)∧(([]:List SV)=[]))∧((d3.1*(gD ps d3.2.2 (0,0)).1)=d4.1∧(d3.2.1*(gD ps d3.2.2 (0,0)).2)=d4.2.1∧(([]:List SV)=[]))∧True))∧q3 d4)) ∧
  ((decide (d3.2.2<(lI ps)))=false →
   ((0<d3.1∧d3.1≤1000000000000000000)∧0<d3.2.1∧d3.2.1≤1000000000000000000)∧(((PF d3.1 d3.2.1)=(PF (takeN ro st ps) (Xy rt ps))∧(BQ d3.1 d3.2.1)=(BQ (takeN ro st ps) (Xy rt ps))∧(([]:List SV)=[]))∧(True)))) d30
def GH:Cx:=⟨[],[(44,Xx)],41,[],0,[],[],[],[],false,[],[],[],[]⟩
def SX (rt:Int) (st:Int) (ps:List (Int×Int)) (ro:Int):List (Nat×LoopAnn):=[(0,⟨Unit,Int×Int×Int,[2,3,16,17,18],fun e x=>[.box 2 0,.box 3 0,.val (.list (.pair (.i .i64) (.i .i64))) ps,.val (.i .i64) (((List.length ps):Nat):Int),.val (.i .i64) x.2.2],fun e x=>[(2,.slot 2,.cells [.val (.i .i64) (0:Int),.val (.i .i64) (0:Int)] (some 80)),(3,.slot 3,.cells [.val (.i .i64) x.1,.val (.i .i64) x.2.1] (some 80))]⟩)]
set_option maxRecDepth 100000 in
theorem SU (d:Int×Int×(List (Int×Int))×Int):gwp (GH) (SX d.1 d.2.1 d.2.2.1 d.2.2.2) c22 0 (WI [.cell 2 true 2] (NO d) (NY d)) (Qs 41 (AL.can Gt d))=Yu d.1 d.2.1 d.2.2.1 d.2.2.2:=by kernel_rfl
abbrev Sl:Prop:=OkC Tryz.prog 22 N2
theorem RI (h:∀ (rt:Int) (st:Int) (ps:List (Int×Int)) (ro:Int),(Z9 rt st ps ro=0)→Yu rt st ps ro):OkC Tryz.prog 22 N2 :=
 QA Q5q mixed (C:=GH) (V:=fun (d:Int×Int×(List (Int×Int))×Int)=>Yu d.1 d.2.1 d.2.2.1 d.2.2.2) ⟨(.cons NH .nil),XsOk.nil,ItsOk.nil,YlOk.nil,IysOk.nil,XfOk.nil⟩ (SU) fun d hp=>h d.1 d.2.1 d.2.2.1 d.2.2.2 hp
theorem L2:Sl:=RI fun rt st ps ro h=>by
 obtain⟨l2,r1,s1,o1,pk⟩:=Nk h;have bd:=Cq h;have p0:=bd 0 (by omega);simp only[List.take_zero,takeN,Xy,List.foldl_nil] at p0;unfold Yu;(try delta lI gD sT I64);refine⟨by rw[QN];omega,(),(ro*st,rt,0),by and_intros<;>first|rfl|trivial,?_⟩;refine⟨fun d=>∃ k:Nat,k≤ps.length∧d=(takeN ro st (ps.take k),Xy rt (ps.take k),(k:Int)),fun d=>ps.length-d.2.2.toNat,⟨0,by omega,by simp[takeN,Xy]⟩,?_⟩;rintro _ ⟨k,hk,rfl⟩;dsimp only;refine⟨fun c=>?_,fun c=>?_⟩
 ·have c:=of_decide_eq_true c;have hk:k<ps.length:=by omega
  have b1:=bd (k+1) hk;rw[Dp hk,B2 hk] at b1;have pw:(100:Int) ^ (k+1)≤10000:=by rcases (show k=0∨k=1 by omega) with rfl|rfl<;>decide
  rw[Int.toNat_natCast];refine⟨by omega,by omega,by rw[QN];omega,by rw[QN];omega,by rw[QN];omega,(takeN ro st (ps.take (k+1)),Xy rt (ps.take (k+1)),((k:Int)+1)),?_,⟨k+1,hk,rfl⟩,by dsimp only;omega⟩;rw[Dp hk,B2 hk];and_intros<;>first|rfl|trivial
 ·have c:=of_decide_eq_false c;have hk:k=ps.length:=by omega
  subst hk;have b1:=bd ps.length (Nat.le_refl _);have pw:(100:Int) ^ ps.length≤10000:=by rcases (show ps.length=0∨ps.length=1∨ps.length=2 by omega) with e|e|e<;>rw[e]<;>decide
  rw[List.take_length] at b1 ⊢;exact⟨by omega,by and_intros<;>first|rfl|trivial⟩
def GQ:AL ((Int×Int×(List (Int×Int))×Int)×Int):=(.cons (.agg (.cons (.k (.i .i64)) (.cons (.k (.i .i64)) (.cons (.k (.list (.pair (.i .i64) (.i .i64)))) (.one (.k (.i .i64))))))) (.one (.k (.i .i64))))
def Te (d:(Int×Int×(List (Int×Int))×Int)×Int):Prop:=d.1.2.2.1.length≤1000
def NW (d:(Int×Int×(List (Int×Int))×Int)×Int):SV:=.tup [.val (.i .i64) (WD d.1.1 d.1.2.1 d.1.2.2.1 d.1.2.2.2 d.2),.val (.i .i64) (J5 d.1.1 d.1.2.1 d.1.2.2.1 d.1.2.2.2 d.2)]
def Mk (d:(Int×Int×(List (Int×Int))×Int)×Int):List OB:=[]
def N8:CSp:=XE GQ Te NW Mk
def Yw (rt:Int) (st:Int) (ps:List (Int×Int)) (ro:Int) (n:Int):Prop :=
 (ps.length≤1000)∧(((Z9 rt st ps ro) != (0:Int))=true →
  (((0:Int)=(WD rt st ps ro n)∧(Z9 rt st ps ro)=(J5 rt st ps ro n)∧(([]:List SV)=[]))∧(True))) ∧
 (((Z9 rt st ps ro) != (0:Int))=false →
  ([n].length≤1000000)∧((!(!([n].any fun n=>decide (n<0)||decide (10000000000<n))))=true →
   (((0:Int)=(WD rt st ps ro n)∧(3:Int)=(J5 rt st ps ro n)∧(([]:List SV)=[]))∧(True))) ∧
  ((!(!([n].any fun n=>decide (n<0)||decide (10000000000<n))))=false →
   (Z9 rt st ps ro=0)∧(I64 (n*(BQ (takeN ro st ps) (Xy rt ps))))∧((PF (takeN ro st ps) (Xy rt ps))≠0)∧(I64 (Int.tdiv (n*(BQ (takeN ro st ps) (Xy rt ps))) (PF (takeN ro st ps) (Xy rt ps))))∧(((Int.tdiv (n*(BQ (takeN ro st ps) (Xy rt ps))) (PF (takeN ro st ps) (Xy rt ps)))=(WD rt st ps ro n)∧(0:Int)=(J5 rt st ps ro n)∧(([]:List SV)=[]))∧(True))))
def D6:Cx:=⟨[(3,(.i .i64))],[(20,UY),(21,YE),(22,N2)],28,[],0,[],[],[],[],false,[],[],[],[]⟩
def RK (rt:Int) (st:Int) (ps:List (Int×Int)) (ro:Int) (n:Int):List (Nat×LoopAnn):=[]
set_option maxRecDepth 100000 in
theorem SP (d:(Int×Int×(List (Int×Int))×Int)×Int):gwp (D6) (RK d.1.1 d.1.2.1 d.1.2.2.1 d.1.2.2.2 d.2) c7 0 (WI [.tmp 4,.tmp 5] (NW d) (Mk d)) (Qs 28 (AL.can GQ d))=Yw d.1.1 d.1.2.1 d.1.2.2.1 d.1.2.2.2 d.2:=by kernel_rfl
abbrev Su:Prop:=OkC Tryz.prog 7 N8
theorem Sw (h:∀ (rt:Int) (st:Int) (ps:List (Int×Int)) (ro:Int) (n:Int),(ps.length≤1000)→Yw rt st ps ro n):OkC Tryz.prog 7 N8 :=
 QA Q99 mixed (C:=D6) (V:=fun (d:(Int×Int×(List (Int×Int))×Int)×Int)=>Yw d.1.1 d.1.2.1 d.1.2.2.1 d.1.2.2.2 d.2) ⟨(.cons RZ (.cons BR (.cons L2 .nil))),XsOk.nil,ItsOk.nil,YlOk.nil,IysOk.nil,XfOk.nil⟩ (SP) fun d hp=>h d.1.1 d.1.2.1 d.1.2.2.1 d.1.2.2.2 d.2 hp
theorem SB:Su:=Sw fun rt st ps ro n h=>by
 unfold Yw;(try delta lI gD sT I64);have e:∀ n a b:Int,(decide (n<a)||decide (b<n))=!inI n a b:=fun n a b=>(nIb n a b).symm;simp only[List.any_cons,List.any_nil,Bool.or_false,e,Bool.not_not,List.length_cons,List.length_nil];refine⟨h,fun c=>?_,fun c=>⟨by omega,fun c2=>?_,fun c2=>?_⟩⟩
 ·have c:Z9 rt st ps ro≠0:=by simpa using c
  have e1:J5 rt st ps ro n=Z9 rt st ps ro:=by unfold J5;rw[if_pos c]
  have e2:WD rt st ps ro n=0:=by unfold WD;rw[if_neg (by rw[e1];exact c)]
  rw[e1,e2];and_intros<;>first|rfl|trivial
 ·have c:Z9 rt st ps ro=0:=by simpa using c
  have e1:J5 rt st ps ro n=3:=by unfold J5;rw[if_neg (by omega),if_pos c2]
  have e2:WD rt st ps ro n=0:=by unfold WD;rw[if_neg (by omega)]
  rw[e1,e2];and_intros<;>first|rfl|trivial
 ·have c:Z9 rt st ps ro=0:=by simpa using c
  have e1:J5 rt st ps ro n=0:=by unfold J5;rw[if_neg (by omega),if_neg (by rw[c2];decide)]
  have e2:WD rt st ps ro n=Int.tdiv (n*BQ (takeN ro st ps) (Xy rt ps)) (PF (takeN ro st ps) (Xy rt ps)):=by unfold WD;rw[if_pos e1]
  obtain⟨l2,-,-,-,-⟩:=Nk c;have b1:=Cq c ps.length (Nat.le_refl _);have pw:(100:Int) ^ ps.length≤10000:=by rcases (show ps.length=0∨ps.length=1∨ps.length=2 by omega) with e|e|e<;>rw[e]<;>decide
  rw[List.take_length] at b1;have hl:=Q11 (a:=takeN ro st ps) (b:=Xy rt ps) (by omega) (by omega);have hn:0≤n∧n≤10000000000:=by unfold inI at c2;simp only[Bool.not_eq_false',Bool.and_eq_true,decide_eq_true_eq] at c2;exact c2
  have m0:0≤n*BQ (takeN ro st ps) (Xy rt ps):=Int.mul_nonneg hn.1 (by omega);have m1:n*BQ (takeN ro st ps) (Xy rt ps)≤10000000000*1000000:=Int.mul_le_mul hn.2 (by omega) (by omega) (by omega);rw[e1,e2];generalize n*BQ (takeN ro st ps) (Xy rt ps)=M at *
  generalize PF (takeN ro st ps) (Xy rt ps)=N at *
  have q0:=Int.tdiv_nonneg m0 (show 0≤N by omega);have q1:Int.tdiv M N≤M:=by rw[Int.tdiv_eq_ediv_of_nonneg m0];exact Int.ediv_le_self _ m0
  refine⟨c,by rw[QN];omega,by omega,by rw[QN];omega,?_⟩;and_intros<;>first|rfl|trivial
end Go.Proofs.Tryz