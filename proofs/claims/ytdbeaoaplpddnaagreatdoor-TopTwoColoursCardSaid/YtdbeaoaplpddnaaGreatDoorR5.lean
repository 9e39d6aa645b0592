/- A framework for walks, contracts of functions, and their proofs: part 5. -/
import Derived.Test.YtdbeaoaplpddnaaGreatDoorR4
namespace Go.V
open Go
section
variable {P:Program}{B F:Heap}{pl:Nat→Value}{tb:Nat→Option Bool}{s:St}{env:Env}{σ:Heap}
theorem Vy {k k':Kind}{xs:List k.T}{ys:List k'.T}(h:M8 (k:=.list k) xs (k':=.list k') ys):∃ e:k'=k,e▸ys=xs:=by
 unfold M8 at h;split at h
 ·rename_i z hz;have e:=Rv hz;obtain rfl:=Kind.list.inj e;obtain rfl:=R0 hz;exact⟨rfl,h⟩
 ·exact h.elim
theorem QO (hG:Gam P B F pl tb s env σ) {mp:List (Nat×Option Nat)}{t:Nat}{b:OB}(h:Ou s mp t b) :
  OR P B (VW pl mp) Jn σ (VW pl mp t) b∧(b.live=true→∀ i,Oid (VW pl mp t) i→∃ a,Qs mp t=some (some a)∧(Qd s.own a).live=true∧Oid (pl a) i):=by
 unfold Ou at h;split at h
 ·rename_i a ha;have aQ:VW pl mp t=pl a:=by simp[VW,ha]
  rw[aQ];have ao:=hG.obj a;split at h
  ·exact⟨trivial,fun h=>by cases h⟩
  ·rename_i ty k xs nl mh k' cu kS ho;split at h
   ·rename_i e;subst e;obtain⟨h1,rfl⟩:=h;obtain⟨rfl,rfl⟩:=Vy h1;rw[ho] at ao;exact⟨ao,fun _ i hi=>⟨a,ha,by rw[ho];rfl,hi⟩⟩
   ·exact h.elim
  ·rename_i l u l' u' ho;split at h
   ·rename_i e0;subst e0;rw[ho] at ao;obtain⟨i,c,e,t',h1,h2,h3,h4⟩:=ao;exact⟨⟨i,c,e,t',h1,h2,ZK l l' c h h3,h4⟩,fun _ i hi=>⟨a,ha,by rw[ho];rfl,hi⟩⟩
   ·exact h.elim
  ·rename_i kk vk m kU nE m' ho;split at h
   ·obtain⟨e,h1⟩:=Vy h;obtain⟨rfl,rfl⟩:=Kind.pair.inj e;subst h1;rw[ho] at ao;exact⟨ao,fun _ i hi=>⟨a,ha,by rw[ho];rfl,hi⟩⟩
   ·exact h.elim
  ·rename_i l vals l' jR ho;rw[ho] at ao;obtain⟨rfl,h⟩:=h;exact⟨ZK l l' vals h ao,fun h=>by cases h⟩
  ·rename_i l q u l' q' u' ho;rw[ho] at ao;split at h
   ·obtain⟨rfl,h⟩:=h;exact⟨⟨ao.1,ZK l l' q.vals h ao.2.1,ao.2.2⟩,fun _ i hi=>⟨a,ha,by rw[ho];rfl,hi⟩⟩
   ·obtain⟨rfl,h⟩:=h;exact⟨⟨ao.1,ZK l l' q.vals h ao.2.1,ao.2.2⟩,fun h=>by cases h⟩
   ·exact h.elim
  ·rename_i kk vk m dn kU nE m' sg ho;split at h
   ·obtain⟨h,rfl⟩:=h;obtain⟨e,h1⟩:=Vy h;obtain⟨rfl,rfl⟩:=Kind.pair.inj e;subst h1;rw[ho] at ao;exact⟨ao,fun _ i hi=>⟨a,ha,by rw[ho];rfl,hi⟩⟩
   ·exact h.elim
  ·rename_i ty q k xs nl h0 mh q' k' cu kS rS ho;split at h
   ·rename_i e;obtain⟨rfl,rfl⟩:=e;split at h
    ·obtain⟨h1,rfl⟩:=h;obtain⟨rfl,rfl⟩:=Vy h1;rw[ho] at ao;exact⟨ao,fun _ i hi=>⟨a,ha,by rw[ho];rfl,hi⟩⟩
    ·exact h.elim
   ·exact h.elim
  ·exact h.elim
 ·rename_i ha;have aQ:VW pl mp t=.slice none 0 0:=by simp[VW,ha]
  rw[aQ];split at h
  ·exact⟨.inl ⟨h.2,h.1,rfl⟩,fun _ i hi=>by cases hi⟩
  ·split at h
   ·obtain⟨rfl,rfl⟩:=h;refine⟨⟨[],fun i=>⟨fun h=>(by cases h),fun ⟨b,h⟩=>(by cases h)⟩,List.nodup_nil,.inl ⟨rfl,rfl,rfl⟩,fun i=>⟨fun ⟨b,h⟩=>(by cases h),fun h=>(by cases h)⟩,(fun i b h=>by cases h),by simp[phd]⟩,fun _ i hi=>by cases hi⟩
   ·exact h.elim
  ·exact h.elim
 ·exact h.elim
theorem K9 {α:Type _}(l:List (Nat×α)) (t:Nat) (x:α) (d:Nat):Qs (l++[(t,x)]) d=match Qs l d with|some y=>some y|none=>if t=d then some x else none:=by
 induction l with
 |nil =>
  simp only[List.nil_append,Qs];by_cases h:t=d
  ·subst h;simp
  ·rw[XE h];simp[h]
 |cons p l ih =>obtain⟨k,y⟩:=p;simp only[List.cons_append,Qs,ih];cases Nat.beq k d<;>rfl
theorem C3 {α:Type _}{l:List (Nat×α)}{d:Nat}{x:α}(h:Qs l d=some x):∃ p∈l,p.1=d∧p.2=x:=by
 induction l with
 |nil=>cases h
 |cons p l ih =>
  obtain⟨k,y⟩:=p;simp only[Qs] at h;cases hb:Nat.beq k d with
  |true=>rw[hb] at h;obtain rfl:=osj h;exact⟨_,List.mem_cons_self,Nat.eq_of_beq_eq_true hb,rfl⟩
  |false =>rw[hb] at h;obtain⟨p,h1,h2⟩:=ih h;exact⟨p,List.mem_cons_of_mem _ h1,h2⟩
def Inj (mp:List (Nat×Option Nat)):Prop:=∀ t t' a,Qs mp t=some (some a)→Qs mp t'=some (some a)→t=t'
theorem BR:∀ (l:List (Nat×Src)) (mp bU:List (Nat×Option Nat)),Q7s s l mp=some bU→Inj mp→Inj bU
 |[],mp,bU,h,hi=>by obtain rfl:=osj h;exact hi
 |(t,src)::r,mp,bU,h,hi=>by
  simp only[Q7s] at h;split at h
  ·rename_i a _;split at h
   ·cases h
   ·rename_i hc;refine BR r _ _ h ?_;have cG:∀ d,Qs mp d≠some (some a):=fun d hd=>by
     obtain⟨p,h1,h2,h3⟩:=C3 hd;apply hc;simp only[Bool.or_eq_true];exact .inl (List.any_eq_true.2 ⟨p,h1,by rw[h3];simp⟩)
    intro t1 t2 a' h1 h2;rw[K9] at h1 h2;split at h1
    ·rename_i y1 e1;split at h2
     ·rename_i y2 e2;obtain rfl:=osj h1;obtain rfl:=osj h2;exact hi t1 t2 a' e1 e2
     ·split at h2
      ·obtain rfl:=osj (osj h2);obtain rfl:=osj h1;exact absurd e1 (cG t1)
      ·cases h2
    ·split at h1
     ·rename_i e1;obtain rfl:=osj (osj h1);split at h2
      ·rename_i y2 e2;obtain rfl:=osj h2;exact absurd e2 (cG t2)
      ·split at h2
       ·rename_i e2;omega
       ·cases h2
     ·cases h1
  ·split at h
   ·cases h
   ·refine BR r _ _ h ?_;intro t1 t2 a' h1 h2;rw[K9] at h1 h2;split at h1
    ·rename_i y1 e1;split at h2
     ·rename_i y2 e2;obtain rfl:=osj h1;obtain rfl:=osj h2;exact hi t1 t2 a' e1 e2
     ·split at h2<;>cases h2
    ·split at h1<;>cases h1
  ·cases h
theorem Sa {mp:List (Nat×Option Nat)}:∀ {ow:List (Nat×Src×OB)},gmatch.obs s mp ow→∀ p∈ow,Ou s mp p.1 p.2.2
 |[],_,p,hp=>by cases hp
 |(t,src,b)::r,h,p,hp=>by
  simp only[gmatch.obs] at h;rcases List.mem_cons.1 hp with rfl|hp
  ·exact h.1
  ·exact Sa h.2 p hp
theorem KR {f:List (Nat×Src×OB)}:∀ (own:Own) (t:Nat),(∃ p∈f,p.1=t∧Qd (f.foldl (fun o p=>oset o p.1 p.2.2) own) t=p.2.2)∨Qd (f.foldl (fun o p=>oset o p.1 p.2.2) own) t=Qd own t:=by
 induction f with
 |nil=>intro own t;exact .inr rfl
 |cons p f ih =>
  intro own t;simp only[List.foldl_cons];rcases ih (oset own p.1 p.2.2) t with⟨q,h1,h2⟩|h
  ·exact .inl ⟨q,List.mem_cons_of_mem _ h1,h2⟩
  ·rw[h,Qv];by_cases e:t=p.1
   ·rw[if_pos e];exact .inl ⟨p,List.mem_cons_self,e.symm,rfl⟩
   ·rw[if_neg e];exact .inr rfl
theorem Pd (hG:Gam P B F pl tb s env σ) {mp:List (Nat×Option Nat)}:∀ (st:List (Nat×SV)) {e:List SV}{eV:Env},gmatch.slots s mp st→SRs P B (VW pl mp) Jn e eV→SRs P B (VW pl mp) Jn (st.foldl (fun e p=>e.set p.1 p.2) e) (Xl (st.map (·.1)) (BL (st.map (·.1)) env) eV)
 |[],e,eV,_,h=>h
 |(j,v)::r,e,eV,hs,h=>by simp only[gmatch.slots] at hs;simp only[List.foldl_cons,List.map_cons,BL,Xl];exact Pd hG r hs.2 (h.set j (V9 v _ _ hs.1 (hG.env.getD j poison)))
theorem I4 {B:Heap}{pl:Nat→Value}{tb:Nat→Option Bool}:∀ n,SRs P B pl tb (List.replicate n .any) (List.replicate n poison)
 |0=>by simp[SRs]
 |n+1=>by simp only[List.replicate_succ,SRs];exact⟨_,_,rfl,by simp[SR],I4 n⟩
theorem B5 {B0 F0 D0:Heap}(hR:GRel P B0 F0 D0 s env σ) {st:List (Nat×SV)}{ow:List (Nat×Src×OB)}(h:gmatch s st ow) (len:Nat):GRel P B0 F0 D0 (Z9 len st ow) (Xl (st.map (·.1)) (BL (st.map (·.1)) env) (List.replicate len poison)) σ:=by
 obtain⟨B,F,pl,tb,hB,hG⟩:=hR;unfold gmatch at h;split at h
 ·rename_i mp lh;obtain⟨h1,h2⟩:=h;have dC:=BR _ _ _ lh (fun t t' a h=>by cases h);have aO:=Sa h2;have ao:∀ t,(Qd (Z9 len st ow).own t).live=true→Ou s mp t (Qd (Z9 len st ow).own t):=fun t hl=>by
   rcases KR (f:=ow) [] t with⟨p,h3,h4,h5⟩|h3
   ·have:=aO p h3;rw[h4,←h5] at this;exact this
   ·simp only[Z9] at hl;rw[h3] at hl;cases hl
  refine⟨B,F,VW pl mp,Jn,hB,hG.bf,hG.le,Pd hG st h1 (I4 len),fun t=>?_,fun t i hl hi=>?_,fun t t' i aC hl b8 hi bZ=>?_,fun _ _=>rfl⟩
  ·cases hl:(Qd (Z9 len st ow).own t).live with
   |true=>exact(QO hG (ao t hl)).1
   |false =>
    cases ho:Qd (Z9 len st ow).own t with
    |dead=>trivial
    |stk l vals =>
     rcases KR (f:=ow) [] t with⟨p,h3,h4,h5⟩|h3
     ·have:=aO p h3;simp only[Z9] at ho;rw[←h5,ho] at this;have h6:=(QO hG this).1;rw[h4] at h6;exact h6
     ·simp only[Z9] at ho;rw[h3] at ho;cases ho
    |lpf l q u =>
     rcases KR (f:=ow) [] t with⟨p,h3,h4,h5⟩|h3
     ·have:=aO p h3;simp only[Z9] at ho;rw[←h5,ho] at this;have h6:=(QO hG this).1;rw[h4] at h6;exact h6
     ·simp only[Z9] at ho;rw[h3] at ho;cases ho
    |_=>rw[ho] at hl;cases hl
  ·obtain⟨a,_,h4,h5⟩:=(QO hG (ao t hl)).2 hl i hi;exact hG.fresh a i h4 h5
  ·obtain⟨a,e1,h4,h5⟩:=(QO hG (ao t hl)).2 hl i hi;obtain⟨a',e2,gm,qi⟩:=(QO hG (ao t' b8)).2 b8 i bZ;by_cases e:a=a'
   ·subst e;exact aC (dC t t' a e1 e2)
   ·exact hG.sep a a' i e h4 gm h5 qi
 ·exact h.elim
theorem Da:∀ {dh cz:List SV}{vs:List Value}{B F:Heap}{s s':St},Gam P B F pl tb s env σ→SRs P B pl tb dh vs→Q3a s dh=some (s',cz) →
  ∃ B' F',GBase B F σ B' F' σ∧Gam P B' F' pl tb s' env σ∧SRs P B' Xd Jn cz vs∧s'.env=s.env
 |[],cz,vs,B,F,s,s',hG,hs,h=>by simp only[Q3a,Option.some.injEq,Prod.mk.injEq] at h;obtain⟨rfl,rfl⟩:=h;exact⟨B,F,.of hG.bf (.refl _),hG,hs,rfl⟩
 |v::dh,cz,vs,B,F,s,s',hG,hs,h=>by
  simp only[SRs] at hs;obtain⟨u,us,rfl,h1,h2⟩:=hs
  have n6:∀ w:SV,SR P B pl tb w u→(bif w.pure then (match Q3a s dh with|some (s',r)=>some (s',w::r)|none=>none) else none)=some (s',cz) →
    ∃ B' F',GBase B F σ B' F' σ∧Gam P B' F' pl tb s' env σ∧SRs P B' Xd Jn cz (u::us)∧s'.env=s.env:=fun w hw h=>by
   cases hp:w.pure with
   |false=>rw[hp] at h;cases h
   |true =>
    rw[hp] at h;simp only[_root_.cond_true] at h;split at h
    ·rename_i s1 r heq;simp only[Option.some.injEq,Prod.mk.injEq] at h;obtain⟨rfl,rfl⟩:=h;obtain⟨B',F',k1,k2,k3,k4⟩:=Da hG h2 heq;exact⟨B',F',k1,k2,by simp only[SRs];exact⟨u,us,rfl,SR.mono k1.b (fun _ _ h=>h) _ _ (T_ w u hp hw),k3⟩,k4⟩
    ·cases h
  simp only[Q3a] at h;split at h
  ·rename_i o;split at h
   ·rename_i l _ ho;cases hp:SVs.pure l with
    |false=>rw[hp] at h;cases h
    |true =>
     rw[hp] at h;simp only[_root_.cond_true] at h;split at h
     ·rename_i s1 r heq;simp only[Option.some.injEq,Prod.mk.injEq] at h;obtain⟨rfl,rfl⟩:=h;have ao:=hG.obj o;rw[ho] at ao;obtain⟨i,c,e,t,e1,e2,e3,_⟩:=ao;obtain⟨k1,k2⟩:=hG.freeze (o:=o) (i:=i) (by rw[ho];rfl) (by rw[e1];rfl);obtain⟨B',F',j1,j2,j3,j4⟩:=Da k2 (SRs.mono k1.b (fun _ _ h=>h) _ _ h2) heq;refine⟨B',F',k1.trans j1,j2,?_,j4⟩;simp only[SRs];refine⟨u,us,rfl,?_,j3⟩;simp only[SR] at h1 ⊢;obtain⟨b,q1,q2⟩:=h1;rw[e1] at q1;obtain rfl:i=b:=by simpa using q1
      refine⟨i,c,e,true,t,j1.b.2 _ _ ?_,q2,SRs.mono (k1.trans j1).b (fun _ _ h=>h) _ _ (Zm l c hp e3)⟩;rw[Heap.ins_self];exact e2
     ·cases h
   ·cases h
  ·exact n6 _ h1 h
theorem Gam.lpUpd (hG:Gam P B F pl tb s env σ) {n:Nat}{b b0:Blk}(hF:F.get n=some b0) (hB:B.get n=none):Gam P B (F.upd n b) pl tb s env (σ.upd n b):=by
 have aC:∀ {d i},(Qd s.own d).live=true→Oid (pl d) i→i≠n:=fun h1 h2 e=>by have:=hG.fresh _ _ h1 h2;subst e;rw[hF] at this;cases this
 refine⟨⟨hG.bf.1,fun i c hc=>?_⟩,⟨hG.le.1,fun i c hc=>?_⟩,hG.env,fun d=>(hG.obj d).mono (.refl _) (fun _ _ h=>h) fun h1 i h2=>Heap.get_upd_ne _ _ (aC h1 h2),fun d i h1 h2=>?_,hG.sep,hG.free⟩
 ·have:i≠n:=by rintro rfl;rw[hB] at hc;cases hc
  rw[Heap.get_upd_ne _ _ this];exact hG.bf.2 _ _ hc
 ·by_cases e:i=n
  ·subst e;rw[Heap.get_upd_self _ _ (F.lt hF)] at hc;rw[Heap.get_upd_self _ _ (Nat.lt_of_lt_of_le (F.lt hF) hG.le.1)];exact hc
  ·rw[Heap.get_upd_ne _ _ e] at hc ⊢;exact hG.le.2 _ _ hc
 ·rw[Heap.get_upd_ne _ _ (aC h1 h2)];exact hG.fresh _ _ h1 h2
theorem Gam.lpKill (hG:Gam P B F pl tb s env σ) {n:Nat}{b0:Blk}(hF:F.get n=some b0) (hB:B.get n=none):Gam P B (F.kill n) pl tb s env (σ.kill n):=by
 have aC:∀ {d i},(Qd s.own d).live=true→Oid (pl d) i→i≠n:=fun h1 h2 e=>by have:=hG.fresh _ _ h1 h2;subst e;rw[hF] at this;cases this
 refine⟨⟨hG.bf.1,fun i c hc=>?_⟩,⟨hG.le.1,fun i c hc=>?_⟩,hG.env,fun d=>(hG.obj d).mono (.refl _) (fun _ _ h=>h) fun h1 i h2=>Heap.get_kill_ne _ (aC h1 h2),fun d i h1 h2=>?_,hG.sep,hG.free⟩
 ·have:i≠n:=by rintro rfl;rw[hB] at hc;cases hc
  rw[Heap.get_kill_ne _ this];exact hG.bf.2 _ _ hc
 ·by_cases e:i=n
  ·subst e;rw[Heap.get_kill_self] at hc;cases hc
  ·rw[Heap.get_kill_ne _ e] at hc ⊢;exact hG.le.2 _ _ hc
 ·rw[Heap.get_kill_ne _ (aC h1 h2)];exact hG.fresh _ _ h1 h2
theorem GRel.lpUpd {B1 F1 D0:Heap}(h:GRel P B1 F1 D0 s env σ) {n:Nat}{b b0:Blk}(hF:F1.get n=some b0) (hB:B1.get n=none):GRel P B1 (F1.upd n b) D0 s env (σ.upd n b):=by
 obtain⟨B,F,pl,tb,dm,hG⟩:=h;have n7:=dm.f.2 _ _ hF;have n8:=dm.x _ _ hF hB;refine⟨B,F.upd n b,pl,tb,⟨dm.b,⟨dm.f.1,fun i c hc=>?_⟩,fun i c h1 h2=>?_,⟨dm.d.1,fun i h1 h2=>?_⟩⟩,hG.lpUpd n7 n8⟩
 ·by_cases e:i=n
  ·subst e;rw[Heap.get_upd_self _ _ (F1.lt hF)] at hc;rw[Heap.get_upd_self _ _ (F.lt n7)];exact hc
  ·rw[Heap.get_upd_ne _ _ e] at hc ⊢;exact dm.f.2 _ _ hc
 ·by_cases e:i=n
  ·subst e;exact n8
  ·rw[Heap.get_upd_ne _ _ e] at h1;exact dm.x _ _ h1 h2
 ·have hd:=dm.d.2 i h1 h2;have:i≠n:=by rintro rfl;rw[hG.le.2 _ _ n7] at hd;cases hd
  rw[Heap.get_upd_ne _ _ this];exact hd
theorem GRel.lpKill {B1 F1 D0:Heap}(h:GRel P B1 F1 D0 s env σ) {n:Nat}{b0:Blk}(hF:F1.get n=some b0) (hB:B1.get n=none):GRel P B1 (F1.kill n) D0 s env (σ.kill n):=by
 obtain⟨B,F,pl,tb,dm,hG⟩:=h;have n7:=dm.f.2 _ _ hF;have n8:=dm.x _ _ hF hB;refine⟨B,F.kill n,pl,tb,⟨dm.b,⟨dm.f.1,fun i c hc=>?_⟩,fun i c h1 h2=>?_,⟨dm.d.1,fun i h1 h2=>?_⟩⟩,hG.lpKill n7 n8⟩
 ·by_cases e:i=n
  ·subst e;rw[Heap.get_kill_self] at hc;cases hc
  ·rw[Heap.get_kill_ne _ e] at hc ⊢;exact dm.f.2 _ _ hc
 ·by_cases e:i=n
  ·subst e;exact n8
  ·rw[Heap.get_kill_ne _ e] at h1;exact dm.x _ _ h1 h2
 ·have hd:=dm.d.2 i h1 h2;by_cases e:i=n
  ·subst e;exact Heap.get_kill_self _ _
  ·rw[Heap.get_kill_ne _ e];exact hd
theorem GRel.base {B0 F0 B1 F1 D0:Heap}(h:GRel P B1 F1 D0 s env σ) (hb:B0.Le B1) (hf:F0.Le F1) (hx:∀ i b,F0.get i=some b→B0.get i=none→B1.get i=none):GRel P B0 F0 D0 s env σ:=by obtain⟨B,F,pl,tb,dm,hG⟩:=h;exact⟨B,F,pl,tb,⟨hb.trans dm.b,hf.trans dm.f,fun i b h1 h2=>dm.x i b (hf.2 _ _ h1) (hx i b h1 h2),dm.d⟩,hG⟩
theorem DX (hG:Gam P B F pl tb s env σ) {mp:List (Nat×Option Nat)}:∀ (st:List (Nat×SV)) {e:List SV},gmatch.slots s mp st→SRs P B (VW pl mp) Jn e env→SRs P B (VW pl mp) Jn (st.foldl (fun e p=>e.set p.1 p.2) e) env
 |[],e,_,h=>h
 |(j,v)::r,e,hs,h=>by
  simp only[gmatch.slots] at hs;simp only[List.foldl_cons];refine DX hG r hs.2 ?_;have:=h.set j (V9 v _ _ hs.1 (hG.env.getD j poison));by_cases hj:j<env.length
  ·rwa [List.getD_eq_getElem?_getD,List.getElem?_eq_getElem hj,Option.getD_some,List.set_getElem_self] at this
  ·rw[List.set_eq_of_length_le (by rw[h.length];omega)];exact h
theorem At {B:Heap}{pl:Nat→Value}{tb:Nat→Option Bool}:∀ (env:Env),SRs P B pl tb (List.replicate (List.length env) .any) env
 |[]=>by simp[SRs]
 |v::env=>by simp only[List.length_cons,List.replicate_succ,SRs];exact⟨_,_,rfl,by simp[SR],At env⟩
theorem Vw {B0 F0 D0:Heap}(hR:GRel P B0 F0 D0 s env σ) {st:List (Nat×SV)}{ow:List (Nat×Src×OB)}(h:gmatch s st ow):GRel P B0 F0 D0 (Z9 (List.length env) st ow) env σ:=by
 obtain⟨B,F,pl,tb,hB,hG⟩:=hR;unfold gmatch at h;split at h
 ·rename_i mp lh;obtain⟨h1,h2⟩:=h;have dC:=BR _ _ _ lh (fun t t' a h=>by cases h);have aO:=Sa h2;have ao:∀ t,(Qd (Z9 (List.length env) st ow).own t).live=true→Ou s mp t (Qd (Z9 (List.length env) st ow).own t):=fun t hl=>by
   rcases KR (f:=ow) [] t with⟨p,h3,h4,h5⟩|h3
   ·have:=aO p h3;rw[h4,←h5] at this;exact this
   ·simp only[Z9] at hl;rw[h3] at hl;cases hl
  refine⟨B,F,VW pl mp,Jn,hB,hG.bf,hG.le,DX hG st h1 (At env),fun t=>?_,fun t i hl hi=>?_,fun t t' i aC hl b8 hi bZ=>?_,fun _ _=>rfl⟩
  ·cases hl:(Qd (Z9 (List.length env) st ow).own t).live with
   |true=>exact(QO hG (ao t hl)).1
   |false =>
    cases ho:Qd (Z9 (List.length env) st ow).own t with
    |dead=>trivial
    |stk l vals =>
     rcases KR (f:=ow) [] t with⟨p,h3,h4,h5⟩|h3
     ·have:=aO p h3;simp only[Z9] at ho;rw[←h5,ho] at this;have h6:=(QO hG this).1;rw[h4] at h6;exact h6
     ·simp only[Z9] at ho;rw[h3] at ho;cases ho
    |lpf l q u =>
     rcases KR (f:=ow) [] t with⟨p,h3,h4,h5⟩|h3
     ·have:=aO p h3;simp only[Z9] at ho;rw[←h5,ho] at this;have h6:=(QO hG this).1;rw[h4] at h6;exact h6
     ·simp only[Z9] at ho;rw[h3] at ho;cases ho
    |_=>rw[ho] at hl;cases hl
  ·obtain⟨a,_,h4,h5⟩:=(QO hG (ao t hl)).2 hl i hi;exact hG.fresh a i h4 h5
  ·obtain⟨a,e1,h4,h5⟩:=(QO hG (ao t hl)).2 hl i hi;obtain⟨a',e2,gm,qi⟩:=(QO hG (ao t' b8)).2 b8 i bZ;by_cases e:a=a'
   ·subst e;exact aC (dC t t' a e1 e2)
   ·exact hG.sep a a' i e h4 gm h5 qi
 ·exact h.elim
theorem Sc {α:Type}{o:Option α}{f:α→Prop}(h:QX o f):∃ a,f a:=by
 cases o with
 |none=>exact h.elim
 |some a=>exact⟨a,h⟩
theorem COk.nx {C:Cx}(h:COk P C):COk P C.nx:=⟨h.cs,fun f x hx=>(by cases hx),h.it,h.yl,h.iy,fun f j _ x hx=>(by cases hx)⟩
theorem W3 {S:VSpecs}{Q:Prop}:∀ {ops:List DOper}{env:Env}{hs:List Heap}{σ:Heap}{pend:List (Nat×(Heap→Prop))},J4 S ops env hs σ pend (fun _ _=>Q)→Q
 |[],_,_,_,_,h=>h
 |o::r,env,hs,σ,pend,h=>by
  simp only[J4] at h;obtain⟨b,h⟩:=Sc h;cases b with
  |true =>
   have h:=h.1 rfl;split at h
   ·obtain⟨v,σ',_,_,h⟩:=h;exact W3 h
   ·split at h
    ·obtain⟨p,_,h⟩:=Sc h;exact W3 h
    ·obtain⟨p,h⟩:=Sc h;exact W3 h
  |false =>
   have h:=h.2 rfl;split at h
   ·exact W3 h.2
   ·exact W3 h
theorem HL {C:Cx}{s:St}{st:List (Nat×SV)}{ow:List (Nat×Src×OB)}{Q:Prop}:∀ (ls:List (List DOper)),Q30 C ls s st ow Q→(∀ l∈ls,X1 C.nx l s 1 0 [] [] fun s'=>Dl s.env.length s' st ow)∧Q
 |[],h=>⟨fun l hl=>(by cases hl),h⟩
 |l::ls,h=>by obtain⟨h1,h2⟩:=h;obtain⟨h3,h4⟩:=HL ls h2;exact⟨fun l' b8=>(List.mem_cons.1 b8).elim (fun e=>e▸h1) (h3 l'),h4⟩
theorem VF {B0 F0 D0:Heap}{s:St}{env:Env}{σ:Heap}{n:Nat}(hR:GRel P B0 F0 D0 s env σ) {st:List (Nat×SV)}{ow:List (Nat×Src×OB)}(h:Dl n s st ow):GRel P B0 F0 D0 (Z9 n st ow) env σ:=by
 unfold Dl at h;cases hb:Nat.beq s.env.length n with
 |false=>rw[hb] at h;exact h.elim
 |true =>
  rw[hb] at h;have hl:env.length=n:=by rw[←Nat.eq_of_beq_eq_true hb];obtain⟨_,_,_,_,_,hG⟩:=hR;exact hG.env.length.symm
  rw[←hl];exact Vw hR h
theorem W9 {C:Cx}(aA:COk P C) {B0 F0 D0:Heap}:∀ (aP:List DSeg) {s:St}{env:Env}{σ:Heap},GRel P B0 F0 D0 s env σ→∀ {K:St→Prop},RY C aP s K→∀ {R:Env→Heap→Prop},(∀ s' af σ',K s'→GRel P B0 F0 D0 s' af σ'→R af σ')→NH (Q3 P) aP env σ R
 |[],s,env,σ,hR,K,h,R,hK=>hK s env σ h hR
 |.one o::r,s,env,σ,hR,K,h,R,hK=>by refine Nu aA [o] hR (K:=fun s'=>RY C r s' K) h fun s' af σ' h1 h2=>?_;exact W9 aA r h2 h1 hK
 |.alts [l]::r,s,env,σ,hR,K,h,R,hK=>by
  simp only[RY] at h;cases hd:Q1u l with
  |false =>
   rw[hd] at h;simp only[_root_.cond_false] at h;cases hk:l.all (fun o=>o.kind==o.op.kind) with
   |false=>rw[hk] at h;exact h.elim
   |true =>
    rw[hk] at h;simp only[_root_.cond_true] at h;intro ops ho;obtain rfl:=List.mem_singleton.1 ho;obtain⟨B,F,pl,tb,hB,hG⟩:=hR;have one:∀ (j:Nat) (τ:Heap),([σ]:List Heap)[j]?=some τ→τ=σ:=fun j τ ht=>by
     cases j with
     |zero=>simpa using ht.symm
     |succ j=>simp at ht
    exact Qp aA ops (fun o ho=>by simpa using List.all_eq_true.1 hk o ho) hB hG (hl:=1) (chg:=0) (A:=[]) (Rd:=[]) ⟨rfl,fun j τ _ ht=>one j τ ht,(fun c hc=>absurd hc (by simp)),fun j τ q i ht _ _ _=>by rw[one j τ ht]⟩ (pend:=[]) (pd:=[]) (fun c hc=>absurd hc (by simp)) (fun j τ ht _=>by rw[one j τ ht];exact hG.leB) (Nat.zero_le _) (Nat.succ_pos _) h fun s' af σ' h1 h2=>⟨af,σ',.refl _ _ _,W9 aA r h2 h1 hK⟩
  |true =>rw[hd] at h;refine Oc (l:=l) hd ?_;exact Nu aA _ hR h fun s' af σ' h1 h2=>W9 aA r h2 h1 hK
 |.alts []::r,s,env,σ,hR,K,h,R,hK=>h.elim
 |.alts (l::l2::ls)::r,s,env,σ,hR,K,h,R,hK=>by
  simp only[RY] at h;cases hk:(l::l2::ls).all (fun l=>l.all fun o=>o.kind==o.op.kind) with
  |false=>rw[hk] at h;exact h.elim
  |true =>
   rw[hk] at h;simp only[_root_.cond_true] at h;obtain⟨B,F,pl,tb,hB,hG⟩:=hR;have one:∀ (j:Nat) (τ:Heap),([σ]:List Heap)[j]?=some τ→τ=σ:=fun j τ ht=>by
    cases j with
    |zero=>simpa using ht.symm
    |succ j=>simp at ht
   have run:∀ l'∈l::l2::ls,∀ {K':St→Prop},X1 C.nx l' s 1 0 [] [] K'→∀ {R':Env→Heap→Prop},(∀ s' af σ',K' s'→GRel P B0 F0 D0 s' af σ'→R' af σ')→J4 (Q3 P) l' env [σ] σ [] R':=fun l' b8 K' h' R' qf =>
    Qn aA.nx rfl l' (fun o ho=>by simpa using List.all_eq_true.1 (List.all_eq_true.1 hk l' b8) o ho) hB hG (hl:=1) (chg:=0) (A:=[]) (Rd:=[]) ⟨rfl,fun j τ _ ht=>one j τ ht,(fun c hc=>absurd hc (by simp)),fun j τ q i ht _ _ _=>by rw[one j τ ht]⟩ (pend:=[]) (pd:=[]) (fun c hc=>absurd hc (by simp)) (fun j τ ht _=>by rw[one j τ ht];exact hG.leB) (Nat.zero_le _) (Nat.succ_pos _) h' qf
   obtain⟨s0,h0,h1⟩:=W3 (run l List.mem_cons_self h (R':=fun _ _=>∃ s0:St,_) fun s' _ _ h' _=>⟨s',h'⟩);obtain⟨h2,h3⟩:=HL _ h1;intro ops ho;rcases List.mem_cons.1 ho with rfl|eF
   ·refine W6 ?_;exact run ops ho h fun s' af σ' h' qj=>⟨af,σ',.refl _ _ _,by
     obtain⟨k1,k2⟩:=h';exact W9 aA r (VF qj k1) (HL _ k2).2 hK⟩
   ·refine W6 ?_;exact run ops ho (h2 ops eF) fun s' af σ' h' qj=>⟨af,σ',.refl _ _ _,W9 aA r (VF qj h') h3 hK⟩
theorem H0:∀ (l:List Nat) (vs:List SV),(Q3f l vs).map (·.1)=l
 |[],_=>rfl
 |j::js,[]=>by simp[Q3f,H0 js []]
 |j::js,v::vs=>by simp[Q3f,H0 js vs]
theorem Ng {B:Heap}{pl:Nat→Value}{tb:Nat→Option Bool}:∀ {ps:List Nat}{xs:List SV}{us:List Value}{e:List SV}{env:Env},SRs P B pl tb xs us→SRs P B pl tb e env→SRs P B pl tb (Gz e ps xs) (PO env ps us)
 |[],xs,us,e,env,_,h=>by simpa [Gz,PO] using h
 |p::ps,[],us,e,env,hx,h=>by simp only[SRs] at hx;subst hx;simpa [Gz,PO] using h
 |p::ps,x::xs,us,e,env,hx,h=>by simp only[SRs] at hx;obtain⟨u,me,rfl,h1,h2⟩:=hx;simp only[Gz,PO];exact Ng h2 (h.set p h1)
def Q9c (F0:Heap):Option Nat→Prop
 |none=>True
 |some i=>∃ env r st pend,F0.get i=some (.obj (.lp env r st pend) true)
theorem Gam.dropLp {B F:Heap}{pl:Nat→Value}{tb:Nat→Option Bool}{s:St}{env:Env}{σ:Heap}(hG:Gam P B F pl tb s env σ) {o:Nat}{l:List SV}{q:LpD}{u:LpS}(ho:Qd s.own o=.lpf l q u) (hl:u.live=true) :
  Gam P B F pl tb ⟨l,oset s.own o .dead,s.nx⟩ q.vals (σ.kill q.i)∧σ.get q.i=some (.obj (.lp q.vals q.r u.st u.pend) true):=by
 have ao:=hG.obj o;rw[ho] at ao;obtain⟨h1,h2,h3⟩:=ao;have jx:(Qd s.own o).live=true:=by rw[ho];exact hl
 have jd:Oid (pl o) q.i:=by rw[h1];rfl
 have hF:=hG.fresh o q.i jx jd;have lv:∀ d,(Qd (oset s.own o .dead) d).live=true→d≠o∧(Qd s.own d).live=true:=fun d h=>by
  rw[Qv] at h;by_cases e:d=o
  ·rw[if_pos e] at h;cases h
  ·rw[if_neg e] at h;exact⟨e,h⟩
 refine⟨⟨hG.bf,⟨hG.le.1,fun j b hb=>?_⟩,h2,fun d=>?_,fun d i hd hi=>hG.fresh d i (lv d hd).2 hi,fun d d' i e h h'=>hG.sep d d' i e (lv d h).2 (lv d' h').2,hG.free⟩,h3 hl⟩
 ·have e:j≠q.i:=by rintro rfl;rw[hF] at hb;cases hb
  rw[Heap.get_kill_ne _ e];exact hG.le.2 _ _ hb
 ·rw[Qv];by_cases e:d=o
  ·rw[if_pos e];trivial
  ·rw[if_neg e];refine (hG.obj d).mono (.refl _) (fun _ _ h=>h) fun hd i hi=>?_;have:i≠q.i:=by rintro rfl;exact hG.sep d o q.i e hd jx hi jd
   exact Heap.get_kill_ne _ this
theorem O2 (s:St) (o:Nat) (b:OB) (j:Nat):Qd (s.make o b).own j=if j=o then b else (Qd s.own j).kill o:=by
 simp only[St.make,Qv];by_cases h:j=o
 ·subst h;simp
 ·simp only[h,if_false,St.kill,Yn]
theorem Gam.enterLp {B F:Heap}{pl:Nat→Value}{tb:Nat→Option Bool}{s:St}{env:Env}{σ:Heap}(hG:Gam P B F pl tb s env σ) {o aH:Nat}{l:List SV}{q:LpD}(ho:Qd s.own o=.lpf l q .rdy) (aC:o≠aH)
  {args:List SV}{us:List Value}(ax:SRs P B pl tb args us) (ps:List Nat) :
  Gam P B (F.ins σ q.i hG.le.1) (Jj pl aH poison) tb ⟨Gz (SVs.kill aH l) ps (SVs.kill aH args),oset (Cq aH env s).own o (.lpf (SVs.kill aH l) q .busy),s.nx⟩ (PO q.vals ps us) σ:=by
 have q3:Gam P B F (Jj pl aH poison) tb (Cq aH env s) env σ:=by refine hG.make aH _ poison hG.le (fun _ _ _ _ _=>rfl) ?_ (fun i hl _=>by cases hl);exact SRs.upd (.refl _) (fun _ _ h=>h) (fun j hj=>by simp[Jj,hj]) _ _ hG.env
 have ao:=hG.obj o;rw[ho] at ao;obtain⟨h1,h2,h3⟩:=ao;have jx:(Qd s.own o).live=true:=by rw[ho];rfl
 have oV:Jj pl aH poison o=.pointer (some ⟨q.i,0,none⟩):=by simp[Jj,aC,h1]
 have uO:Qd (Cq aH env s).own o=.lpf (SVs.kill aH l) q .rdy:=by have:=O2 s aH (.stk (SVs.kill aH s.env) env) o;unfold Cq;rw[this,if_neg aC,ho];rfl
 have n9:(Qd (Cq aH env s).own o).live=true:=by rw[uO];rfl
 have jd:Oid (Jj pl aH poison o) q.i:=by rw[oV];rfl
 have hF:=q3.fresh o q.i n9 jd;have cq:SRs P B (Jj pl aH poison) tb (SVs.kill aH l) q.vals:=SRs.upd (.refl _) (fun _ _ h=>h) (fun j hj=>by simp[Jj,hj]) _ _ h2;have qk:SRs P B (Jj pl aH poison) tb (SVs.kill aH args) us:=SRs.upd (.refl _) (fun _ _ h=>h) (fun j hj=>by simp[Jj,hj]) _ _ ax;have lv:∀ d,(Qd (oset (Cq aH env s).own o (.lpf (SVs.kill aH l) q .busy)) d).live=true→d≠o∧(Qd (Cq aH env s).own d).live=true:=fun d h=>by
  rw[Qv] at h;by_cases e:d=o
  ·rw[if_pos e] at h;cases h
  ·rw[if_neg e] at h;exact⟨e,h⟩
 refine⟨q3.bf.trans (hG.le.ins _),hG.le.ins_le _,Ng qk cq,fun d=>?_,fun d i hd hi=>?_,fun d d' i e h h'=>q3.sep d d' i e (lv d h).2 (lv d' h').2,q3.free⟩
 ·show OR P B _ tb σ _ (Qd (oset _ o _) d);rw[Qv];by_cases e:d=o
  ·subst e;rw[if_pos rfl];exact⟨oV,cq,fun h=>by cases h⟩
  ·rw[if_neg e];exact q3.obj d
 ·obtain⟨e,sB⟩:=lv d hd;have:i≠q.i:=by rintro rfl;exact q3.sep d o q.i e sB n9 hi jd
  rw[Heap.ins_ne _ _ _ this];exact q3.fresh d i sB hi
theorem Gam.leaveLp {B F:Heap}{pl:Nat→Value}{tb:Nat→Option Bool}{s:St}{env:Env}{σ:Heap}(hG:Gam P B F pl tb s env σ) {o aH:Nat}{l l2:List SV}{jS:List Value}{q:LpD}{b0:Blk}(hF:F.get q.i=some b0) (hB:B.get q.i=none)
  (h2:Qd s.own aH=.stk l2 jS) (ho:Qd s.own o=.lpf l q .busy) (u:LpS) :
  Gam P B (F.kill q.i) pl tb ⟨l2,oset (oset s.own aH .dead) o (.lpf l q u),s.nx⟩ jS (σ.upd q.i (.obj (.lp q.vals q.r u.st u.pend) true)):=by
 have ao:=hG.obj o;rw[ho] at ao;obtain⟨k1,k2,_⟩:=ao;have hk:=hG.obj aH;rw[h2] at hk;have hi:q.i<σ.n:=σ.lt (hG.le.2 _ _ hF);have aC:∀ {d i},(Qd s.own d).live=true→Oid (pl d) i→i≠q.i:=fun h1 h2 e=>by have:=hG.fresh _ _ h1 h2;subst e;rw[hF] at this;cases this
 have jd:∀ i,Oid (pl o) i→i=q.i:=fun i h=>by rw[k1] at h;exact(osj h).symm
 have hg:∀ d,Qd (oset (oset s.own aH .dead) o (.lpf l q u)) d=if d=o then .lpf l q u else if d=aH then .dead else Qd s.own d:=fun d=>by rw[Qv,Qv]
 have lv:∀ d,d≠o→(Qd (oset (oset s.own aH .dead) o (.lpf l q u)) d).live=true→(Qd s.own d).live=true:=fun d e h=>by
  rw[hg,if_neg e] at h;split at h
  ·cases h
  ·exact h
 refine⟨⟨hG.bf.1,fun j b hb=>?_⟩,⟨hG.le.1,fun j b hb=>?_⟩,hk,fun d=>?_,fun d i hd bZ=>?_,fun d d' i e h h' h1 gy=>?_,hG.free⟩
 ·have e:j≠q.i:=by rintro rfl;rw[hB] at hb;cases hb
  rw[Heap.get_kill_ne _ e];exact hG.bf.2 _ _ hb
 ·by_cases e:j=q.i
  ·subst e;rw[Heap.get_kill_self] at hb;cases hb
  ·rw[Heap.get_kill_ne _ e] at hb;rw[Heap.get_upd_ne _ _ e];exact hG.le.2 _ _ hb
 ·show OR P B pl tb _ _ (Qd (oset _ o _) d);rw[hg];by_cases e:d=o
  ·subst e;rw[if_pos rfl];exact⟨k1,k2,fun _=>Heap.get_upd_self _ _ hi⟩
  ·rw[if_neg e];split
   ·trivial
   ·exact(hG.obj d).mono (.refl _) (fun _ _ h=>h) fun hd i hi=>Heap.get_upd_ne _ _ (aC hd hi)
 ·by_cases e:d=o
  ·subst e;rw[jd i bZ];exact Heap.get_kill_self _ _
  ·rw[Heap.get_kill_ne _ (aC (lv d e hd) bZ)];exact hG.fresh d i (lv d e hd) bZ
 ·by_cases e1:d=o
  ·subst e1;have e2:d'≠d:=fun h=>e h.symm;exact aC (lv d' e2 h') gy (jd i h1)
  ·by_cases e2:d'=o
   ·subst e2;exact aC (lv d e1 h) h1 (jd i gy)
   ·exact hG.sep d d' i e (lv d e1 h) (lv d' e2 h') h1 gy
theorem P2 {C:Cx}(aA:COk P C) {L:List (Nat×LoopAnn)}(vc:VCode):∀ {B0 F0 D0:Heap}(n:Nat) (K:Exit→St→Prop) (s:St) (env:Env) (σ:Heap) (ro:Option Nat) (Q:Exit→Env→Heap→Prop),Q9c F0 ro→GRel P B0 F0 D0 s env σ→gwp C L vc n K s→(∀ e s' af σ',K e s'→GRel P B0 F0 D0 s' af σ'→Q e af σ')→vwp (Q3 P) vc ro Q env σ:=by
 induction vc with
 |skip=>intro B0 F0 D0 n K s env σ ro Q bK hR h hK;exact hK _ _ _ _ h hR
 |region ops=>intro B0 F0 D0 n K s env σ ro Q bK hR h hK;exact Nu aA ops hR h fun s' af σ' h1 h2=>hK _ _ _ _ h1 h2
 |regionD aP=>intro B0 F0 D0 n K s env σ ro Q bK hR h hK;exact W9 aA aP hR h fun s' af σ' h1 h2=>hK _ _ _ _ h1 h2
 |rangeF g ps a b eS eu =>
  intro B0 F0 D0 n K s env σ ro Q bK hR h hK;simp only[gwp] at h;split at h
  ·rename_i f first dh hg
   split at h
   ·
    rename_i x hx;obtain⟨B,F,pl,tb,hB,hG⟩:=hR;have ga:=hG.evs (Gds.nil (tb:=tb)) g;rw[hg] at ga;simp only[SR] at ga;obtain⟨x',y',a9,lj,n_⟩:=ga;obtain⟨gO,mf⟩:=aA.iy f x hx;show vwp (Q3 P) (.rangeF g ps a b) ro Q env σ;simp only[vwp,LC,a9];have lk:(Q3 P).it f=some fun i Y args σ K=>KG P i Y→VCallsTo P f args σ K:=by simp only[Q3];rw[if_pos gO]
    rw[lk];refine⟨?_,fun r hY=>?_⟩
    ·cases ro with
     |none=>trivial
     |some i =>obtain⟨e1,r1,st1,ql,hi⟩:=bK;exact⟨e1,r1,st1,ql,hG.le.2 _ _ (hB.f.2 _ _ hi)⟩
    generalize l4:C.off+2000000+n=o at h;generalize ff:100000*(o+1)-1=aH at h;have aj:o≠aH:=by omega
    let q:LpD:=⟨σ.n,env,r⟩;let rdy:Blk:=.obj (.lp env r .ready none) true;let eK:Blk:=.obj (.lp env r .busy none) true;let p0:Value:=.pointer (some ⟨σ.n,0,none⟩);have hZ:Gam P B F (Jj pl o p0) tb (Z22 o q s) env (σ.push rdy):=by refine hG.push o (.lpf (SVs.kill o s.env) q .rdy) p0 rdy rfl ⟨rfl,SRs.upd (.refl _) (fun _ _ h=>h) (fun j hj=>by simp[Jj,hj]) _ _ hG.env,fun _=>Heap.get_push_self _ _⟩
    have kl:∀ {xs us},SRs P B pl tb xs us→SRs P B (Jj pl o p0) tb (SVs.kill o xs) us:=fun h=>SRs.upd (.refl _) (fun _ _ h=>h) (fun j hj=>by simp[Jj,hj]) _ _ h;have ax:SRs P B (Jj pl o p0) tb (SVs.kill o first++(.dd o .yv::SVs.kill o dh)) (x'++(.func (.yield σ.n) #[] #[]::y')):=by refine (kl lj).append ?_;simp only[SRs,SR,DR];exact⟨_,_,rfl,⟨σ.n,by simp[Jj,p0],rfl⟩,kl n_⟩
    have uP:Q09 P o (Ip o aH ps.length q (fun K' s'=>gwp C L a n (Q0v (fun s3=>gwp C L b n K' s3) fun _ _=>False) s') ps):=by
     intro B F pl tb s af σ args us K R i hG ha hy oV hK;unfold Ip at hy;split at hy
     ·rename_i l q' u ho;split at hy
      ·cases hlen:Nat.beq args.length ps.length with
       |false=>rw[hlen] at hy;exact hy.elim
       |true =>
       rw[hlen] at hy;simp only[_root_.cond_true] at hy;obtain⟨rfl,hy⟩:=hy;have ao:=hG.obj o;rw[ho] at ao;have hi:i=q.i:=by have h1:=ao.1;rw[oV] at h1;have:=osj (Value.pointer.inj h1);exact(Addr.mk.inj this).1
       subst hi;have ll:σ.get q.i=some rdy:=ao.2.2 rfl;have jx:(Qd s.own o).live=true:=by rw[ho];rfl
       have mi:F.get q.i=none:=hG.fresh o q.i jx (by rw[ao.1];rfl);have sC:B.get q.i=none:=by
        cases hb:B.get q.i with
        |none=>rfl
        |some b=>rw[hG.bf.2 _ _ hb] at mi;cases mi
       have jY:=hG.enterLp ho aj ha ps;have h_:(F.ins σ q.i hG.le.1).get q.i=some rdy:=by rw[Heap.ins_self];exact ll
       have eY:(F.ins σ q.i hG.le.1).n=σ.n:=rfl;have aN:q.i<σ.n:=σ.lt ll;refine hY us σ R ⟨ll,by rw[←ha.length];exact(Nat.eq_of_beq_eq_true hlen),?_⟩;refine eS (B0:=B) (F0:=F.ins σ q.i hG.le.1) (D0:=σ) n _ _ _ σ (some q.i) _ ⟨env,r,_,_,h_⟩ ⟨B,_,_,tb,.of jY.bf (Dead.refl _),jY⟩ (hy af) fun e s3 qm σ3 h7 h8=>?_;cases e with
       |normal =>
        have iT:σ3.get q.i=some rdy:=by obtain⟨B',F',pl',tb',q1,q2⟩:=h8;exact q2.le.2 _ _ (q1.f.2 _ _ h_)
        refine⟨iT,?_⟩;have h9:=h8.lpUpd (b:=eK) h_ sC;have mj:((F.ins σ q.i hG.le.1).upd q.i eK).get q.i=some eK:=Heap.get_upd_self _ _ (by rw[eY];exact aN);refine eu (B0:=B) (F0:=(F.ins σ q.i hG.le.1).upd q.i eK) (D0:=σ) n _ _ _ _ (some q.i) _ ⟨env,r,_,_,mj⟩ h9 h7 fun e s4 qn σ4 bN fm=>?_;obtain⟨B',F',pl',tb',q1,q2⟩:=fm;have oW:=q1.f.2 _ _ mj;have qo:=q1.x _ _ mj sC;have oa:σ4.get q.i=some eK:=q2.le.2 _ _ oW;unfold gyK at bN;split at bN
        ·rename_i l2 jS l3 q3 u3 aq qp;split at bN
         ·obtain⟨rfl,rfl,bN⟩:=bN;have base:∀ b,GBase B F σ B' (F'.kill q.i) (σ4.upd q.i b):=fun b=>by
           refine⟨q1.b,⟨?_,fun j c hc=>?_⟩,fun j c h1 h2=>?_,q1.d.trans (Dead.upd _ _ _ (by rw[oa];rfl))⟩
           ·have h1:=q1.f.1;have h2:=hG.le.1;show F.n≤F'.n;have h3:((F.ins σ q.i hG.le.1).upd q.i eK).n=σ.n:=rfl;omega
           ·have e:j≠q.i:=by rintro rfl;rw[mi] at hc;cases hc
            rw[Heap.get_kill_ne _ e];refine q1.f.2 _ _ ?_;rw[Heap.get_upd_ne _ _ e,Heap.ins_ne _ _ _ e];exact hc
           ·have e:j≠q.i:=by rintro rfl;rw[mi] at h1;cases h1
            refine q1.x j c ?_ h2;rw[Heap.get_upd_ne _ _ e,Heap.ins_ne _ _ _ e];exact h1
          refine⟨oa,?_⟩;cases e with
          |normal=>exact hK _ _ B' _ pl' tb' _ _ bN (base _) (q2.leaveLp oW qo aq qp .rdy) (by simp[SR,KC])
          |ret=>exact hK _ _ B' _ pl' tb' _ _ bN (base _) (q2.leaveLp oW qo aq qp .ret) (by simp[SR,KC])
          |exit id=>exact hK _ _ B' _ pl' tb' _ _ bN (base _) (q2.leaveLp oW qo aq qp (.exit id)) (by simp[SR,KC])
          |_=>exact bN.elim
         ·exact bN.elim
        ·exact bN.elim
       |_=>exact h7.elim
      ·exact hy.elim
     ·exact hy.elim
    have aW:=mf B F _ tb _ env (σ.push rdy) o _ _ _ (Q36 o q K) (fun τ=>Q0z Q env σ.n poison τ) hZ ax uP (h q) fun s' B' F' pl' tb' af σ' hk hb dt=>by
     unfold Q36 at hk;split at hk
     ·rename_i l q' u ho;have fin:∀ {e:Exit},u.live=true→q'=q→K e ⟨l,oset s'.own o .dead,s'.nx⟩→Q e env (σ'.kill σ.n)∧σ'.get σ.n=some (.obj (.lp env r u.st u.pend) true):=fun {e} hu hq uQ=>by
       subst hq;obtain⟨g1,g2⟩:=dt.dropLp ho hu;refine⟨hK _ _ _ _ uQ ⟨B',F',pl',tb',⟨hB.b.trans hb.b,hB.f.trans hb.f,fun j c h1 h2=>hb.x j c (hB.f.2 _ _ h1) (hB.x j c h1 h2),hB.d.trans ((Dead.push _ _).trans (hb.d.trans (Dead.kill _ _)))⟩,g1⟩,g2⟩
      cases u with
      |busy=>exact hk.elim
      |rdy =>obtain⟨hq,hk⟩:=hk;obtain⟨k1,k2⟩:=fin rfl hq hk;unfold Q0z;rw[k2];exact⟨(by intro h;cases h),k1⟩
      |ret =>obtain⟨hq,hk⟩:=hk;obtain⟨k1,k2⟩:=fin rfl hq hk;unfold Q0z;rw[k2];exact⟨(by intro h;cases h),k1⟩
      |exit id =>obtain⟨hq,hk⟩:=hk;obtain⟨k1,k2⟩:=fin rfl hq hk;unfold Q0z;rw[k2];exact⟨(by intro h;cases h),k1⟩
     ·exact hk.elim
    refine VCallsTo.mono (R:=fun _ τ=>Q0z Q env σ.n poison τ) (by simpa using aW) fun v τ h=>h
   split at h
   rotate_left
   ·exact h.elim
   split at h
   ·rename_i it s1 cz A mR qq hA;split at h
    ·rename_i c m ar xs hc;cases eE:Nat.beq ps.length ar with
     |false=>rw[eE] at h;exact h.elim
     |true =>
     rw[eE] at h;simp only[_root_.cond_true] at h;obtain⟨dF,p,d0,fe,I,uR,sD,sE⟩:=h;have eE:=Nat.eq_of_beq_eq_true eE;have hlen:s.env.length=env.length:=by obtain⟨B,F,pl,tb,_,hG⟩:=hR;exact hG.env.length
     rw[hlen] at sD sE;have nU:=hR;obtain⟨B,F,pl,tb,hB,hG⟩:=hR;have ga:=hG.evs Gds.nil g;rw[hg] at ga;simp only[SR] at ga;obtain⟨x,y,a9,hx,hy⟩:=ga;simp only[SRs] at hx;subst hx;obtain⟨B1,F1,ob,fW,uS,iB⟩:=Da hG hy qq;obtain⟨gO,qs⟩:=aA.it f it mR;obtain⟨oc,qt⟩:=qs B1 cz y c m ar xs uS hc dF;have uT:GRel P B1 F1 D0 (Z9 (List.length env) (A.st p d0) (A.own p d0)) env σ:=Vw ⟨B1,F1,pl,tb,⟨.refl _,.refl _,fun _ _ _ h=>h,(hB.trans ob).d⟩,fW⟩ fe;have jZ:B1.get σ.n=none:=B1.wf _ fW.leB.1;have oX:F1.get σ.n=none:=F1.wf _ fW.le.1;show vwp (Q3 P) (.rangeF g ps a b) ro Q env σ;simp only[vwp,LC,a9];have lk:(Q3 P).it f=some fun i Y args σ K=>KG P i Y→VCallsTo P f args σ K:=by simp only[Q3];rw[if_pos gO]
     rw[lk];refine⟨?_,fun r hY=>?_⟩
     ·cases ro with
      |none=>trivial
      |some i =>obtain⟨e1,r1,st1,ql,hi⟩:=bK;exact⟨e1,r1,st1,ql,hG.le.2 _ _ (hB.f.2 _ _ hi)⟩
     ·let rdy:Blk:=.obj (.lp env r .ready none) true;let eK:Blk:=.obj (.lp env r .busy none) true;have j5:F1.Le (σ.push rdy):=fW.le.push rdy;let Fr:=F1.ins (σ.push rdy) σ.n j5.1;have h_:Fr.get σ.n=some rdy:=by
       show (F1.ins _ _ _).get σ.n=_;rw[Heap.ins_self,Heap.get_push_self]
      have eY:Fr.n=σ.n+1:=rfl;have uU:F1.Le Fr:=j5.ins σ.n;let J:Nat→Heap→Prop:=fun k τ=>∃ d,I k d∧GRel P B1 Fr D0 (Z9 (List.length env) (A.st p d) (A.own p d)) env τ;let E:Heap→Prop:=fun τ=>∃ cd e,τ.get σ.n=some (.obj (.lp env r .done (some cd)) true)∧((cd=.ret∧e=Exit.ret)∨∃ id,cd=.exit id∧e=Exit.exit id)∧Q e env (τ.kill σ.n);have back:∀ {s':St}{τ:Heap},GRel P B1 (Fr.upd σ.n eK) D0 s' env τ→∀ b,GRel P B1 ((Fr.upd σ.n eK).upd σ.n b) D0 s' env (τ.upd σ.n b):=fun h b =>
       h.lpUpd (b0:=eK) (Heap.get_upd_self _ _ (by rw[eY];omega)) jZ
      have ia:∀ {Fx:Heap}{b0:Blk}{s':St}{τ:Heap},Fx.get σ.n=some b0→(∀ i,i≠σ.n→Fx.get i=F1.get i)→Fx.n=σ.n+1→GRel P B1 Fx D0 s' env τ→GRel P B0 F0 D0 s' env (τ.kill σ.n):=fun {Fx b0 s' τ} h1 h2 h3 h4=>by
       refine (h4.lpKill h1 jZ).base (hB.b.trans ob.b) ⟨?_,fun i b hb=>?_⟩ fun i b k1 k2=>(hB.trans ob).x i b k1 k2
       ·show F0.n≤Fx.n;rw[h3];have:=(hB.trans ob).f.1;have:=fW.le.1;omega
       ·have bg:=(hB.trans ob).f.2 _ _ hb;have e:i≠σ.n:=by rintro rfl;rw[oX] at bg;cases bg
        rw[Heap.get_kill_ne _ e,h2 i e];exact bg
      have je:∀ i,i≠σ.n→Fr.get i=F1.get i:=fun i e=>Heap.ins_ne _ _ _ e;have aW:=qt σ.n _ J E (σ.push rdy) hY (fun k τ ⟨d,_,hd⟩=>?_) (fun k us τ hk ⟨d,qu,hd⟩ fa=>?_) ⟨d0,uR,?_⟩
      ·refine VCallsTo.mono (R:=fun _ τ=>J m τ∨E τ) (by simpa using aW) fun v τ pQ=>?_;unfold Q0z;rcases pQ with⟨d,qu,hd⟩|⟨cd,e,h1,h2,h3⟩
       ·have ll:τ.get σ.n=some rdy:=by
         obtain⟨B',F',pl',tb',q1,q2⟩:=hd;exact q2.le.2 _ _ (q1.f.2 _ _ h_)
        rw[ll];exact⟨(by intro h;cases h),hK _ _ _ _ (sE d qu) (ia h_ je eY hd)⟩
       ·rw[h1];refine⟨(by intro h;cases h),?_⟩;rcases h2 with⟨rfl,rfl⟩|⟨id,rfl,rfl⟩<;>exact h3
      ·obtain⟨B',F',pl',tb',q1,q2⟩:=hd;exact q1.b.trans q2.leB
      ·
       have ll:τ.get σ.n=some rdy:=by obtain⟨B',F',pl',tb',q1,q2⟩:=hd;exact q2.le.2 _ _ (q1.f.2 _ _ h_)
       refine⟨ll,by rw[eE,←(oc k).1,fa.length],?_⟩;have hF:=sD k d hk qu env;have bq:GRel P B1 Fr D0 ⟨Gz (Cq (2000000+n) env (Z9 (List.length env) (A.st p d) (A.own p d))).env ps (xs k),(Cq (2000000+n) env (Z9 (List.length env) (A.st p d) (A.own p d))).own,0⟩ (PO env ps us) τ:=by
        obtain⟨B',F',pl',tb',q1,q2⟩:=hd;have q3:Gam P B' F' (Jj pl' (2000000+n) poison) tb' (Cq (2000000+n) env (Z9 (List.length env) (A.st p d) (A.own p d))) env τ:=by refine q2.make (2000000+n) _ poison q2.le (fun _ _ _ _ _=>rfl) ?_ (fun i hl _=>by cases hl);exact SRs.upd (.refl _) (fun _ _ h=>h) (fun j hj=>by simp[Jj,hj]) _ _ q2.env
        refine⟨B',F',Jj pl' (2000000+n) poison,tb',q1,⟨q3.bf,q3.le,Ng ?_ q3.env,q3.obj,q3.fresh,q3.sep,?_⟩⟩
        ·exact SRs.mono q1.b (fun _ _ h=>h) _ _ (Zm _ _ (oc k).2 fa)
        ·exact q3.free
       refine eS (B0:=B1) (F0:=Fr) n _ _ _ τ (some σ.n) _ ⟨env,r,_,_,h_⟩ bq hF fun e s3 qm σ3 h7 h8=>?_;cases e with
       |normal =>
        have iT:σ3.get σ.n=some rdy:=by obtain⟨B',F',pl',tb',q1,q2⟩:=h8;exact q2.le.2 _ _ (q1.f.2 _ _ h_)
        refine⟨iT,?_⟩;have h9:=h8.lpUpd (b:=eK) h_ jZ;have mj:(Fr.upd σ.n eK).get σ.n=some eK:=Heap.get_upd_self _ _ (by rw[eY];omega);refine eu (B0:=B1) (F0:=Fr.upd σ.n eK) n _ _ _ _ (some σ.n) _ ⟨env,r,_,_,mj⟩ h9 h7 fun e s4 qn σ4 bN fm=>?_;have oa:σ4.get σ.n=some eK:=by obtain⟨B',F',pl',tb',q1,q2⟩:=fm;exact q2.le.2 _ _ (q1.f.2 _ _ mj)
        have sF:σ.n<σ4.n:=σ4.lt oa;unfold IS at bN;split at bN
        ·rename_i l vs ln;obtain⟨rfl,bN⟩:=bN;have cG:GRel P B1 (Fr.upd σ.n eK) D0 ⟨l,s4.own,s4.nx⟩ vs σ4:=by
          obtain⟨B',F',pl',tb',q1,q2⟩:=fm;have:=q2.obj (2000000+n);rw[ln] at this;exact⟨B',F',pl',tb',q1,q2.bf,q2.le,this,q2.obj,q2.fresh,q2.sep,q2.free⟩
         have lq:∀ b,((Fr.upd σ.n eK).upd σ.n b).get σ.n=some b:=fun b=>Heap.get_upd_self _ _ (by show σ.n<Fr.n;rw[eY];omega);have qv:∀ b i,i≠σ.n→((Fr.upd σ.n eK).upd σ.n b).get i=F1.get i:=fun b i e=>by rw[Heap.get_upd_ne _ _ e,Heap.get_upd_ne _ _ e,je i e]
         refine⟨oa,?_⟩;cases e with
         |normal =>
          obtain⟨d',jT,oS⟩:=bN;refine .inl ⟨rfl,d',oS,?_⟩;have:=(back (Vw cG jT) rdy).base (B0:=B1) (F0:=Fr) (.refl _) ⟨Nat.le_refl _,fun i b hb=>?_⟩ fun i b k1 k2=>k2
          ·exact this
          ·by_cases e:i=σ.n
           ·subst e;rw[h_] at hb;rw[lq];exact hb
           ·rw[qv _ _ e,←je i e];exact hb
         |ret =>refine .inr ⟨rfl,_,_,Heap.get_upd_self _ _ sF,.inl ⟨rfl,rfl⟩,hK _ _ _ _ bN (ia (lq _) (qv _) (by show Fr.n=_;exact eY) (back cG _))⟩
         |exit id =>refine .inr ⟨rfl,_,_,Heap.get_upd_self _ _ sF,.inr ⟨id,rfl,rfl⟩,hK _ _ _ _ bN (ia (lq _) (qv _) (by show Fr.n=_;exact eY) (back cG _))⟩
         |_=>exact bN.elim
        ·exact bN.elim
       |_=>exact h7.elim
      ·
       obtain⟨B',F',pl',tb',q1,q2⟩:=uT;have hle:F'.Le (σ.push rdy):=q2.le.push rdy;have uV:F'.get σ.n=none:=F'.wf _ q2.le.1;have ao:∀ d i,(Qd (Z9 (List.length env) (A.st p d0) (A.own p d0)).own d).live=true→Oid (pl' d) i→i<σ.n:=fun d i h1 h2=>(q2.obj d).id_lt h1 h2;refine⟨B',F'.ins (σ.push rdy) σ.n hle.1,pl',tb',⟨q1.b,Heap.ins_ins q1.f _ _ _,fun i b k1 k2=>?_,q1.d.trans (Dead.push _ _)⟩,⟨q2.bf.trans (hle.ins _),hle.ins_le _,q2.env,fun d=>(q2.obj d).mono (.refl _) (fun _ _ h=>h) fun h1 i h2=>Heap.get_push_lt _ _ (ao d i h1 h2),fun d i h1 h2=>?_,q2.sep,q2.free⟩⟩
       ·by_cases e:i=σ.n
        ·subst e;exact B'.wf _ q2.leB.1
        ·rw[je i e] at k1;exact q1.x i b k1 k2
       ·rw[Heap.ins_ne _ _ _ (Nat.ne_of_lt (ao d i h1 h2))];exact q2.fresh d i h1 h2
    ·exact h.elim
   ·exact h.elim
  ·exact h.elim
 |bad=>intro B0 F0 D0 n K s env σ ro Q bK hR h hK;exact h.elim
 |ret=>intro B0 F0 D0 n K s env σ ro Q bK hR h hK;exact hK _ _ _ _ h hR
 |exit id=>intro B0 F0 D0 n K s env σ ro Q bK hR h hK;exact hK _ _ _ _ h hR
 |seq a b eS eu =>
  intro B0 F0 D0 n K s env σ ro Q bK hR h hK;refine eS n _ s env σ ro _ bK hR h fun e s' af σ' h1 h2=>?_;cases e with
  |normal=>exact eu n K s' af σ' ro Q bK h2 h1 hK
  |_=>exact hK _ _ _ _ h1 h2
 |cond c a b eS eu =>
  intro B0 F0 D0 n K s env σ ro Q bK hR h hK;simp only[gwp] at h;split at h
  ·rename_i t ht;have nU:=hR;obtain⟨B,F,pl,tb,hB,hG⟩:=hR;have:=Un hG ht;simp only[vwp,this,Ok];cases t with
   |true=>exact⟨fun _=>eS n K s env σ ro Q bK nU h hK,fun e=>by cases e⟩
   |false=>exact⟨(fun e=>by cases e),fun _=>eu n K s env σ ro Q bK nU h hK⟩
  split at h
  ·rename_i t ht;obtain⟨B,F,pl,tb,hB,hG⟩:=hR;have:=Xh ht (hG.evs Gds.nil c);simp only[vwp,this,Ok];split at h
   ·rename_i A hA;obtain⟨p,I,hF,hI⟩:=h;have fin:∀ e s' af σ',Q2b s.env.length A p I K e s'→GRel P B0 F0 D0 s' af σ'→Q e af σ':=fun e s' af σ' h1 h2=>by
     cases e with
     |normal =>obtain⟨d,h3,h4⟩:=h1;exact hK _ _ _ _ (hI d h4) (VF h2 h3)
     |_=>exact hK _ _ _ _ h1 h2
    exact⟨fun e=>eS n _ s env σ ro Q bK ⟨B,F,pl,tb,hB,hG⟩ (hF.1 e) fin,fun e=>eu n _ s env σ ro Q bK ⟨B,F,pl,tb,hB,hG⟩ (hF.2 e) fin⟩
   exact⟨fun e=>eS n K s env σ ro Q bK ⟨B,F,pl,tb,hB,hG⟩ (h.1 e) hK,fun e=>eu n K s env σ ro Q bK ⟨B,F,pl,tb,hB,hG⟩ (h.2 e) hK⟩
  ·exact h.elim
 |block id b ih =>
  intro B0 F0 D0 n K s env σ ro Q bK hR h hK;refine ih id _ s env σ ro _ bK hR h fun e s' af σ' h1 h2=>?_;cases e with
  |exit gG =>
   simp only[FW] at h1;simp only[E3];split
   ·rename_i e;rw[if_pos e] at h1;exact hK _ _ _ _ h1 h2
   ·rename_i e;rw[if_neg e] at h1;exact hK _ _ _ _ h1 h2
  |_=>exact hK _ _ _ _ h1 h2
 |loop b ih =>
  intro B0 F0 D0 n K s env σ ro Q bK hR h hK;simp only[gwp] at h;split at h
  ·rename_i A hA;obtain⟨p,d0,h1,I,μ,h2,h3⟩:=h;have hlen:s.env.length=env.length:=by obtain⟨B,F,pl,tb,_,hG⟩:=hR;exact hG.env.length
   have hk:∀ d,(A.st p d).map (·.1)=A.sl:=fun d=>H0 _ _;refine⟨A.sl,fun m vs σ'=>∃ d,I d∧μ d=m∧GRel P B0 F0 D0 (Z9 s.env.length (A.st p d) (A.own p d)) (Xl A.sl vs (List.replicate env.length poison)) σ',μ d0,⟨d0,h2,rfl,?_⟩,fun m vs σ' ⟨d,h4,h5,h6⟩=>?_⟩
   ·have:=B5 hR h1 s.env.length;rw[hk d0,hlen] at this;rw[hlen];exact this
   ·refine ih n _ _ _ σ' ro _ bK h6 (h3 d h4) fun e s' af aL h7 h8=>?_;cases e with
    |normal =>
     simp only[Q1l] at h7;cases nw:Q94 s'.own with
     |false=>rw[nw] at h7;exact h7.elim
     |true =>
     rw[nw] at h7;obtain⟨d',h9,bN,fm⟩:=h7;refine⟨μ d',by omega,d',bN,rfl,?_⟩;have:=B5 h8 h9 s.env.length;rw[hk d',hlen] at this;rw[hlen];exact this
    |_=>exact hK _ _ _ _ h7 h8
  ·exact h.elim
end
end Go.V
namespace Go.V
open Go
def Ls (s:St):VResult→Option SV
 |.tmp t=>some (s.env.getD t .any)
 |.cell a agg size=>bif Nat.blt 0 size then OT s.own agg size (s.env.getD a .any) else none
def NF (s:St) (rs:List VResult):Option SV :=
 match rs with
 |[r]=>Ls s r
 |rs=>(rs.mapM (Ls s)).map .tup
def Q17 (mp:List (Nat×Option Nat)) (j:Nat) (a:Option Nat):Option (List (Nat×Option Nat)) :=
 if (Qs mp j).isSome then none else match a with
 |some x=>if mp.any fun p=>p.2==some x then none else some (mp++[(j,a)])
 |none=>some (mp++[(j,a)])
mutual
def FE:SV→SV→List (Nat×Option Nat)→Option (List (Nat×Option Nat))
 |.lst j,v,mp=>match v with|.lst a=>Q17 mp j (some a)|.nilS=>Q17 mp j none|_=>none
 |.map j,v,mp=>match v with|.map a=>Q17 mp j (some a)|_=>none
 |.dd j w,v,mp=>match w with
  |.out=>(match v with
   |.dd a w'=>(match w' with|.out=>Q17 mp j (some a)|_=>none)
   |.nilS=>Q17 mp j none
   |_=>none)
  |_=>none
 |.box j _,v,mp=>match v with|.box a _=>Q17 mp j (some a)|_=>none
 |.agg l,v,mp=>match v with|.agg l'=>Fi l l' mp|_=>none
 |.tup l,v,mp=>match v with|.tup l'=>Fi l l' mp|_=>none
 |.any,_,mp=>some mp
 |.val _ _,_,mp=>some mp
 |.nilS,_,mp=>some mp
 |.nilP,_,mp=>some mp
 |.nilM,_,mp=>some mp
 |.nilF,_,mp=>some mp
 |.sub _ _ _ _,_,_|.elp _ _ _ _,_,_|.grd _ _,_,_|.cp _ _,_,_|.fn _ _ _,_,_|.rop _ _ _ _,_,_|.pf _ _ _ _,_,_|.bid _ _,_,_=>none
def Fi:List SV→List SV→List (Nat×Option Nat)→Option (List (Nat×Option Nat))
 |[],_,mp=>some mp
 |s::ss,l,mp=>match l with
  |v::vs=>match FE s v mp with|some mp=>Fi ss vs mp|none=>none
  |[]=>none
end
def FH (s:St) (mp:List (Nat×Option Nat)):Nat→List OB→Prop
 |_,[]=>True
 |j,b::r=>Ou s mp j b∧FH s mp (j+1) r
def Ws (rs:List VResult) (v:SV) (bs:List OB):Exit→St→Prop:=fun e s =>
 let fin:=match NF s rs with
  |some r=>(match FE v r [] with
   |some mp=>T5 mp v r∧FH s mp 0 bs
   |none=>False)
  |none=>False
 match e with
 |.normal=>fin
 |.ret=>fin
 |_=>False
section
variable {P:Program}{B F:Heap}{pl:Nat→Value}{tb:Nat→Option Bool}{s:St}{env:Env}{σ:Heap}
theorem HO (hG:Gam P B F pl tb s env σ) {r:VResult}{v:SV}(h:Ls s r=some v):∃ u,Jh env σ r=some u∧SR P B pl tb v u:=by
 cases r with
 |tmp t=>obtain rfl:=osj h;exact⟨_,rfl,hG.env.getD t undef⟩
 |cell a agg size =>
  simp only[Ls] at h;cases hb:Nat.blt 0 size with
  |false=>rw[hb] at h;cases h
  |true =>rw[hb] at h;obtain⟨i,o,c,e,wr,t,u,h1,h2,h3,h4⟩:=Pa hG.leB hG.obj (by simpa [Nat.blt_eq] using hb) h (hG.env.getD a undef);refine⟨u,?_,h4⟩;simp only[Jh,Q6,Q4,h1,h2,h3];rfl
theorem KL (hG:Gam P B F pl tb s env σ) {rs:List VResult}{v:SV}(h:NF s rs=some v):∃ u,JI env σ rs=some u∧SR P B pl tb v u:=by
 have all:∀ (rs:List VResult) (l:List SV),rs.mapM (Ls s)=some l→∃ us,rs.mapM (Jh env σ)=some us∧SRs P B pl tb l us:=by
  intro rs;induction rs with
  |nil=>intro l h;simp at h;subst h;exact⟨[],rfl,rfl⟩
  |cons r rs ih =>
   intro l h;rw[List.mapM_cons] at h;cases h1:Ls s r with
   |none=>simp[h1] at h
   |some a =>
    cases h2:rs.mapM (Ls s) with
    |none=>simp[h1,h2] at h
    |some l' =>simp[h1,h2] at h;subst h;obtain⟨u,h3,h4⟩:=HO hG h1;obtain⟨us,h5,h6⟩:=ih l' h2;exact⟨u::us,by rw[List.mapM_cons];simp[h3,h5],by simp only[SRs];exact⟨u,us,rfl,h4,h6⟩⟩
 have tup:(rs.mapM (Ls s)).map SV.tup=some v→∃ u,(rs.mapM (Jh env σ)).map (fun vs=>Value.tuple vs.toArray)=some u∧SR P B pl tb v u:=fun h=>by simp only[Option.map_eq_some_iff] at h;obtain⟨l,h1,rfl⟩:=h;obtain⟨us,h2,h3⟩:=all rs l h1;exact⟨.tuple us.toArray,by rw[h2];rfl,by simp only[SR];exact⟨us,rfl,h3⟩⟩
 match rs,h,tup with
 |[r],h,_=>exact HO hG h
 |[],h,tup=>exact tup h
 |_::_::_,h,tup=>exact tup h
theorem NG {mp bU:List (Nat×Option Nat)}{j:Nat}{a:Option Nat}(h:Q17 mp j a=some bU) (hi:Inj mp):Inj bU:=by
 unfold Q17 at h;split at h
 ·cases h
 ·split at h
  ·rename_i x;split at h
   ·cases h
   ·rename_i hc;obtain rfl:=osj h;have cG:∀ d,Qs mp d≠some (some x):=fun d hd=>by
     obtain⟨p,h1,h2,h3⟩:=C3 hd;exact hc (List.any_eq_true.2 ⟨p,h1,by rw[h3];simp⟩)
    intro t1 t2 a' h1 h2;rw[K9] at h1 h2;split at h1
    ·rename_i y1 e1;split at h2
     ·rename_i y2 e2;obtain rfl:=osj h1;obtain rfl:=osj h2;exact hi t1 t2 a' e1 e2
     ·split at h2
      ·obtain rfl:=osj (osj h2);obtain rfl:=osj h1;exact absurd e1 (cG t1)
      ·cases h2
    ·split at h1
     ·obtain rfl:=osj (osj h1);split at h2
      ·rename_i y2 e2;obtain rfl:=osj h2;exact absurd e2 (cG t2)
      ·split at h2
       ·omega
       ·cases h2
     ·cases h1
  ·obtain rfl:=osj h;intro t1 t2 a' h1 h2;rw[K9] at h1 h2;split at h1
   ·rename_i y1 e1;split at h2
    ·rename_i y2 e2;obtain rfl:=osj h1;obtain rfl:=osj h2;exact hi t1 t2 a' e1 e2
    ·split at h2<;>cases h2
   ·split at h1<;>cases h1
mutual
theorem Sr:∀ (v r:SV) (mp bU:List (Nat×Option Nat)),FE v r mp=some bU→Inj mp→Inj bU
 |.lst j,r,mp,bU,h,hi=>by
  simp only[FE] at h;split at h
  ·exact NG h hi
  ·exact NG h hi
  ·cases h
 |.map j,r,mp,bU,h,hi=>by
  simp only[FE] at h;split at h
  ·exact NG h hi
  ·cases h
 |.dd j w,r,mp,bU,h,hi=>by
  simp only[FE] at h;split at h
  ·split at h
   ·split at h
    ·exact NG h hi
    ·cases h
   ·exact NG h hi
   ·cases h
  ·cases h
 |.box j _,r,mp,bU,h,hi=>by
  simp only[FE] at h;split at h
  ·exact NG h hi
  ·cases h
 |.agg l,r,mp,bU,h,hi=>by
  simp only[FE] at h;split at h
  ·exact Hp l _ mp bU h hi
  ·cases h
 |.tup l,r,mp,bU,h,hi=>by
  simp only[FE] at h;split at h
  ·exact Hp l _ mp bU h hi
  ·cases h
 |.any,r,mp,bU,h,hi|.val _ _,r,mp,bU,h,hi|.nilS,r,mp,bU,h,hi|.nilP,r,mp,bU,h,hi|.nilM,r,mp,bU,h,hi|.nilF,r,mp,bU,h,hi=>by simp only[FE] at h;obtain rfl:=osj h;exact hi
 |.sub _ _ _ _,r,mp,bU,h,hi|.elp _ _ _ _,r,mp,bU,h,hi|.grd _ _,r,mp,bU,h,hi|.cp _ _,r,mp,bU,h,hi|.fn _ _ _,r,mp,bU,h,hi|.rop _ _ _ _,r,mp,bU,h,hi|.pf _ _ _ _,r,mp,bU,h,hi|.bid _ _,r,mp,bU,h,hi=>by cases h
theorem Hp:∀ (v r:List SV) (mp bU:List (Nat×Option Nat)),Fi v r mp=some bU→Inj mp→Inj bU
 |[],r,mp,bU,h,hi=>by simp only[Fi] at h;obtain rfl:=osj h;exact hi
 |s::ss,[],mp,bU,h,hi=>by cases h
 |s::ss,r::rs,mp,bU,h,hi=>by
  simp only[Fi] at h;split at h
  ·rename_i sG h1;exact Hp ss rs sG bU h (Sr s r mp sG h1 hi)
  ·cases h
end
theorem He {mp:List (Nat×Option Nat)}:∀ (bs:List OB) (n:Nat),FH s mp n bs→∀ j b,bs[j]?=some b→Ou s mp (n+j) b
 |[],n,_,j,b,hj=>by simp at hj
 |b0::r,n,h,j,b,hj=>by
  obtain⟨h1,h2⟩:=h;cases j with
  |zero=>simp at hj;subst hj;exact h1
  |succ j =>
   have:=He r (n+1) h2 j b (by simpa using hj)
   rwa [Nat.add_assoc,Nat.add_comm 1 j] at this
mutual
theorem AI {n:Nat}{π:Nat→Nat}:∀ (v:SV) (u:Value),v.ret 0=true→SR P B pl tb v u→Ren n π u u
 |.val k x,u,h,hs=>by
  simp only[SR] at hs;cases k with
  |i ik=>simp only[KC] at hs;obtain rfl:=(List.cons.inj hs).1;exact .plain _ rfl
  |bo=>simp only[KC] at hs;obtain rfl:=(List.cons.inj hs).1;exact .plain _ rfl
  |st=>simp only[KC] at hs;obtain rfl:=(List.cons.inj hs).1;exact .plain _ rfl
  |list k=>cases h
  |pair a b =>have h1:=KC.length hs;have h2:=a.size_pos;have h3:=b.size_pos;simp only[Kind.size,List.length_singleton] at h1;omega
 |.nilS,u,_,hs|.nilP,u,_,hs|.nilM,u,_,hs|.nilF,u,_,hs=>by simp only[SR] at hs;subst hs;exact .plain _ rfl
 |.lst j,u,h,_|.box j _,u,h,_|.map j,u,h,_=>by simp[SV.ret,Nat.blt_eq] at h
 |.dd j w,u,h,_=>by cases w<;>simp[SV.ret,Nat.blt_eq] at h
 |.agg l,u,h,hs=>by simp only[SR] at hs;obtain⟨cs,rfl,h2⟩:=hs;have:=PJ (n:=n) (π:=π) l cs h h2;exact .agg _ _ rfl fun i h3 _=>this _ (by simp)
 |.tup l,u,h,hs=>by simp only[SR] at hs;obtain⟨cs,rfl,h2⟩:=hs;have:=PJ (n:=n) (π:=π) l cs h h2;exact .tuple _ _ rfl fun i h3 _=>this _ (by simp)
 |.any,_,h,_|.bid _ _,_,h,_|.grd _ _,_,h,_|.sub _ _ _ _,_,h,_|.elp _ _ _ _,_,h,_|.rop _ _ _ _,_,h,_|.cp _ _,_,h,_|.fn _ _ _,_,h,_|.pf _ _ _ _,_,h,_=>by cases h
theorem PJ {n:Nat}{π:Nat→Nat}:∀ (v:List SV) (u:List Value),SVs.ret 0 v=true→SRs P B pl tb v u→∀ x∈u,Ren n π x x
 |[],u,_,hs=>by simp only[SRs] at hs;subst hs;intro x hx;cases hx
 |s::ss,u,h,hs=>by
  simp only[SVs.ret,Bool.and_eq_true] at h;simp only[SRs] at hs;obtain⟨x,y,rfl,h1,h2⟩:=hs;intro z hz;rcases List.mem_cons.1 hz with rfl|hz
  ·exact AI s z h.1 h1
  ·exact PJ ss y h.2 h2 z hz
end
theorem FA (exact:Bool) {σ0:Heap}{sf:St}{lr:Env}{σf:Heap}(hR:GRel P σ0 σ0 σ0 sf lr σf) {rs:List VResult}{v:SV}{bs:List OB}{e:Exit}(hv:v.ret bs.length=true) (hb:bs.all OB.ret=true) (h:Ws rs v bs e sf) (hx:exact=true→bs.all OB.isL=true∧Ky v=true) :
  Q8a σ0 rs (fun u σ'=>if exact then u=KK (Rp σ0 bs) v∧σ'=B_ σ0 bs else Ret P σ0 v bs u σ') e lr σf:=by
 have main:(match NF sf rs with
  |some r=>(match FE v r [] with
   |some mp=>T5 mp v r∧FH sf mp 0 bs
   |none=>False)
  |none=>False)→QX (JI lr σf rs) fun u=>∃ v' σ',DropTo σ0 u σf v' σ'∧(if exact then v'=KK (Rp σ0 bs) v∧σ'=B_ σ0 bs else Ret P σ0 v bs v' σ'):=fun h=>by
  split at h
  ·rename_i r hr;split at h
   ·rename_i mp lh;obtain⟨h1,h2⟩:=h;obtain⟨B,F,pl,tb,⟨hB,hF,_,hd⟩,hG⟩:=hR;obtain⟨u,h3,h4⟩:=KL hG hr;have gC:=V9 v r u h1 h4;have dC:=Sr v r [] mp lh (fun t t' a h=>by cases h);have ao:∀ j b,bs[j]?=some b→Ou sf mp j b:=fun j b hj=>by have:=He bs 0 h2 j b hj;rwa [Nat.zero_add] at this
    rw[h3];have hle:σ0.Le σf:=hF.trans hG.le;have hA:Agree σ0 σf:=fun i hi=>by
     cases hg:σ0.get i with
     |none=>exact hd.2 i hi hg
     |some b=>exact hle.2 i b hg
    have aQ:∀ j b,bs[j]?=some b→OR P hNil (VW pl mp) Jn σf (VW pl mp j) b∧∀ i,Oid (VW pl mp j) i→σ0.get i=none∧σ0.n≤i:=fun j b hj=>by
     obtain⟨k1,k2⟩:=QO hG (ao j b hj);have dj:=List.all_eq_true.1 hb b (List.mem_of_getElem? hj);have av:b.live=true:=by cases b<;>first|rfl|cases dj
     refine⟨k1.retd dj fun _ _=>rfl,fun i hi=>?_⟩;obtain⟨a,e1,e2,e3⟩:=k2 av i hi;have jZ:=hG.fresh a i e2 e3;have hn:σ0.get i=none:=by
      cases hg:σ0.get i with
      |none=>rfl
      |some b=>rw[hF.2 i b hg] at jZ;cases jZ
     refine⟨hn,Nat.le_of_not_lt fun ah=>?_⟩;have a_:=hd.2 i ah hn;have ao:=hG.obj a;cases ho:Qd sf.own a with
     |dead=>rw[ho] at e2;cases e2
     |lst ty k xs nl =>
      rw[ho] at ao;rcases ao with⟨_,_,h2⟩|⟨_,i',cap,c,t,h2,_,h3,_⟩
      ·rw[h2] at e3;cases e3
      ·rw[h2] at e3;obtain rfl:=osj e3;rw[h3] at a_;cases a_
     |cells l u=>rw[ho] at ao;obtain⟨i',c,e,t,h2,h3,_⟩:=ao;rw[h2] at e3;obtain rfl:=osj e3;rw[h3] at a_;cases a_
     |mapE kk vk m key n=>rw[ho] at ao;obtain⟨i',es,cl,r,e,h2,h3,_⟩:=ao;rw[h2] at e3;obtain rfl:=osj e3;rw[h3] at a_;cases a_
     |map kk vk m=>rw[ho] at ao;obtain⟨i',es,cl,h2,h3,_⟩:=ao;rw[h2] at e3;obtain rfl:=osj e3;rw[h3] at a_;cases a_
     |stk l vals=>rw[ho] at e2;cases e2
     |lpf l q s=>rw[ho] at ao e2;obtain⟨h2,_,h3⟩:=ao;rw[h2] at e3;obtain rfl:=osj e3;have h3:=h3 e2;rw[a_] at h3;cases h3
     |iter kk vk m dn=>rw[ho] at ao;obtain⟨j',i',es,cl,wr,seen,h2,h3,_⟩:=ao;rw[h2] at e3;obtain rfl:=osj e3;rw[h3] at a_;cases a_
     |deep ty q k xs nl hh =>rw[ho] at ao;obtain⟨is,_,d2,d3,_⟩:=DP.open ao;obtain⟨c,e,t,h⟩:=d2.cells i ((d3 i).1 e3);rw[h] at a_;cases a_
    have cW:∀ j j' i,j<bs.length→j'<bs.length→j≠j'→Oid (VW pl mp j) i→Oid (VW pl mp j') i→False:=fun j j' i hj cf aC hi bZ=>by
     have bg:=List.getElem?_eq_getElem hj;have bV:=List.getElem?_eq_getElem cf;have r1:=List.all_eq_true.1 hb _ (List.getElem_mem hj);have r2:=List.all_eq_true.1 hb _ (List.getElem_mem cf);have l1:(bs[j]).live=true:=by cases jy:bs[j]<;>first|rfl|(rw[jy] at r1;cases r1)
     have l2:(bs[j']).live=true:=by cases jy:bs[j']<;>first|rfl|(rw[jy] at r2;cases r2)
     obtain⟨a,e1,e2,e3⟩:=(QO hG (ao j _ bg)).2 l1 i hi;obtain⟨a',qw,jQ,qx⟩:=(QO hG (ao j' _ bV)).2 l2 i bZ;by_cases e:a=a'
     ·subst e;exact aC (dC j j' a e1 qw)
     ·exact hG.sep a a' i e e2 jQ e3 qx
    cases hex:exact with
    |true =>obtain⟨hl,ct⟩:=hx hex;have od:=ER (P:=P) hA hle.1 hv ct hb hl (pl:=VW pl mp) (u:=u) (fun j b hj=>⟨(aQ j b hj).1,fun i hi=>((aQ j b hj).2 i (CV hi)).2⟩) (fun j j' i a b c d e=>cW j j' i a b c (CV d) (CV e)) (gC.retd (fun j hj=>rfl) _ _ hv);exact⟨_,_,od,by simp⟩
    |false =>
     simp only[Bool.false_eq_true,if_false];by_cases bW:bs=[]
     ·subst bW;refine⟨u,σ0,.rename (fun i=>i) (Nat.le_refl _) (fun i hi=>⟨rfl,(hA i hi).symm,.inl (hA i hi)⟩) (fun i k1 k2=>by omega) (fun _ _ _ _ _ _ h=>h) (AI v u hv gC),?_⟩;exact⟨⟨Heap.Le.refl _,Dead.refl _⟩,fun _=>rfl,Xd,(fun j b hj=>by simp at hj),(fun j j' i hj=>by simp at hj),gC.retd (fun j hj=>by simp at hj) _ _ hv⟩
     ·exact⟨u,σf,.refl _ _ _,⟨hle,hd⟩,fun e=>absurd e bW,VW pl mp,aQ,cW,gC.retd (fun j hj=>rfl) _ _ hv⟩
   ·exact h.elim
  ·exact h.elim
 cases e with
 |normal=>exact main h
 |ret=>exact main h
 |_=>exact h.elim
def Qk (nt:Nat) (args:List SV):St:=⟨args++List.replicate (nt-args.length) .any,[],0⟩
theorem EG {args:List SV}{vs:List Value}(h:SRs P σ Xd Jn args vs) (nt:Nat):GRel P σ σ σ (Qk nt args) (vs++List.replicate (nt-vs.length) undef) σ:=by
 have uW:∀ n,SRs P σ Xd Jn (List.replicate n .any) (List.replicate n undef):=by
  intro n;induction n with
  |zero=>simp[SRs]
  |succ n ih=>simp only[List.replicate_succ,SRs];exact⟨_,_,rfl,by simp[SR],ih⟩
 refine⟨σ,σ,Xd,Jn,⟨Heap.Le.refl _,Heap.Le.refl _,(fun i b h1 h2=>by rw[h2] at h1;cases h1),Dead.refl _⟩,Heap.Le.refl _,Heap.Le.refl _,?_,fun d=>trivial,(fun d i hl=>by cases hl),(fun d d' i _ hl=>by cases hl),fun _ _=>rfl⟩;have:=h.length;simp only[Qk,this];exact h.append (uW _)
theorem Fun.okC {f:Nat}{vc:VCode}{rs:List VResult}{nt:Nat}(h:Fun P f vc rs nt) (hm:P.follows .mixedOrders=true) {sp:CSp}
  (hb:∀ ap,Q1k P ap→∀ args c v bs,sp ap args=some (c,v,bs)→c→∃ (C:Cx) (L:List (Nat×LoopAnn)) (ib:List SV),(∀ σ vs,SRs P σ Xd Jn args vs→SRs P σ Xd Jn ib vs)∧COk P C∧gwp C L vc 0 (Ws rs v bs) (Qk nt ib)):OkC P f sp:=by
 intro ap eA σ args vs c v bs ax fU hv bW hc;obtain⟨C,L,ib,h1,h2,h3⟩:=hb ap eA args c v bs fU hc;have main:∀ exact:Bool,(exact=true→bs.all OB.isL=true∧Ky v=true)→VCalled P f vs σ fun u σ'=>if exact then u=KK (Rp σ bs) v∧σ'=B_ σ bs else Ret P σ v bs u σ':=fun exact hx=>by refine h.calls hm S8 ?_;exact P2 h2 vc 0 _ _ _ σ none _ trivial (EG (h1 σ vs ax) nt) h3 fun e s' af σ' k1 k2=>FA exact k2 hv bW k1 hx
 refine⟨(main false fun e=>by cases e).mono fun u σ' hr=>by simpa using hr,fun hl ct=>(main true fun _=>⟨hl,ct⟩).mono fun u σ' hr=>by simpa using hr⟩
theorem OkC.true {f:Nat}{sp:CSp}(h:OkC P f sp) (he:X2 P f) {σ:Heap}{args:List SV}{vs:List Value}(ha:SRs P σ Xd Jn args vs) {c:Prop}(hs:sp (fun _ _=>none) args=some (c,.val .bo true,[])) (hc:c) :
  VCallsTo P f vs σ fun v _=>v=.bool true:=by
 have:=(h (fun _ _=>none) (fun _ _ _ _ _ _ _ _ _ h=>by cases h) σ args vs c _ [] ha hs rfl rfl hc).1;intro ρ w aw hH hL;rcases this ρ w aw hH hL with⟨_,h2⟩|⟨c',_,h2⟩
 ·refine h2.mono fun e w' ⟨c',h3,h4⟩=>⟨c',h3,h4.mono fun u σ' hr=>?_⟩;have:=(hr.flat rfl).2;simpa only [SR,KC,List.cons.injEq,and_true] using this
 ·have:=h2 w (Like.refl ρ w);rw[N0 he aw w] at this;cases this
end
end Go.V
namespace Go.V
open Go
mutual
inductive AP:Type→Type 1 where
 |k (k:Kind):AP k.T
 |agg {D:Type}(l:AL D):AP D
 |ptr {D:Type}(l:AL D):AP D
 |fn (ks:List Kind) (r:Kind):AP ((AT ks→Prop)×(AT ks→r.T))
 |nilS:AP Unit
 |any:AP Unit
inductive AL:Type→Type 1 where
 |nil:AL Unit
 |one {D:Type}(a:AP D):AL D
 |cons {D E:Type}(a:AP D) (r:AL E):AL (D×E)
end
def SQ:(ks:List Kind)→AT ks→List SV
 |[],_=>[]
 |[k],x=>[Iw k x]
 |k::k'::ks,x=>Iw k x.1::SQ (k'::ks) x.2
abbrev Ap:=SV→List SV→Option (Prop×SV)
def OI (ap:Ap) (f:SV) (ks:List Kind) (r:Kind) (x:AT ks):Prop:=match ap f (SQ ks x) with
 |some (c,v)=>(match gap.asV r v with|some _=>c|none=>False)
 |none=>False
def fnP (ap:Ap) (f:SV) (ks:List Kind) (r:Kind) (x:AT ks):r.T:=match ap f (SQ ks x) with
 |some (_,v)=>(match gap.asV r v with|some y=>y|none=>r.dflt)
 |none=>r.dflt
mutual
def AP.dec (ap:Ap):{D:Type}→(p:AP D)→SV→Option D
 |_,.k k,v=>match k with
  |.list k=>view [] k v
  |.i ik=>RD (.i ik) [v]
  |.bo=>RD .bo [v]
  |.st=>RD .st [v]
  |.pair _ _=>none
 |_,.agg l,v=>match v with|.agg vs=>AL.dec ap l vs|_=>none
 |_,.nilS,v=>match v with|.nilS=>some ()|_=>none
 |_,.any,_=>some ()
 |_,.ptr l,v=>match v with|.cp vs 0=>AL.dec ap l vs|_=>none
 |_,.fn ks r,v=>match v with
  |.fn g a b=>some (OI ap (.fn g a b) ks r,fnP ap (.fn g a b) ks r)
  |.pf sH r' cI p=>some (OI ap (.pf sH r' cI p) ks r,fnP ap (.pf sH r' cI p) ks r)
  |_=>none
def AL.dec (ap:Ap):{D:Type}→(l:AL D)→List SV→Option D
 |_,.nil,vs=>match vs with|[]=>some ()|_=>none
 |_,.one a,vs=>match vs with|[v]=>AP.dec ap a v|_=>none
 |_,.cons a r,vs=>match vs with
  |v::vs=>(match AP.dec ap a v,AL.dec ap r vs with|some x,some y=>some (x,y)|_,_=>none)
  |[]=>none
end
mutual
def AP.can:{D:Type}→(p:AP D)→D→SV
 |_,.k k,x=>.val k x
 |_,.agg l,x=>.agg (AL.can l x)
 |_,.nilS,_=>.nilS
 |_,.any,_=>.any
 |_,.ptr l,x=>.cp (AL.can l x) 0
 |_,.fn ks r,x=>.pf ks r x.1 x.2
def AL.can:{D:Type}→(l:AL D)→D→List SV
 |_,.nil,_=>[]
 |_,.one a,x=>[AP.can a x]
 |_,.cons a r,x=>AP.can a x.1::AL.can r x.2
end
def Xv {D:Type}(l:AL D) (pre:D→Prop) (res:D→SV) (obs:D→List OB):CSp:=fun ap args=>match AL.dec ap l args with
 |some d=>some (pre d,res d,obs d)
 |none=>none
section
variable {P:Program}{σ:Heap}
theorem MH:∀ {ks:List Kind}{x:AT ks}{vs:List Value},RG σ ks x vs→SRs P σ Xd Jn (SQ ks x) vs
 |[],x,vs,h=>by simp only[RG] at h;subst h;simp[SQ,SRs]
 |[k],x,vs,h=>by obtain⟨v,rfl,h1⟩:=h;simp only[SQ,SRs];exact⟨v,[],rfl,JJ h1,rfl⟩
 |k::k'::ks,x,vs,h=>by obtain⟨v,cN,rfl,h1,h2⟩:=h;simp only[SQ,SRs];exact⟨v,cN,rfl,JJ h1,MH h2⟩
theorem AW {ap:Ap}(eA:Q1k P ap) {f:SV}{v:Value}(hf:SR P σ Xd Jn f v) (hv:∃ g a b,v=.func (.func g) a b) (ks:List Kind) (r:Kind):SR P σ Xd Jn (.pf ks r (OI ap f ks r) (fnP ap f ks r)) v:=by
 obtain⟨g,a,b,rfl⟩:=hv;simp only[SR];refine⟨g,a,b,rfl,fun x hd τ vs hle cr=>?_⟩;unfold OI at hd;split at hd
 ·rename_i c u oe;split at hd
  ·rename_i y hy;obtain⟨h1,g',a',b',h2,h3⟩:=eA τ f (SQ ks x) c u (.func (.func g) a b) vs (SR.mono hle (fun _ _ h=>h) _ _ hf) (MH cr) oe hd;obtain⟨rfl,rfl,rfl⟩:=(by simpa using h2:g=g'∧a=a'∧b=b');have hp:fnP ap f ks r x=y:=by simp[fnP,oe,hy]
   rw[hp];exact h3.mono fun u' σ' hu=>⟨hu.1,(Hh hy hu.2).vcall (Az _)⟩
  ·exact hd.elim
 ·exact hd.elim
mutual
theorem AP.dec_sound {ap:Ap}(eA:Q1k P ap):∀ {D:Type}(p:AP D) {v:SV}{x:D}{u:Value},AP.dec ap p v=some x→SR P σ Xd Jn v u→SR P σ Xd Jn (AP.can p x) u
 |_,.k k,v,x,u,h,hs=>by
  have one:SRs P σ Xd Jn [v] [u]:=by simp only[SRs];exact⟨u,[],rfl,hs,rfl⟩
  simp only[AP.can,SR];cases k with
  |list k =>have:=Wc (own:=[]) (Heap.Le.refl σ) (fun d=>(trivial:OR P σ Xd Jn σ (Xd d) .dead)) (show view [] k v=some x from h) hs;exact⟨u,rfl,this⟩
  |i ik=>exact QF (k:=.i ik) h one
  |bo=>exact QF (k:=.bo) h one
  |st=>exact QF (k:=.st) h one
  |pair a b=>cases h
 |_,.agg l,v,x,u,h,hs=>by
  simp only[AP.dec] at h;split at h
  ·simp only[SR] at hs;obtain⟨cs,rfl,hs⟩:=hs;simp only[AP.can,SR];exact⟨cs,rfl,AL.dec_sound eA l h hs⟩
  ·cases h
 |_,.any,v,x,u,h,hs=>by simp only[AP.can,SR]
 |_,.nilS,v,x,u,h,hs=>by
  simp only[AP.dec] at h;split at h
  ·simp only[AP.can];exact hs
  ·cases h
 |_,.ptr l,v,x,u,h,hs=>by
  simp only[AP.dec] at h;split at h
  ·simp only[SR] at hs;obtain⟨b,c,e,wr,t,h1,rfl,h3⟩:=hs;simp only[AP.can,SR];exact⟨b,c,e,wr,t,h1,rfl,AL.dec_sound eA l h h3⟩
  ·cases h
 |_,.fn ks r,v,x,u,h,hs=>by
  simp only[AP.dec] at h;split at h
  ·obtain rfl:=osj h;exact AW eA hs (by simp only[SR] at hs;obtain⟨x,y,rfl,_⟩:=hs;exact⟨_,_,_,rfl⟩) ks r
  ·obtain rfl:=osj h;exact AW eA hs (by simp only[SR] at hs;obtain⟨g,x,y,rfl,_⟩:=hs;exact⟨_,_,_,rfl⟩) ks r
  ·cases h
theorem AL.dec_sound {ap:Ap}(eA:Q1k P ap):∀ {D:Type}(l:AL D) {vs:List SV}{x:D}{us:List Value},AL.dec ap l vs=some x→SRs P σ Xd Jn vs us→SRs P σ Xd Jn (AL.can l x) us
 |_,.nil,vs,x,us,h,hs=>by
  simp only[AL.dec] at h;split at h
  ·exact hs
  ·cases h
 |_,.one a,vs,x,us,h,hs=>by
  simp only[AL.dec] at h;split at h
  ·obtain⟨u,rfl,h1⟩:=hs.one;simp only[AL.can,SRs];exact⟨u,[],rfl,AP.dec_sound eA a h h1,rfl⟩
  ·cases h
 |_,.cons a r,vs,x,us,h,hs=>by
  simp only[AL.dec] at h;split at h
  ·rename_i v cN;split at h
   ·rename_i y z h1 h2;obtain rfl:=osj h;simp only[SRs] at hs;obtain⟨u,me,rfl,h3,h4⟩:=hs;simp only[AL.can,SRs];exact⟨u,me,rfl,AP.dec_sound eA a h1 h3,AL.dec_sound eA r h2 h4⟩
   ·cases h
  ·cases h
end
theorem CsOk.nil:CsOk P []:=fun f sp h=>by cases h
theorem CsOk.cons {f:Nat}{sp:CSp}{cs:List (Nat×CSp)}(h:OkC P f sp) (t:CsOk P cs):CsOk P ((f,sp)::cs):=fun g uX hg=>by
 simp only[Qs] at hg;cases hb:Nat.beq f g with
 |true=>rw[hb] at hg;obtain rfl:=Nat.eq_of_beq_eq_true hb;obtain rfl:=osj hg;exact h
 |false=>rw[hb] at hg;exact t g uX hg
theorem COk.cons {C:Cx}{f:Nat}{sp:CSp}(h:OkC P f sp) (t:COk P C):COk P {C with cs:=(f,sp)::C.cs}:=⟨CsOk.cons h t.cs,t.xs,t.it,t.yl,t.iy,t.xf⟩
theorem Q74 {f:Nat}{vc:VCode}{rs:List VResult}{nt:Nat}(h:Fun P f vc rs nt) (hm:P.follows .mixedOrders=true) {D:Type}{l:AL D}{pre:D→Prop}{res:D→SV}{obs:D→List OB}
  {C:Cx}(aA:COk P C) (L:D→List (Nat×LoopAnn)) (hb:∀ d,pre d→gwp C (L d) vc 0 (Ws rs (res d) (obs d)) (Qk nt (AL.can l d))):OkC P f (Xv l pre res obs):=by
 refine h.okC hm fun ap eA args c v bs hs hc=>?_;unfold Xv at hs;split at hs
 ·rename_i d hd;obtain⟨rfl,rfl,rfl⟩:=(by simpa using hs:pre d=c∧res d=v∧obs d=bs);exact⟨C,L d,AL.can l d,fun σ vs hv=>AL.dec_sound eA l hd hv,aA,hb d hc⟩
 ·cases hs
theorem QC {f:Nat}{vc:VCode}{rs:List VResult}{nt:Nat}(h:Fun P f vc rs nt) (hm:P.follows .mixedOrders=true) {D:Type}{l:AL D}{pre:D→Prop}{res:D→SV}{obs:D→List OB}
  {C:Cx}(aA:COk P C) {L:D→List (Nat×LoopAnn)}{V:D→Prop}(hq:∀ d,gwp C (L d) vc 0 (Ws rs (res d) (obs d)) (Qk nt (AL.can l d))=V d) (hb:∀ d,pre d→V d):OkC P f (Xv l pre res obs) :=
 Q74 h hm aA L fun d hp=>(hq d).mpr (hb d hp)
end
end Go.V
namespace Go.V
open Go
def Q9g (key:Nat) (vals:List Value) (rs:List VResult) (K:SV→St→Prop):Exit→St→Prop:=fun e s =>
 let fin:=match NF s rs,Qd s.own key with
  |some r,.stk l vs=>vs=vals∧K r ⟨l,s.own,s.nx⟩
  |_,_=>False
 match e with
 |.normal=>fin
 |.ret=>fin
 |_=>False
def Z0n (C:Cx) (L:List Value→List (Nat×LoopAnn)) (vc:VCode) (rs:List VResult) (nt:Nat):XSp:=fun d args s K =>
 ∀ vals,gwp {C with off:=100000*(d+1)} (L vals) vc 0 (Q9g (100000*(d+1)-1) vals rs K) ⟨SVs.kill (100000*(d+1)-1) args++List.replicate (nt-args.length) .any,(Cq (100000*(d+1)-1) vals s).own,s.nx⟩
section
variable {P:Program}
theorem CS {B:Heap}{pl:Nat→Value}{tb:Nat→Option Bool}:∀ n,SRs P B pl tb (List.replicate n .any) (List.replicate n undef)
 |0=>by simp[SRs]
 |n+1=>by simp only[List.replicate_succ,SRs];exact⟨_,_,rfl,by simp[SR],CS n⟩
theorem Q22 {f:Nat}{vc:VCode}{rs:List VResult}{nt:Nat}(h:Fun P f vc rs nt) (hm:P.follows .mixedOrders=true) {C:Cx}(aA:COk P C) (L:List Value→List (Nat×LoopAnn)):XOk P f (Z0n C L vc rs nt):=by
 intro B F pl tb s env σ d args vs K R hG ha hx hK;have hx:=hx env;refine h.calls hm S8 ?_;have q3:Gam P B F (Jj pl (100000*(d+1)-1) poison) tb (Cq (100000*(d+1)-1) env s) env σ:=by refine hG.make _ _ poison hG.le (fun _ _ _ _ _=>rfl) ?_ (fun i hl _=>by cases hl);exact SRs.upd (.refl _) (fun _ _ h=>h) (fun j hj=>by simp[Jj,hj]) _ _ hG.env
 have lu:COk P {C with off:=100000*(d+1)}:=⟨aA.cs,aA.xs,aA.it,aA.yl,aA.iy,aA.xf⟩;have ax:=SRs.upd (P:=P) (Heap.Le.refl B) (fun _ _ h=>h) (pl':=Jj pl (100000*(d+1)-1) poison) (tb':=tb) (o:=100000*(d+1)-1) (fun j hj=>by simp[Jj,hj]) _ _ ha;have bq:GRel P B F σ ⟨SVs.kill (100000*(d+1)-1) args++List.replicate (nt-args.length) .any,(Cq (100000*(d+1)-1) env s).own,s.nx⟩ (vs++List.replicate (nt-vs.length) undef) σ:=by refine⟨B,F,_,tb,.of hG.bf (.refl _),⟨q3.bf,q3.le,?_,q3.obj,q3.fresh,q3.sep,q3.free⟩⟩;rw[ha.length];exact ax.append (CS _)
 refine P2 lu vc 0 _ _ _ σ none _ trivial bq hx fun e s' af σ' h1 h2=>?_
 ·have main:(match NF s' rs,Qd s'.own (100000*(d+1)-1) with
   |some r,.stk l vs=>vs=env∧K r ⟨l,s'.own,s'.nx⟩
   |_,_=>False)→QX (JI af σ' rs) fun v=>∃ v' aL,DropTo σ v σ' v' aL∧R v' aL:=fun h=>by
   obtain⟨B',F',pl',tb',k1,k2⟩:=h2;split at h
   ·rename_i r l cN hr ln;obtain⟨rfl,h⟩:=h;obtain⟨u,h3,h4⟩:=KL k2 hr;rw[h3];have ao:=k2.obj (100000*(d+1)-1);rw[ln] at ao;exact⟨u,σ',.refl _ _ _,hK r _ B' F' pl' tb' u σ' h k1 ⟨k2.bf,k2.le,ao,k2.obj,k2.fresh,k2.sep,k2.free⟩ h4⟩
   ·exact h.elim
  cases e with
  |normal=>exact main h1
  |ret=>exact main h1
  |_=>exact h1.elim
end
end Go.V
namespace Go.V
open Go
section
variable {P:Program}
mutual
theorem AP.can_pure:∀ {D:Type}(p:AP D) (x:D),(AP.can p x).pure=true
 |_,.k k,x=>rfl
 |_,.agg l,x=>by simp only[AP.can,SV.pure];exact AL.can_pure l x
 |_,.nilS,x=>rfl
 |_,.any,x=>rfl
 |_,.ptr l,x=>by simp only[AP.can,SV.pure];exact AL.can_pure l x
 |_,.fn ks r,x=>rfl
theorem AL.can_pure:∀ {D:Type}(l:AL D) (x:D),SVs.pure (AL.can l x)=true
 |_,.nil,x=>rfl
 |_,.one a,x=>by simp only[AL.can,SVs.pure,AP.can_pure a x];rfl
 |_,.cons a r,x=>by simp only[AL.can,SVs.pure,AP.can_pure a x.1,AL.can_pure r x.2];rfl
end
end
end Go.V
namespace Go.V
open Go
abbrev lI {α:Type}(l:List α):Int:=(l.length:Int)
abbrev gD {α:Type}(l:List α) (i:Int) (d:α):α:=l.getD i.toNat d
abbrev sT {α:Type}(l:List α) (i:Int) (x:α):List α:=l.set i.toNat x
abbrev I64 (x:Int):Prop:=InK .i64 x
theorem Z1 (x:Int):InK .i64 x↔-9223372036854775808≤x∧x≤9223372036854775807:=by simp[InK,IntKind.min,IntKind.max,IntKind.bits,IntKind.signed]
theorem PW (x:Int):InK .u8 x↔0≤x∧x≤255:=by simp[InK,IntKind.min,IntKind.max,IntKind.bits,IntKind.signed]
theorem Q28 (x:Int):InK .u16 x↔0≤x∧x≤65535:=by simp[InK,IntKind.min,IntKind.max,IntKind.bits,IntKind.signed]
theorem MF (x:Int):InK .u64 x↔0≤x∧x≤18446744073709551615:=by simp[InK,IntKind.min,IntKind.max,IntKind.bits,IntKind.signed]
theorem LoopP.count {F:Int→(Int→Prop)→Prop}(n:Nat) (J:Nat→Prop) (h0:J 0) (hr:∀ k:Nat,k≤n→J k→∀ q:Int→Prop,(k<n→J (k+1)→q ((k:Int)+1))→F k q):LoopP F 0:=by refine⟨fun d=>∃ k:Nat,d=k∧k≤n∧J k,fun d=>n-d.toNat,⟨0,rfl,Nat.zero_le _,h0⟩,fun d ⟨k,hd,hk,hJ⟩=>?_⟩;subst hd;refine hr k hk hJ _ fun ah og=>⟨⟨k+1,by simp,ah,og⟩,?_⟩;simp;omega
theorem LoopP.count2 {X:Type}{F:X×Int→(X×Int→Prop)→Prop}(n:Nat) (J:Nat→X→Prop) {x0:X}(h0:J 0 x0) (hr:∀ (k:Nat) (x:X),k≤n→J k x→∀ q:X×Int→Prop,(∀ x',k<n→J (k+1) x'→q (x',(k:Int)+1))→F (x,(k:Int)) q):LoopP F (x0,0):=by refine⟨fun d=>∃ k:Nat,d.2=k∧k≤n∧J k d.1,fun d=>n-d.2.toNat,⟨0,rfl,Nat.zero_le _,h0⟩,fun ⟨x,d⟩ ⟨k,hd,hk,hJ⟩=>?_⟩;simp only at hd hJ;subst hd;refine hr k x hk hJ _ fun x' ah og=>⟨⟨k+1,by simp,ah,og⟩,?_⟩;simp;omega
theorem Q8 {α:Type}{l:List α}{k:Nat}{d:α}(h:k<l.length):l.getD k d=l[k]:=by simp[List.getD_eq_getElem?_getD,List.getElem?_eq_getElem h]
theorem Z0 {α:Type}{l:List α}{k:Nat}(h:k<l.length):l.take (k+1)=l.take k++[l[k]]:=by rw[List.take_succ_eq_append_getElem h]
end Go.V
namespace Go.V
open Go
section
variable {P:Program}
theorem st1 {S:VSpecs}{d:Nat}{op:VOp}{rest:List VOper}{env:Env}{σ:Heap}{K:Env→Heap→Prop}{v:Value}(hv:∀ K',vop S op env σ K'=QX (Q6 op (Q4 env) σ) fun p=>K' p.1 p.2) (h:Q6 op (Q4 env) σ=some (v,σ)) (hr:Pv S rest (env.set d v) σ K):Pv S (⟨some d,op,none⟩::rest) env σ K:=by show QX (some true) _;refine⟨fun _=>?_,fun e=>by cases e⟩;rw[hv,h];exact hr
theorem YlOk.nil:∀ o y,Qs ([]:List (Nat×YSp)) o=some y→Q09 P o y:=fun o y h=>by cases h
theorem IysOk.nil:∀ f x,Qs ([]:List (Nat×Q65)) f=some x→Q69 P f x:=fun f x h=>by cases h
theorem IysOk.cons {f:Nat}{x:Q65}{l:List (Nat×Q65)}(h:Q69 P f x) (t:∀ g y,Qs l g=some y→Q69 P g y):∀ g y,Qs ((f,x)::l) g=some y→Q69 P g y:=fun g y hg=>by
 simp only[Qs] at hg;cases hb:Nat.beq f g with
 |true=>rw[hb] at hg;obtain rfl:=Nat.eq_of_beq_eq_true hb;obtain rfl:=osj hg;exact h
 |false=>rw[hb] at hg;exact t g y hg
theorem XsOk.nil:∀ f x,Qs ([]:List (Nat×XSp)) f=some x→XOk P f x:=fun f x h=>by cases h
theorem XsOk.cons {f:Nat}{x:XSp}{l:List (Nat×XSp)}(h:XOk P f x) (t:∀ g y,Qs l g=some y→XOk P g y):∀ g y,Qs ((f,x)::l) g=some y→XOk P g y:=fun g y hg=>by
 simp only[Qs] at hg;cases hb:Nat.beq f g with
 |true=>rw[hb] at hg;obtain rfl:=Nat.eq_of_beq_eq_true hb;obtain rfl:=osj hg;exact h
 |false=>rw[hb] at hg;exact t g y hg
theorem ItsOk.nil:∀ f x,Qs ([]:List (Nat×ISp)) f=some x→Q5b P f x:=fun f x h=>by cases h
theorem ItsOk.cons {f:Nat}{x:ISp}{l:List (Nat×ISp)}(h:Q5b P f x) (t:∀ g y,Qs l g=some y→Q5b P g y):∀ g y,Qs ((f,x)::l) g=some y→Q5b P g y:=fun g y hg=>by
 simp only[Qs] at hg;cases hb:Nat.beq f g with
 |true=>rw[hb] at hg;obtain rfl:=Nat.eq_of_beq_eq_true hb;obtain rfl:=osj hg;exact h
 |false=>rw[hb] at hg;exact t g y hg
def Q11:Ap:=fun _ _=>none
theorem FT:Q1k P Q11:=fun _ _ _ _ _ _ _ _ _ h=>by cases h
end
end Go.V
namespace Go.V
open Go
section
variable {P:Program}
theorem XfOk.nil {xs:List (Nat×XSp)}:∀ f j,Qs ([]:List (Nat×Nat)) f=some j→∀ x,Qs xs f=some x→Q5q P f x j:=fun f j h=>by cases h
theorem XfOk.cons {xs:List (Nat×XSp)}{g k:Nat}{y:XSp}{l:List (Nat×Nat)}(hy:Qs xs g=some y) (h:Q5q P g y k) (t:∀ f j,Qs l f=some j→∀ x,Qs xs f=some x→Q5q P f x j):∀ f j,Qs ((g,k)::l) f=some j→∀ x,Qs xs f=some x→Q5q P f x j:=fun f j hf x hx=>by
 simp only[Qs] at hf;cases hb:Nat.beq g f with
 |true =>rw[hb] at hf;obtain rfl:=Nat.eq_of_beq_eq_true hb;obtain rfl:=osj hf;obtain rfl:=osj (hy.symm.trans hx);exact h
 |false=>rw[hb] at hf;exact t f j hf x hx
end
end Go.V
namespace Go.V
open Go
def Heap.over (B F:Heap):Heap where
 get i:=match B.get i with|some b=>some b|none=>F.get i
 n:=Nat.max B.n F.n
 wf i h:=by have h1:B.n≤i:=Nat.le_trans (Nat.le_max_left _ _) h;have h2:F.n≤i:=Nat.le_trans (Nat.le_max_right _ _) h;rw[B.wf i h1];exact F.wf i h2
theorem Heap.over_none {B F:Heap}{i:Nat}(h1:B.get i=none) (h2:F.get i=none):(B.over F).get i=none:=by show (match B.get i with|some b=>some b|none=>F.get i)=none;rw[h1];exact h2
theorem Heap.over_left {B F:Heap}:B.Le (B.over F):=⟨Nat.le_max_left _ _,fun i b h=>by
 show (match B.get i with|some b=>some b|none=>F.get i)=some b;rw[h]⟩
theorem Heap.over_right {B F σ:Heap}(hB:B.Le σ) (hF:F.Le σ):F.Le (B.over F):=⟨Nat.le_max_right _ _,fun i b h=>by
 show (match B.get i with|some b=>some b|none=>F.get i)=some b;cases hb:B.get i with
 |none=>exact h
 |some b' =>
  have h1:=hB.2 _ _ hb;have h2:=hF.2 _ _ h;rw[h1] at h2;exact h2⟩
theorem Heap.over_le {B F σ:Heap}(hB:B.Le σ) (hF:F.Le σ):(B.over F).Le σ:=⟨Nat.max_le.2 ⟨hB.1,hF.1⟩,fun i b h=>by
 have h:(match B.get i with|some b=>some b|none=>F.get i)=some b:=h;cases hb:B.get i with
 |none=>rw[hb] at h;exact hF.2 _ _ h
 |some b'=>rw[hb] at h;rw[←h];exact hB.2 _ _ hb⟩
theorem GBase.over {B F σ B' σ':Heap}(hB:B.Le B') (gj:B'.Le σ') (hF:F.Le σ') (hx:∀ i b,F.get i=some b→B.get i=none→B'.get i=none) (hd:Dead σ σ'):GBase B F σ B' (B'.over F) σ' :=
 ⟨hB,Heap.over_right gj hF,hx,hd⟩
def callV (ap:Ap) (sp:CSp):XSp:=fun d args s K =>
 let s1:=(⟨s.env++args,s.own,s.nx⟩:St).frzs (UN args);let a1:=s1.env.drop s.env.length
 bif SVs.pure a1 then (match sp ap a1 with
  |some (c,v,bs)=>bif v.ret bs.length&&bs.all OB.isL then c∧K (v.ren d 500000) ((⟨s1.env.take s.env.length,s1.own,s1.nx⟩:St).makes d 500000 0 bs) else False
  |none=>False) else False
section
variable {P:Program}
theorem OB.isL_lst {b:OB}(h:b.isL=true):∃ ty k xs nl,b=.lst ty k xs nl:=by cases b<;>first|exact⟨_,_,_,_,rfl⟩|cases h
theorem SRs.split {B:Heap}{pl:Nat→Value}{tb:Nat→Option Bool}:∀ {a:List SV}{u v:List Value},SRs P B pl tb a (u++v)→SRs P B pl tb (a.take u.length) u∧SRs P B pl tb (a.drop u.length) v
 |a,[],v,h=>⟨by simp[SRs],by simpa using h⟩
 |[],x::u,v,h=>by simp only[SRs] at h;cases h
 |s::a,x::u,v,h=>by simp only[SRs,List.cons_append] at h;obtain⟨y,ys,e,h1,h2⟩:=h;obtain⟨rfl,rfl⟩:=List.cons.inj e;obtain⟨h3,h4⟩:=SRs.split h2;simp only[List.length_cons,List.take_succ_cons,List.drop_succ_cons,SRs];exact⟨⟨_,_,rfl,h1,h3⟩,h4⟩
theorem DY {B F σ:Heap}{tb tbc:Nat→Option Bool}{env:Env}{σ0:Heap}{d nt:Nat}(dg:0<nt) (cX:Nat→Value) (bs:List OB) (hF:F.Le σ)
  (ao:∀ j b,bs[j]?=some b→b.isL=true∧OR P B cX tbc σ (cX j) b∧∀ i,Oid (cX j) i→σ0.n≤i∧F.get i=none)
  (cW:∀ j j' i,j<bs.length→j'<bs.length→j≠j'→Oid (cX j) i→Oid (cX j') i→False) :
  ∀ (r:List OB) (j:Nat) (pl:Nat→Value) (s:St),bs.drop j=r→Gam P B F pl tb s env σ→(∀ k i,(Qd s.own k).live=true→Oid (pl k) i→i<σ0.n∨∃ j'<j,j'<bs.length∧Oid (cX j') i∧k=d+j'*nt)→(∀ j'<j,j'<bs.length→pl (d+j'*nt)=cX j') →
   ∃ pl',Gam P B F pl' tb (s.makes d nt j r) env σ∧(∀ j'<bs.length,pl' (d+j'*nt)=cX j')
 |[],j,pl,s,hr,hG,_,hp=>⟨pl,hG,fun j' cf=>hp j' (by
   have:=congrArg List.length hr;simp at this;omega) cf⟩
 |b::r,j,pl,s,hr,hG,hinv,hp=>by
  have bQ:j<bs.length:=by
   rcases Nat.lt_or_ge j bs.length with h|h
   ·exact h
   ·rw[List.drop_eq_nil_of_le h] at hr;cases hr
  have cE:bs[j]?=some b:=by
   have:(bs.drop j)[0]?=some b:=by rw[hr];rfl
   simpa using this
  have iO:bs.drop (j+1)=r:=by
   have:(bs.drop j).drop 1=r:=by rw[hr];rfl
   simpa [List.drop_drop,Nat.add_comm] using this
  obtain⟨h1,h2,h3⟩:=ao j b cE;obtain⟨ty,k,xs,nl,rfl⟩:=OB.isL_lst h1;have bS:∀ j' ,j'≠j→d+j'*nt≠d+j*nt:=fun j' aC e=>aC (Nat.eq_of_mul_eq_mul_right dg (by omega));refine DY dg cX bs hF ao cW r (j+1) (Jj pl (d+j*nt) (cX j)) (s.make (d+j*nt) (.lst ty k xs nl)) iO (hG.make (d+j*nt) (.lst ty k xs nl) (cX j) hF (fun _ _ _ _ _=>rfl) h2 fun i _ hi=>⟨(h3 i hi).2,fun k' hk hl e=>?_⟩) (fun k' i hl hi=>?_) fun j' cf kX=>?_
  ·rcases hinv k' i hl e with h|⟨j',cf,dH,he,_⟩
   ·have:=(h3 i hi).1;omega
   ·exact cW j j' i bQ dH (by omega) hi he
  ·by_cases hk:k'=d+j*nt
   ·subst hk;simp only[Jj,if_true] at hi;exact .inr ⟨j,by omega,bQ,hi,rfl⟩
   ·have b8:(Qd s.own k').live=true:=by
     simp only[St.make,St.kill,Qv,Yn,if_neg hk] at hl
     rwa [OB.live_kill] at hl
    simp only[Jj,if_neg hk] at hi;rcases hinv k' i b8 hi with h|⟨j',cf,h5⟩
    ·exact .inl h
    ·exact .inr ⟨j',by omega,h5⟩
  ·by_cases e:j'=j
   ·subst e;simp[Jj]
   ·simp only[Jj,if_neg (bS j' e)];exact hp j' (by omega) kX
theorem Q0x {f:Nat}{vc:VCode}{rs:List VResult}{nt:Nat}(h:Fun P f vc rs nt) (hm:P.follows .mixedOrders=true) {sp:CSp}{ap:Ap}
  (hb:∀ qy c v bs,sp ap qy=some (c,v,bs)→c→∃ (C:Cx) (L:List (Nat×LoopAnn)) (oh:List SV),SVs.pure oh=true∧(∀ σ vs,SRs P σ Xd Jn qy vs→SRs P σ Xd Jn oh vs)∧COk P C∧gwp C L vc 0 (Ws rs v bs) (Qk nt oh)):XOk P f (callV ap sp):=by
 intro B F pl tb s env σ d args vals K R hG ha hx hK;unfold callV at hx;have uY:Gam P B F pl tb ⟨s.env++args,s.own,s.nx⟩ (env++vals) σ:=⟨hG.bf,hG.le,hG.env.append ha,hG.obj,hG.fresh,hG.sep,hG.free⟩;obtain⟨B1,F1,oY,qz,uZ,fW⟩:GRel P B F σ ((⟨s.env++args,s.own,s.nx⟩:St).frzs (UN args)) (env++vals) σ:=GRel.frzs _ ⟨B,F,pl,tb,.of hG.bf (.refl _),uY⟩;generalize ((⟨s.env++args,s.own,s.nx⟩:St).frzs (UN args))=s1 at hx fW;dsimp only at hx;have hlen:s.env.length=env.length:=hG.env.length;obtain⟨iB,gu⟩:=SRs.split fW.env;rw[hlen] at hx;have fH:Gam P B1 F1 oY qz ⟨s1.env.take env.length,s1.own,s1.nx⟩ env σ:=⟨fW.bf,fW.le,iB,fW.obj,fW.fresh,fW.sep,fW.free⟩;generalize s1.env.drop env.length=a1 at hx gu;generalize (⟨s1.env.take env.length,s1.own,s1.nx⟩:St)=s2 at hx fH;cases qA:SVs.pure a1 with
 |false=>rw[qA] at hx;exact hx.elim
 |true =>
 rw[qA] at hx;simp only[_root_.cond_true] at hx;split at hx
 ·rename_i c v bs fU;cases dp:(v.ret bs.length&&bs.all OB.isL) with
  |false=>rw[dp] at hx;exact hx.elim
  |true =>
  rw[dp] at hx;obtain⟨hc,hx⟩:=hx;simp only[Bool.and_eq_true] at dp;obtain⟨hv,gp⟩:=dp;obtain⟨C,L,oh,dG,u4,lu,hg⟩:=hb _ c v bs fU hc;have ax:=u4 B1 vals (Zm _ _ qA gu);have bq:GRel P B1 σ σ (Qk nt oh) (vals++List.replicate (nt-vals.length) undef) σ:=by
   refine⟨B1,σ,Xd,Jn,⟨.refl _,.refl _,fun _ _ _ h=>h,.refl _⟩,fH.leB,.refl _,?_,fun k=>?_,fun k i' h1 h2=>?_,fun k k' i' u5 h1 h2 h3 h4=>?_,fun _ _=>rfl⟩
   ·simp only[Qk];rw[ax.length];exact SRs.append (Zm _ _ dG ax) (CS _)
   ·simp only[Qk,Qd];trivial
   ·simp only[Qk,Qd] at h1;cases h1
   ·simp only[Qk,Qd] at h1;cases h1
  refine h.calls hm S8 ?_;refine P2 lu vc 0 _ _ _ σ none _ trivial bq hg fun e s' af σ' h1 h2=>?_
  have main:(match NF s' rs with
   |some r=>(match FE v r [] with
    |some mp=>T5 mp v r∧FH s' mp 0 bs
    |none=>False)
   |none=>False)→QX (JI af σ' rs) fun v=>∃ v' aL,DropTo σ v σ' v' aL∧R v' aL:=fun h=>by
   obtain⟨B',F',pl',tb',k1,k2⟩:=h2;split at h
   ·rename_i r hr;split at h
    ·rename_i mp lh;obtain⟨g1,g2⟩:=h;obtain⟨u,h3,h4⟩:=KL k2 hr;have gC:=V9 v r u g1 h4;have dC:=Sr v r [] mp lh (fun t t' a h=>by cases h);have ao:∀ j b,bs[j]?=some b→Ou s' mp j b:=fun j b hj=>by have:=He bs 0 g2 j b hj;rwa [Nat.zero_add] at this
     rw[h3];have hle:σ.Le σ':=k1.f.trans k2.le;have gj:B'.Le σ':=k2.leB;have aQ:∀ j b,bs[j]?=some b→b.isL=true∧OR P B' (VW pl' mp) Jn σ' (VW pl' mp j) b∧∀ i,Oid (VW pl' mp j) i→σ.n≤i∧(B'.over F1).get i=none:=fun j b hj=>by
      obtain⟨m1,m2⟩:=QO k2 (ao j b hj);have hl:=List.all_eq_true.1 gp b (List.mem_of_getElem? hj);obtain⟨ty,k,xs,nl,rfl⟩:=OB.isL_lst hl;refine⟨hl,m1,fun i hi=>?_⟩;obtain⟨a,_,e2,e3⟩:=m2 rfl i hi;have oX:=k2.fresh a i e2 e3;have oi:σ.get i=none:=by
       cases hg:σ.get i with
       |none=>rfl
       |some b=>have h9:=k1.f.2 _ _ hg;rw[oX] at h9;cases h9
      have jZ:B'.get i=none:=by
       cases hg:B'.get i with
       |none=>rfl
       |some b=>have h9:=k2.bf.2 _ _ hg;rw[oX] at h9;cases h9
      have qB:F1.get i=none:=by
       cases hg:F1.get i with
       |none=>rfl
       |some b=>have h9:=fH.le.2 _ _ hg;rw[oi] at h9;cases h9
      refine⟨Nat.le_of_not_lt fun ah=>?_,Heap.over_none jZ qB⟩;have a_:=k1.d.2 i ah oi;rcases m1 with⟨_,_,h2⟩|⟨_,i',cap,c,t,h2,_,h3,_⟩
      ·rw[h2] at hi;cases hi
      ·rw[h2] at hi;obtain rfl:=osj hi;rw[h3] at a_;cases a_
     have cW:∀ j j' i,j<bs.length→j'<bs.length→j≠j'→Oid (VW pl' mp j) i→Oid (VW pl' mp j') i→False:=fun j j' i hj cf aC hi bZ=>by
      have bg:=List.getElem?_eq_getElem hj;have bV:=List.getElem?_eq_getElem cf;have r1:=List.all_eq_true.1 gp _ (List.getElem_mem hj);have r2:=List.all_eq_true.1 gp _ (List.getElem_mem cf);have l1:(bs[j]).live=true:=by cases jy:bs[j]<;>first|rfl|(rw[jy] at r1;cases r1)
      have l2:(bs[j']).live=true:=by cases jy:bs[j']<;>first|rfl|(rw[jy] at r2;cases r2)
      obtain⟨a,e1,e2,e3⟩:=(QO k2 (ao j _ bg)).2 l1 i hi;obtain⟨a',qw,jQ,qx⟩:=(QO k2 (ao j' _ bV)).2 l2 i bZ;by_cases e:a=a'
      ·subst e;exact aC (dC j j' a e1 qw)
      ·exact k2.sep a a' i e e2 jQ e3 qx
     have lx:F1.Le σ':=fH.le.trans hle;have bh:∀ d,(Qd s2.own d).live=true→∀ i,Oid (oY d) i→B'.get i=none∧σ'.get i=σ.get i:=fun d hl i hi=>by
      refine⟨?_,fH.heap_get hle hl hi⟩;have ah:=(fH.obj d).id_lt hl hi;cases hg:σ.get i with
      |none =>
       have hn:=k1.d.2 i ah hg;cases bP:B'.get i with
       |none=>rfl
       |some bb=>have:=gj.2 _ _ bP;rw[hn] at this;cases this
      |some bb =>
       refine k1.x i bb hg ?_;cases bP:B1.get i with
       |none=>rfl
       |some b2=>have:=fH.bf.2 _ _ bP;rw[fH.fresh d i hl hi] at this;cases this
     have u6:Gam P B' (B'.over F1) oY qz s2 env σ':=⟨Heap.over_left,Heap.over_le gj lx,SRs.mono k1.b (fun _ _ h=>h) _ _ fH.env,fun d=>(fH.obj d).mono k1.b (fun _ _ h=>h) fun hl i hi=>(bh d hl i hi).2,fun d i q1 q2=>Heap.over_none (bh d q1 i q2).1 (fH.fresh d i q1 q2),fH.sep,fH.free⟩;obtain⟨u7,h5,h6⟩:=DY (d:=d) (nt:=500000) (σ0:=σ) (tbc:=Jn) (by omega) (VW pl' mp) bs (Heap.over_le gj lx) aQ cW bs 0 oY s2 rfl u6 (fun k i hl hi=>.inl ((fH.obj k).id_lt hl hi)) (fun j' cf=>by omega);refine⟨u,σ',.refl _ _ _,hK _ _ B' (B'.over F1) u7 qz u σ' hx (uZ.trans (.over k1.b gj lx (fun i b e1 e2=>k1.x i b (fH.le.2 _ _ e1) e2) k1.d)) h5 ?_⟩;exact SR.ren (tb:=Jn) (fun j hj=>h6 j hj) _ _ hv gC
    ·exact h.elim
   ·exact h.elim
  cases e with
  |normal=>exact main h1
  |ret=>exact main h1
  |_=>exact h1.elim
 ·exact hx.elim
theorem Q04 {f:Nat}{vc:VCode}{rs:List VResult}{nt:Nat}(h:Fun P f vc rs nt) (hm:P.follows .mixedOrders=true) {ap:Ap}(eA:Q1k P ap) {D:Type}{la:AL D}{pre:D→Prop}{res:D→SV}{obs:D→List OB}
  {C:Cx}(aA:COk P C) {L:D→List (Nat×LoopAnn)}{V:D→Prop}
  (hq:∀ y,gwp C (L y) vc 0 (Ws rs (res y) (obs y)) (Qk nt (AL.can la y))=V y)
  (hb:∀ y,pre y→V y):XOk P f (callV ap (Xv la pre res obs)):=Q0x h hm fun qy c v bs hs hc=>by
 unfold Xv at hs;split at hs
 ·rename_i y h2;obtain⟨rfl,rfl,rfl⟩:=(by simpa using hs:pre y=c∧res y=v∧obs y=bs);exact⟨C,L y,AL.can la y,AL.can_pure la y,fun σ vs hv=>AL.dec_sound eA la h2 hv,aA,(hq y).mpr (hb y hc)⟩
 ·cases hs
end
end Go.V
namespace Go.V
open Go
theorem Dk {x:Nat}(h:x<9223372036854775808):IntKind.wrap .i64 (x:Int)=x:=by
 have e:((x:Int) % (18446744073709551616:Int))=x:=by omega
 have:¬ ((x:Int)≥9223372036854775808):=by omega
 show (if (true&&decide ((x:Int) % (18446744073709551616:Int)≥9223372036854775808))=true then (x:Int) % (18446744073709551616:Int)-18446744073709551616 else (x:Int) % (18446744073709551616:Int))=x;simp only[e,this,decide_false,Bool.and_false,Bool.false_eq_true,if_false]
theorem Q0n {x y:Nat}(h:x<9223372036854775808):x &&& y<9223372036854775808:=Nat.lt_of_le_of_lt Nat.and_le_left h
theorem Q29 {x y:Nat}(hx:x<9223372036854775808) (hy:y<9223372036854775808):x ||| y<9223372036854775808:=Nat.or_lt_two_pow (n:=63) hx hy
theorem Q0s {x y:Nat}(hx:x<9223372036854775808) (hy:y<9223372036854775808):x ^^^ y<9223372036854775808:=Nat.xor_lt_two_pow (n:=63) hx hy
theorem LQ (x:Nat):BitVec.ofInt 64 (x:Int)=BitVec.ofNat 64 x:=by apply BitVec.eq_of_toNat_eq;simp
theorem toNat_ofInt {x:Nat}(h:x<9223372036854775808):(BitVec.ofInt 64 (x:Int)).toNat=x:=by rw[LQ,BitVec.toNat_ofNat,Nat.mod_eq_of_lt (by omega)]
theorem S6 {x y:Nat}(hx:x<9223372036854775808) (hy:y<9223372036854775808):Q1 .and .i64 x y=((x &&& y:Nat):Int):=by
 have e:(BitVec.ofInt 64 (x:Int) &&& BitVec.ofInt 64 (y:Int)).toNat=x &&& y:=by rw[BitVec.toNat_and,toNat_ofInt hx,toNat_ofInt hy]
 show IntKind.wrap .i64 ((BitVec.ofInt 64 (x:Int) &&& BitVec.ofInt 64 (y:Int)).toNat:Int)=_;rw[e,Dk (Q0n hx)]
theorem Q26 {x y:Nat}(hx:x<9223372036854775808) (hy:y<9223372036854775808):Q1 .or .i64 x y=((x ||| y:Nat):Int):=by
 have e:(BitVec.ofInt 64 (x:Int) ||| BitVec.ofInt 64 (y:Int)).toNat=x ||| y:=by rw[BitVec.toNat_or,toNat_ofInt hx,toNat_ofInt hy]
 show IntKind.wrap .i64 ((BitVec.ofInt 64 (x:Int) ||| BitVec.ofInt 64 (y:Int)).toNat:Int)=_;rw[e,Dk (Q29 hx hy)]
theorem OQ {x y:Nat}(hx:x<9223372036854775808) (hy:y<9223372036854775808):Q1 .xor .i64 x y=((x ^^^ y:Nat):Int):=by
 have e:(BitVec.ofInt 64 (x:Int) ^^^ BitVec.ofInt 64 (y:Int)).toNat=x ^^^ y:=by rw[BitVec.toNat_xor,toNat_ofInt hx,toNat_ofInt hy]
 show IntKind.wrap .i64 ((BitVec.ofInt 64 (x:Int) ^^^ BitVec.ofInt 64 (y:Int)).toNat:Int)=_;rw[e,Dk (Q0s hx hy)]
theorem Q20 {x i:Nat}(hi:i≤64):Q7 .i64 x i=((x >>> i:Nat):Int):=by have:Nat.min i 64=i:=Nat.min_eq_left hi;simp only[Q7,Int.toNat_natCast,IntKind.bits,this];rw[Nat.shiftRight_eq_div_pow,Int.fdiv_eq_ediv_of_nonneg _ (Int.le_of_lt (Int.pow_pos (by omega)))];norm_cast
theorem Q2e {x i:Nat}(hi:i≤64):M_ .i64 x i=((x <<< i:Nat):Int):=by have:Nat.min i 64=i:=Nat.min_eq_left hi;simp only[M_,Int.toNat_natCast,IntKind.bits,this,Nat.shiftLeft_eq];norm_cast
theorem Q2c {x i:Nat}(hx:x<9223372036854775808) (hi:i≤64):(Q1 .and .i64 (Q7 .i64 x i) 1==1)=x.testBit i:=by have h1:x >>> i<9223372036854775808:=Nat.lt_of_le_of_lt (by rw[Nat.shiftRight_eq_div_pow];exact Nat.div_le_self _ _) hx;rw[Q20 hi,show (1:Int)=((1:Nat):Int) from rfl,S6 h1 (by omega),Nat.testBit];rw[Bool.eq_iff_iff];simp only[beq_iff_eq,bne_iff_ne,ne_eq];rw[Nat.and_comm,Nat.one_and_eq_mod_two];omega
end Go.V
set_option linter.unusedVariables false
namespace Go.Proofs.Tryz
open Go Go.V Go.Proofs
abbrev q4 {A B C D E:Type}(x:A×B×C×D×E):E:=x.2.2.2.2
def inI (n a b:Int):Bool:=decide (a≤n)&&decide (n≤b)
def Ox (l:List Int) (p:Int→Bool):Int:=match l.findIdx? p with|some i=>(i:Int)|none=>-1
def CO {α:Type}(l:List α) (p:α→Bool):Int:=match l.findIdx? p with|some i=>(i:Int)|none=>-1
def u8s (l:List Int):Prop:=∀ x∈l,0≤x∧x≤255
def Z23 (l:List Int):Prop:=∀ x∈l,0≤x∧x≤65535
def bOk (h8:Int) (ws rs ds:List Int):Prop:=0≤h8∧h8≤255∧u8s ws∧Z23 rs∧u8s ds
def hkN (m h8:Int):Int:=1+Int.tmod h8 m
def PL (hk:Int) (cap:Nat) (ws:List Int):List Int:=if ws=[] then [0] else (ws.take cap).map fun x=>Int.tmod x hk
def Qh (hk:Int) (cap:Nat) (rs:List Int):List Int:=if rs=[] then [21 % 2 ^ hk.toNat] else (rs.take cap).map fun x=>x % 2 ^ hk.toNat
def Q5 (hd:Int) (rows:List Int):Int:=if !inI hd 1 24 then 2 else if 60<rows.length then 5 else if rows.length=0 then 7 else if rows.any (fun x=>!inI x 0 (2 ^ hd.toNat-1)) then 2 else 0
theorem LH {α:Type}{l:List α}{p:α→Bool}{k:Nat}(hk:k<l.length) (h:p l[k]=true) (hJ:(l.take k).any p=false):CO l p=k:=by
 have:l.findIdx? p=some k:=by rw[List.findIdx?_eq_some_iff_getElem];refine⟨hk,h,fun j hj=>?_⟩;have hn:=List.any_eq_false.1 hJ l[j] (List.mem_take_iff_getElem.2 ⟨j,by omega,rfl⟩);simpa using hn
 simp[CO,this]
theorem H7 {α:Type}{l:List α}{p:α→Bool}(hJ:l.any p=false):CO l p=-1:=by
 have:l.findIdx? p=none:=by rw[List.findIdx?_eq_none_iff];intro x hx;have:=List.any_eq_false.1 hJ x hx;simpa using this
 simp[CO,this]
theorem Au {α:Type}(l:List α) (p:α→Bool):(decide (CO l p≥0))=l.any p:=by
 cases h:l.any p with
 |false=>rw[H7 h];rfl
 |true =>
  have:(l.findIdx? p).isSome=true:=by rw[List.findIdx?_isSome,h]
  obtain⟨i,hi⟩:=Option.isSome_iff_exists.1 this;have e:CO l p=(i:Int):=by simp[CO,hi]
  rw[e];exact decide_eq_true (Int.natCast_nonneg i)
def rowAt (rows:List Int) (p:Int):Nat:=(rows.getD (p.toNat % rows.length) 0).toNat
abbrev Sp:=Int×Int
theorem nIb (n a b:Int):(!inI n a b)=(decide (n<a)||decide (b<n)):=by simp only[inI,Bool.not_and];by_cases h1:a≤n<;>by_cases h2:n≤b<;>simp[h1,h2]<;>omega
theorem HJ (a b:Int):L6 a b=max a b:=by unfold L6;split<;>omega
theorem CQ (a b:Int):OD a b=min a b:=by unfold OD;split<;>omega
def Sub (a b:Sp):Prop:=b.1≤a.1∧a.2≤b.2
def Ne (a:Sp):Prop:=a.1≤a.2
theorem LoopP.count3 {X Y:Type}{F:X×Y×Int→(X×Y×Int→Prop)→Prop}(n:Nat) (J:Nat→X→Y→Prop) {x0:X}{y0:Y}(h0:J 0 x0 y0) (hr:∀ (k:Nat) (x:X) (y:Y),k≤n→J k x y→∀ q:X×Y×Int→Prop,(∀ x' y',k<n→J (k+1) x' y'→q (x',y',(k:Int)+1))→F (x,y,(k:Int)) q):LoopP F (x0,y0,0):=by refine⟨fun d=>∃ k:Nat,d.2.2=k∧k≤n∧J k d.1 d.2.1,fun d=>n-d.2.2.toNat,⟨0,rfl,Nat.zero_le _,h0⟩,fun ⟨x,y,d⟩ ⟨k,hd,hk,hJ⟩=>?_⟩;simp only at hd hJ;subst hd;refine hr k x y hk hJ _ fun x' y' ah og=>⟨⟨k+1,by simp,ah,og⟩,?_⟩;simp;omega
theorem Ec {α β:Type}{f:α→Option β}:∀ {L:List α}{ys:List β},L.mapM f=some ys→ys.length=L.length∧∀ (i:Nat) (h:i<L.length) (h2:i<ys.length),f L[i]=some ys[i]
 |[],ys,h=>by simp at h;subst h;simp
 |a::L,ys,h=>by
  simp only[List.mapM_cons,Option.bind_eq_bind,Option.bind_eq_some_iff,Option.pure_def,Option.some.injEq] at h;obtain⟨y,hy,zs,hz,rfl⟩:=h;obtain⟨e1,e2⟩:=Ec hz;refine⟨by simp[e1],fun i h1 h2=>?_⟩;cases i with
  |zero=>exact hy
  |succ i=>exact e2 i (by simpa using h1) (by simpa using h2)
theorem OC {H:Type}{enc:TypeId×Value→H}{P:Program}{w:World}{base:Nat}{sp:Nat→Bool}{held:Bool}{fuel:Nat}{t:TypeId}{k:IntKind}{c:Value}{y:DataW H×List MemPlace}
  (ht:P.underlying t=some (.int k)) (h:DataW.trod enc P w base sp held fuel t [c]=some y):∃ n,c=.int k n∧y=(.lit (.int k n),[]):=by
 cases fuel with
 |zero=>simp[DataW.trod] at h
 |succ fuel =>cases c<;>simp[DataW.trod,ht] at h;rename_i k' n;obtain⟨⟨rfl,_⟩,rfl⟩:=h;exact⟨n,rfl,rfl⟩
theorem Q0h {H:Type}{enc:TypeId×Value→H}{P:Program}{w:World}{base:Nat}{sp:Nat→Bool}{held:Bool}{fuel:Nat}{t e:TypeId}{k:IntKind}{n:Nat}{l:List Value}{xs:List Int}{p:List MemPlace}
  (ht:P.underlying t=some (.array n e)) (he:P.underlying e=some (.int k)) (h1:P.cellsOf e=1) (hc:P.cellsOf t=n) (h:DataW.trod enc P w base sp held fuel t l=some (.agg (xs.map fun x=>.lit (.int k x)),p)):l=xs.map fun x=>.int k x:=by
 cases fuel with
 |zero=>simp[DataW.trod] at h
 |succ fuel =>
  simp only[DataW.trod,ht,h1,hc,Nat.mul_one] at h;split at h
  ·rename_i hl;simp only[Option.map_eq_some_iff,Prod.mk.injEq,DataW.agg.injEq] at h;obtain⟨ys,hm,hx,_⟩:=h;obtain⟨e1,e2⟩:=Ec hm;rw[List.length_range] at e1;have hlen:xs.length=ys.length:=by
    have:=congrArg List.length hx;simpa using this.symm
   refine List.ext_getElem (by rw[List.length_map];omega) fun i k1 k2=>?_;have hy:=e2 i (by rw[List.length_range];omega) (by omega);rw[List.getElem_range,List.drop_eq_getElem_cons k1] at hy;simp only[List.take_succ_cons,List.take_zero] at hy;obtain⟨m,iE,gf⟩:=OC he hy;rw[iE,List.getElem_map];have qC:(ys.map (·.1))[i]'(by rw[List.length_map];omega)=(xs.map fun x=>(DataW.lit (Lit.int k x):DataW H))[i]'(by rw[List.length_map];omega):=by
    simp only[hx]
   rw[List.getElem_map,List.getElem_map,gf] at qC;simp only[DataW.lit.injEq,Lit.int.injEq,true_and] at qC;rw[qC]
  ·cases h
theorem tab_heap {P:Program}{nm:String}{g G:Nat}{t e:TypeId}{k:IntKind}{n fuel:Nat}{cs:Array Value}{xs:List Int}{p:List MemPlace}{W:World}(hv:W.var? P nm=some cs) (hG:P.globalNamed nm=some G) (hg:P.globalNamed nm=some g) {T:TypeId}(hT:(P.globals[G]?).map (·.type)=some T) (mC:(P.globals[g]?).map (·.type)=some t)
  (ht:P.underlying T=some (.array n e)) (he:P.underlying e=some (.int k)) (h1:P.cellsOf e=1) (hc:P.cellsOf T=n) (hd:DataW.trod (fun _=>()) P W 0 (fun _=>true) false fuel t cs.toList=some (.agg (xs.map fun x=>.lit (.int k x)),p)):∃ e f,W.heap[G]?=some (.cells (xs.map fun x=>Value.int k x).toArray e f):=by
 obtain rfl:=osj (hG.symm.trans hg);obtain rfl:=osj (hT.symm.trans mC);have hl:=Q0h ht he h1 hc hd;unfold World.var? at hv;rw[hG] at hv;simp only[Option.bind_some] at hv;split at hv
 ·rename_i cs' a b hh;obtain rfl:=osj hv;refine⟨a,b,?_⟩;rw[hh,←hl]
 ·cases hv
end Go.Proofs.Tryz
set_option linter.unusedVariables false
namespace Go.Proofs.Tryz
open Go Go.V Go.Proofs
def Vk:AL (Int×Int×Int):=(.cons (.k (.i .i64)) (.cons (.ptr (.one (.k (.i .i64)))) (.one (.ptr (.one (.k (.i .i64)))))))
def G9 (d:Int×Int×Int):Prop:=True
def Kd (d:Int×Int×Int):SV:=.val .bo (decide (d.1<d.2.1)||decide (d.2.2<d.1))
def Ki (d:Int×Int×Int):List OB:=[]
def WV:CSp:=Xv Vk G9 Kd Ki
def W8 (n:Int) (a:Int) (b:Int):Prop :=
 (((decide (n<a))||(decide (n > b)))=(decide (n<a)||decide (b<n))∧(True))
def KN:Cx:=⟨[],[],13,[],0,[],[],[],[],false,[],[],[],[]⟩
def Dn (n:Int) (a:Int) (b:Int):List (Nat×LoopAnn):=[]
set_option maxRecDepth 100000 in
theorem Du (d:Int×Int×Int):gwp (KN) (Dn d.1 d.2.1 d.2.2) c98 0 (Ws [.tmp 4] (Kd d) (Ki d)) (Qk 13 (AL.can Vk d))=W8 d.1 d.2.1 d.2.2:=by kernel_rfl
abbrev Di:Prop:=OkC Tryz.prog 98 WV
theorem D5 (h:∀ (n:Int) (a:Int) (b:Int),(True)→W8 n a b):OkC Tryz.prog 98 WV :=
 QC Q3x mixed (C:=KN) (V:=fun (d:Int×Int×Int)=>W8 d.1 d.2.1 d.2.2) ⟨.nil,XsOk.nil,ItsOk.nil,YlOk.nil,IysOk.nil,XfOk.nil⟩ (Du) fun d hp=>h d.1 d.2.1 d.2.2 hp
theorem DE:Di:=D5 fun n a b _=>by exact⟨rfl,trivial⟩
def Jz:AL (List Int×((Int→Prop)×(Int→Bool))):=(.cons (.k (.list (.i .i64))) (.one (.fn [(.i .i64)] .bo)))
def Yc (d:List Int×((Int→Prop)×(Int→Bool))):Prop:=d.1.length≤1000000∧∀ x∈d.1,d.2.1 x
def Jq (d:List Int×((Int→Prop)×(Int→Bool))):SV:=.val (.i .i64) (Ox d.1 d.2.2)
def Jr (d:List Int×((Int→Prop)×(Int→Bool))):List OB:=[]
def Zy:CSp:=Xv Jz Yc Jq Jr
def QZ (l:List Int) (p:(Int→Prop)×(Int→Bool)):Prop :=
 ∃ (e2:Unit) (d20:Int),((l=l∧(SV.pf [(.i .i64)] .bo p.1 p.2=SV.pf [(.i .i64)] .bo p.1 p.2)∧(lI l)=(lI l)∧(0:Int)=d20∧True)∧(True)) ∧
 LoopP (fun (d2:Int) (q2:(Int)→Prop) =>
  ((decide (d2<(lI l)))=true →
   (0≤d2)∧(d2<(List.length l))∧(p.1 (gD l d2 0))∧((p.2 (gD l d2 0))=true →
    (d2=(Ox l p.2)∧(True))) ∧
   ((p.2 (gD l d2 0))=false →
    (I64 (d2+(1:Int)))∧(∃ d3:Int,((l=l∧(SV.pf [(.i .i64)] .bo p.1 p.2=SV.pf [(.i .i64)] .bo p.1 p.2)∧(lI l)=(lI l)∧(d2+(1:Int))=d3∧True)∧(True))∧q2 d3))) ∧
  ((decide (d2<(lI l)))=false →
   ((-1:Int)=(Ox l p.2)∧(True)))) d20
def JA:Cx:=⟨[],[],19,[],0,[],[],[],[],false,[],[],[],[]⟩
def Yz (l:List Int) (p:(Int→Prop)×(Int→Bool)):List (Nat×LoopAnn):=[(0,⟨Unit,Int,[0,1,7,8],fun e x=>[.val (.list (.i .i64)) l,.pf [(.i .i64)] .bo p.1 p.2,.val (.i .i64) (((List.length l):Nat):Int),.val (.i .i64) x],fun e x=>[]⟩)]
set_option maxRecDepth 100000 in
theorem YH (d:List Int×((Int→Prop)×(Int→Bool))):gwp (JA) (Yz d.1 d.2) Q9v 0 (Ws [.tmp 4] (Jq d) (Jr d)) (Qk 19 (AL.can Jz d))=QZ d.1 d.2:=by kernel_rfl
abbrev YS:Prop:=OkC Tryz.prog 126 Zy
theorem Yv (h:∀ (l:List Int) (p:(Int→Prop)×(Int→Bool)),(l.length≤1000000∧∀ x∈l,p.1 x)→QZ l p):OkC Tryz.prog 126 Zy :=
 QC Q18 mixed (C:=JA) (V:=fun (d:List Int×((Int→Prop)×(Int→Bool)))=>QZ d.1 d.2) ⟨.nil,XsOk.nil,ItsOk.nil,YlOk.nil,IysOk.nil,XfOk.nil⟩ (YH) fun d hp=>h d.1 d.2 hp
theorem Iy {l:List Int}{p:Int→Bool}{k:Nat}(hk:k<l.length) (h:p l[k]=true) (hJ:(l.take k).any p=false):Ox l p=k:=by
 have:l.findIdx? p=some k:=by rw[List.findIdx?_eq_some_iff_getElem];refine⟨hk,h,fun j hj=>?_⟩;have hn:=List.any_eq_false.1 hJ l[j] (List.mem_take_iff_getElem.2 ⟨j,by omega,rfl⟩);simpa using hn
 simp[Ox,this]
theorem Ih {l:List Int}{p:Int→Bool}(hJ:l.any p=false):Ox l p=-1:=by
 have:l.findIdx? p=none:=by rw[List.findIdx?_eq_none_iff];intro x hx;have:=List.any_eq_false.1 hJ x hx;simpa using this
 simp[Ox,this]
theorem A7 (l:List Int) (p:Int→Bool):decide (Ox l p≥0)=l.any p:=by
 unfold Ox;cases h:l.findIdx? p with
 |none =>
  have:=List.findIdx?_eq_none_iff.1 h;have:l.any p=false:=by rw[List.any_eq_false];intro x hx;simp[this x hx]
  rw[this];rfl
 |some i =>obtain⟨h1,h2,_⟩:=List.findIdx?_eq_some_iff_getElem.1 h;rw[List.any_eq_true.2 ⟨l[i],List.getElem_mem h1,h2⟩];simp
theorem YK:YS:=Yv fun l p hp=>by
 unfold QZ;(try delta lI gD sT I64);simp only[true_and,and_true,exists_eq_left',exists_const,decide_eq_true_eq,decide_eq_false_iff_not];refine LoopP.count l.length (fun k=>(l.take k).any p.2=false) (by simp) fun k aY hJ q hq=>?_;simp only[Int.toNat_natCast,Int.ofNat_lt,Z1];refine⟨fun ah=>?_,fun a9=>?_⟩
 ·rw[Q8 ah];refine⟨by omega,ah,hp.2 _ (List.getElem_mem ah),fun hx=>?_,fun hx=>⟨by omega,hq ah ?_⟩⟩
  ·rw[Iy ah hx hJ]
  ·rw[Z0 ah,List.any_append,hJ];simp[hx]
 ·rw[List.take_of_length_le (by omega)] at hJ;rw[Ih hJ]
def Jc:AL (List Int×((Int→Prop)×(Int→Bool))):=(.cons (.k (.list (.i .i64))) (.one (.fn [(.i .i64)] .bo)))
def W5 (d:List Int×((Int→Prop)×(Int→Bool))):Prop:=d.1.length≤1000000∧∀ x∈d.1,d.2.1 x
def Z_ (d:List Int×((Int→Prop)×(Int→Bool))):SV:=.val .bo (d.1.any d.2.2)
def J0 (d:List Int×((Int→Prop)×(Int→Bool))):List OB:=[]
def QS:CSp:=Xv Jc W5 Z_ J0
def Z7 (l:List Int) (p:(Int→Prop)×(Int→Bool)):Prop :=
 (l.length≤1000000∧∀ x∈l,(fun (x1:Int)=>p.1 x1) x)∧((decide ((Ox l (fun (x1:Int)=>(p.2 x1)))≥(0:Int)))=(l.any p.2)∧(True))
def Ja:Cx:=⟨[],[(126,Zy)],9,[],0,[],[],[],[],false,[],[],[],[]⟩
def Wt (l:List Int) (p:(Int→Prop)×(Int→Bool)):List (Nat×LoopAnn):=[]
set_option maxRecDepth 100000 in
theorem Wu (d:List Int×((Int→Prop)×(Int→Bool))):gwp (Ja) (Wt d.1 d.2) c97 0 (Ws [.tmp 4] (Z_ d) (J0 d)) (Qk 9 (AL.can Jc d))=Z7 d.1 d.2:=by kernel_rfl
abbrev Wq:Prop:=OkC Tryz.prog 97 QS
theorem Ww (h:∀ (l:List Int) (p:(Int→Prop)×(Int→Bool)),(l.length≤1000000∧∀ x∈l,p.1 x)→Z7 l p):OkC Tryz.prog 97 QS :=
 QC Q6v mixed (C:=Ja) (V:=fun (d:List Int×((Int→Prop)×(Int→Bool)))=>Z7 d.1 d.2) ⟨(.cons YK .nil),XsOk.nil,ItsOk.nil,YlOk.nil,IysOk.nil,XfOk.nil⟩ (Wu) fun d hp=>h d.1 d.2 hp
theorem J8:Wq:=Ww fun l p hp=>by exact⟨hp,A7 l p.2,trivial⟩
def UW:AL (Int×Int×List Int):=(.cons (.k (.i .i64)) (.cons (.k (.i .i64)) (.one (.k (.list (.i .i64))))))
def BJ (d:Int×Int×List Int):Prop:=d.2.2.length≤1000000
def VK (d:Int×Int×List Int):SV:=.val .bo (!(d.2.2.any fun n=>decide (n<d.1)||decide (d.2.1<n)))
def VQ (d:Int×Int×List Int):List OB:=[]
def Zf:CSp:=Xv UW BJ VK VQ
def Yt (a:Int) (b:Int) (l:List Int):Prop :=
 (l.length≤1000000∧∀ x∈l,(fun (x1:Int)=>True) x)∧((!(l.any (fun (x1:Int)=>(decide (x1<a)||decide (b<x1)))))=(!(l.any fun n=>decide (n<a)||decide (b<n)))∧(True))
def Uo:Cx:=⟨[],[(97,QS),(98,WV)],11,[],0,[],[],[],[],false,[],[],[],[]⟩
def PX (a:Int) (b:Int) (l:List Int):List (Nat×LoopAnn):=[]
set_option maxRecDepth 100000 in
theorem H3 (d:Int×Int×List Int):gwp (Uo) (PX d.1 d.2.1 d.2.2) c58 0 (Ws [.tmp 6] (VK d) (VQ d)) (Qk 11 (AL.can UW d))=Yt d.1 d.2.1 d.2.2:=by kernel_rfl
abbrev HI:Prop:=OkC Tryz.prog 58 Zf
theorem H2 (h:∀ (a:Int) (b:Int) (l:List Int),(l.length≤1000000)→Yt a b l):OkC Tryz.prog 58 Zf :=
 QC Q3r mixed (C:=Uo) (V:=fun (d:Int×Int×List Int)=>Yt d.1 d.2.1 d.2.2) ⟨(.cons J8 (.cons DE .nil)),XsOk.nil,ItsOk.nil,YlOk.nil,IysOk.nil,XfOk.nil⟩ (H3) fun d hp=>h d.1 d.2.1 d.2.2 hp
theorem J6:HI:=H2 fun a b l h=>by exact⟨⟨h,fun _ _=>trivial⟩,rfl,trivial⟩
end Go.Proofs.Tryz
set_option linter.unusedVariables false
namespace Go.Proofs.Tryz
open Go Go.V Go.Proofs
theorem nI (n a b:Int):(!inI n a b)=(decide (n<a)||decide (b<n)):=by simp only[inI,Bool.not_and];by_cases h1:a≤n<;>by_cases h2:n≤b<;>simp[h1,h2]<;>omega
def KY:AL (Int×Int×Int):=(.cons (.k (.i .i64)) (.cons (.ptr (.one (.k (.i .i64)))) (.one (.ptr (.one (.k (.i .i64)))))))
def GJ (d:Int×Int×Int):Prop:=True
def Kc (d:Int×Int×Int):SV:=.val .bo (decide (d.1<d.2.1)||decide (d.2.2<d.1))
def Kl (d:Int×Int×Int):List OB:=[]
def WJ:CSp:=Xv KY GJ Kc Kl
def Wa (n:Int) (a:Int) (b:Int):Prop :=
 (((decide (n<a))||(decide (n > b)))=(decide (n<a)||decide (b<n))∧(True))
def V2:Cx:=⟨[],[],13,[],0,[],[],[],[],false,[],[],[],[]⟩
def D4 (n:Int) (a:Int) (b:Int):List (Nat×LoopAnn):=[]
set_option maxRecDepth 100000 in
theorem Dp (d:Int×Int×Int):gwp (V2) (D4 d.1 d.2.1 d.2.2) Z07 0 (Ws [.tmp 4] (Kc d) (Kl d)) (Qk 13 (AL.can KY d))=Wa d.1 d.2.1 d.2.2:=by kernel_rfl
abbrev Dc:Prop:=OkC Tryz.prog 117 WJ
theorem D7 (h:∀ (n:Int) (a:Int) (b:Int),(True)→Wa n a b):OkC Tryz.prog 117 WJ :=
 QC Q1j mixed (C:=V2) (V:=fun (d:Int×Int×Int)=>Wa d.1 d.2.1 d.2.2) ⟨.nil,XsOk.nil,ItsOk.nil,YlOk.nil,IysOk.nil,XfOk.nil⟩ (Dp) fun d hp=>h d.1 d.2.1 d.2.2 hp
theorem D3:Dc:=D7 fun n a b _=>by exact⟨rfl,trivial⟩
def Ui:AL (Int×Int×List Int):=(.cons (.k (.i .i64)) (.cons (.k (.i .i64)) (.one (.k (.list (.i .i64))))))
def Bd (d:Int×Int×List Int):Prop:=d.2.2.length≤1000000
def VR (d:Int×Int×List Int):SV:=.val .bo (!(d.2.2.any fun n=>decide (n<d.1)||decide (d.2.1<n)))
def U1 (d:Int×Int×List Int):List OB:=[]
def KF:CSp:=Xv Ui Bd VR U1
def YU (a:Int) (b:Int) (l:List Int):Prop :=
 (l.length≤1000000∧∀ x∈l,(fun (x1:Int)=>True) x)∧((!(l.any (fun (x1:Int)=>(decide (x1<a)||decide (b<x1)))))=(!(l.any fun n=>decide (n<a)||decide (b<n)))∧(True))
def N3:Cx:=⟨[],[(97,QS),(117,WJ)],11,[],0,[],[],[],[],false,[],[],[],[]⟩
def Pu (a:Int) (b:Int) (l:List Int):List (Nat×LoopAnn):=[]
set_option maxRecDepth 100000 in
theorem PG (d:Int×Int×List Int):gwp (N3) (Pu d.1 d.2.1 d.2.2) c81 0 (Ws [.tmp 6] (VR d) (U1 d)) (Qk 11 (AL.can Ui d))=YU d.1 d.2.1 d.2.2:=by kernel_rfl
abbrev Pz:Prop:=OkC Tryz.prog 81 KF
theorem Hb (h:∀ (a:Int) (b:Int) (l:List Int),(l.length≤1000000)→YU a b l):OkC Tryz.prog 81 KF :=
 QC Q56 mixed (C:=N3) (V:=fun (d:Int×Int×List Int)=>YU d.1 d.2.1 d.2.2) ⟨(.cons J8 (.cons D3 .nil)),XsOk.nil,ItsOk.nil,YlOk.nil,IysOk.nil,XfOk.nil⟩ (PG) fun d hp=>h d.1 d.2.1 d.2.2 hp
theorem Hw:Pz:=Hb fun a b l h=>by exact⟨⟨h,fun _ _=>trivial⟩,rfl,trivial⟩
def M4:AL (Int×List Int):=(.one (.agg (.cons (.k (.i .i64)) (.one (.k (.list (.i .i64)))))))
def Pq (d:Int×List Int):Prop:=d.2.length≤1000000
def N8 (d:Int×List Int):SV:=.val (.i .i64) (Q5 d.1 d.2)
def Ux (d:Int×List Int):List OB:=[]
def Yh:CSp:=Xv M4 Pq N8 Ux
def Wn (hd:Int) (rows:List Int):Prop :=
 ([hd].length≤1000000)∧((!(!([hd].any fun n=>decide (n<(1:Int))||decide ((24:Int)<n))))=true →
  ((2:Int)=(Q5 hd rows)∧(True))) ∧
 ((!(!([hd].any fun n=>decide (n<(1:Int))||decide ((24:Int)<n))))=false →
  ((decide ((lI rows) > (60:Int)))=true →
   ((5:Int)=(Q5 hd rows)∧(True))) ∧
  ((decide ((lI rows) > (60:Int)))=false →
   (((lI rows)==(0:Int))=true →
    ((7:Int)=(Q5 hd rows)∧(True))) ∧
   (((lI rows)==(0:Int))=false →
    (0≤hd)∧(I64 (M_ .i64 (1:Int) hd))∧(I64 ((M_ .i64 (1:Int) hd)-(1:Int)))∧(rows.length≤1000000)∧((!(!(rows.any fun n=>decide (n<(0:Int))||decide (((M_ .i64 (1:Int) hd)-(1:Int))<n))))=true →
     ((2:Int)=(Q5 hd rows)∧(True))) ∧
    ((!(!(rows.any fun n=>decide (n<(0:Int))||decide (((M_ .i64 (1:Int) hd)-(1:Int))<n))))=false →
     ((0:Int)=(Q5 hd rows)∧(True))))))
def M1:Cx:=⟨[(3,(.i .i64))],[(81,KF)],28,[],0,[],[],[],[],false,[],[],[],[]⟩
def Tp (hd:Int) (rows:List Int):List (Nat×LoopAnn):=[]
set_option maxRecDepth 100000 in
theorem T6 (d:Int×List Int):gwp (M1) (Tp d.1 d.2) c43 0 (Ws [.tmp 2] (N8 d) (Ux d)) (Qk 28 (AL.can M4 d))=Wn d.1 d.2:=by kernel_rfl
abbrev TP:Prop:=OkC Tryz.prog 43 Yh
theorem Tc (h:∀ (hd:Int) (rows:List Int),(rows.length≤1000000)→Wn hd rows):OkC Tryz.prog 43 Yh :=
 QC Q7d mixed (C:=M1) (V:=fun (d:Int×List Int)=>Wn d.1 d.2) ⟨(.cons Hw .nil),XsOk.nil,ItsOk.nil,YlOk.nil,IysOk.nil,XfOk.nil⟩ (T6) fun d hp=>h d.1 d.2 hp
theorem CT {h:Int}(h1:0≤h) (h2:h≤62):M_ .i64 1 h=2 ^ h.toNat:=by obtain⟨n,rfl⟩:=Int.eq_ofNat_of_zero_le h1;have:Nat.min n 64=n:=Nat.min_eq_left (by omega);simp only[M_,Int.toNat_natCast,IntKind.bits,this,Int.one_mul]
theorem KQ {h:Int}(h1:1≤h) (h2:h≤24):(2:Int)≤2 ^ h.toNat∧(2:Int) ^ h.toNat≤16777216:=by
 obtain⟨n,rfl⟩:=Int.eq_ofNat_of_zero_le (show 0≤h by omega);have a1:2 ^ 1≤2 ^ n:=Nat.pow_le_pow_right (by omega) (by omega);have a2:2 ^ n≤2 ^ 24:=Nat.pow_le_pow_right (by omega) (by omega);simp only[Int.toNat_natCast];have e:((2:Int) ^ n)=((2 ^ n:Nat):Int):=by norm_cast
 rw[e];omega
theorem Mz:TP:=Tc fun hd rows hl=>by
 unfold Wn;(try delta lI gD sT I64);simp only[and_true,decide_eq_true_eq,decide_eq_false_iff_not,beq_iff_eq,ne_eq,beq_eq_false_iff_ne,gt_iff_lt,Bool.not_not];simp only[←nI];refine⟨by simp,fun h1=>by simp at h1;simp[Q5,h1],fun h1=>⟨fun h2=>?_,fun h2=>⟨fun h3=>?_,fun h3=>?_⟩⟩⟩;all_goals simp only[List.any_cons,List.any_nil,Bool.or_false,Bool.not_eq_false'] at h1
 ·have:60<rows.length:=by omega
  simp[Q5,h1,this]
 ·have h3:rows.length=0:=by omega
  simp[Q5,h1,h3]
 have iF:¬ 60<rows.length:=by omega
 have iG:¬ rows.length=0:=by omega
 have hi:1≤hd∧hd≤24:=by simpa [inI] using h1
 have hp:=KQ hi.1 hi.2;have u9:Q5 hd rows=if rows.any (fun x=>!inI x 0 (2 ^ hd.toNat-1)) then 2 else 0:=by simp only[Q5,h1,iF,iG];simp
 rw[u9];simp only[Z1,CT (show 0≤hd by omega) (by omega)];refine⟨by omega,by omega,by omega,by omega,fun h=>by rw[if_pos h],fun h=>by rw[h];rfl⟩
end Go.Proofs.Tryz
set_option linter.unusedVariables false
namespace Go.Proofs.Tryz
open Go Go.V Go.Proofs
theorem VA {hd:Int}{rows:List Int}(h:Q5 hd rows=0):1≤hd∧hd≤24∧rows.length≤60∧rows.length≠0∧∀ x∈rows,0≤x∧x<2 ^ hd.toNat:=by
 unfold Q5 at h;split at h
 ·cases h
 ·rename_i h1;split at h
  ·cases h
  ·rename_i h2;split at h
   ·cases h
   ·rename_i h3;split at h
    ·cases h
    ·rename_i h4;have h1:1≤hd∧hd≤24:=by simpa [inI] using h1
     refine⟨h1.1,h1.2,by omega,h3,fun x hx=>?_⟩;have h5:∀ x∈rows,inI x 0 (2 ^ hd.toNat-1)=true:=by simpa using h4
     have:=h5 x hx;simp only[inI,Bool.and_eq_true,decide_eq_true_eq] at this;omega
end Go.Proofs.Tryz
set_option linter.unusedVariables false
namespace Go.Proofs.Tryz
open Go Go.V Go.Proofs
abbrev Lot:=Int×(Int×Int)×Int
def XZ:Lot:=(0,((0,0),0))
def X6 (x:Lot):Bool:=inI x.1 0 9&&(inI x.2.1.1 0 1000&&inI x.2.1.2 0 1000)&&decide (x.2.1.1≤x.2.1.2)&&inI x.2.2 1 1000000
def Qu (l:List Lot):Int:=if 12<l.length then 5 else if l.any (fun x=>!X6 x) then 2 else 0
def Q1o (a b:Lot):Int:=L6 (a.2.1.2-b.2.1.1) (b.2.1.2-a.2.1.1)
def Q8e (s:Int×Int×Int×Int) (y:Lot):Int×Int×Int×Int:=(L6 s.1 y.2.1.1,OD s.2.1 y.2.1.2,OD s.2.2.1 y.2.1.1,L6 s.2.2.2 y.2.1.2)
def U2 (l:List Lot) (k:Nat):Int×Int×Int×Int:=(l.take k).foldl Q8e ((l.getD 0 XZ).2.1.1,(l.getD 0 XZ).2.1.2,(l.getD 0 XZ).2.1.1,(l.getD 0 XZ).2.1.2)
def FC (l:List Lot):Sp:=(L6 0 ((U2 l l.length).1-(U2 l l.length).2.1),(U2 l l.length).2.2.2-(U2 l l.length).2.2.1)
def XT (l:List Lot) (sm:List Int):List Lot:=sm.map fun i=>l.getD i.toNat XZ
def Q38 (sm:List Int):Bool:=(List.range sm.length).any fun k=>decide (sm.getD k 0∈sm.take k)
def Qy (l:List Lot) (sm:List Int):Int:=if Qu l≠0 then Qu l else if sm=[]∨(sm.any fun n=>!inI n 0 ((l.length:Int)-1))=true then 7 else if Q38 sm then 6 else 0
def Qq (l:List Lot) (sm:List Int):Sp:=if Qy l sm=0 then FC (XT l sm) else (0,0)
theorem GQ {x:Lot}:X6 x=true↔(0≤x.1∧x.1≤9)∧(0≤x.2.1.1∧x.2.1.1≤1000)∧(0≤x.2.1.2∧x.2.1.2≤1000)∧x.2.1.1≤x.2.1.2∧1≤x.2.2∧x.2.2≤1000000:=by simp only[X6,inI,Bool.and_eq_true,decide_eq_true_eq];omega
theorem Al {l:List Lot}(h:l≠[]):U2 l 1=((l.getD 0 XZ).2.1.1,(l.getD 0 XZ).2.1.2,(l.getD 0 XZ).2.1.1,(l.getD 0 XZ).2.1.2):=by
 cases l with
 |nil=>exact(h rfl).elim
 |cons x l =>
  have g:∀ a:Int,L6 a a=a:=fun a=>by rw[HJ];omega
  have m:∀ a:Int,OD a a=a:=fun a=>by rw[CQ];omega
  simp[U2,Q8e,g,m]
theorem LX {l:List Lot}{k:Nat}(h:k<l.length):U2 l (k+1)=Q8e (U2 l k) l[k]:=by unfold U2;rw[Z0 h,List.foldl_append];rfl
theorem Hj {l:List Lot}(h:l≠[]):∀ k,1≤k→k≤l.length →
  (∀ i,i<k→(l.getD i XZ).2.1.1≤(U2 l k).1∧(U2 l k).2.1≤(l.getD i XZ).2.1.2∧(U2 l k).2.2.1≤(l.getD i XZ).2.1.1∧(l.getD i XZ).2.1.2≤(U2 l k).2.2.2) ∧
  (∃ i,i<k∧(U2 l k).1=(l.getD i XZ).2.1.1)∧(∃ i,i<k∧(U2 l k).2.1=(l.getD i XZ).2.1.2)∧(∃ i,i<k∧(U2 l k).2.2.1=(l.getD i XZ).2.1.1)∧∃ i,i<k∧(U2 l k).2.2.2=(l.getD i XZ).2.1.2
 |0,h1,_=>by omega
 |1,_,_=>by
  rw[Al h];refine⟨fun i hi=>?_,⟨0,by omega,rfl⟩,⟨0,by omega,rfl⟩,⟨0,by omega,rfl⟩,⟨0,by omega,rfl⟩⟩;have:i=0:=by omega
  subst this;exact⟨Int.le_refl _,Int.le_refl _,Int.le_refl _,Int.le_refl _⟩
 |k+2,_,hk=>by
  obtain⟨a,⟨i1,b1,c1⟩,⟨i2,b2,c2⟩,⟨i3,b3,c3⟩,⟨i4,b4,c4⟩⟩:=Hj h (k+1) (by omega) (by omega);rw[LX (show k+1<l.length by omega)];have aY:l.getD (k+1) XZ=l[k+1]:=Q8 (by omega);have e1:=HJ (U2 l (k+1)).1 l[k+1].2.1.1;have e2:=CQ (U2 l (k+1)).2.1 l[k+1].2.1.2;have e3:=CQ (U2 l (k+1)).2.2.1 l[k+1].2.1.1;have e4:=HJ (U2 l (k+1)).2.2.2 l[k+1].2.1.2;unfold Q8e;dsimp only;refine⟨fun i hi=>?_,?_,?_,?_,?_⟩
  ·by_cases h5:i=k+1
   ·subst h5;rw[aY];omega
   ·have:=a i (by omega);omega
  ·by_cases h5:(U2 l (k+1)).1≤l[k+1].2.1.1
   ·exact⟨k+1,by omega,by rw[aY];omega⟩
   ·exact⟨i1,by omega,by omega⟩
  ·by_cases h5:l[k+1].2.1.2≤(U2 l (k+1)).2.1
   ·exact⟨k+1,by omega,by rw[aY];omega⟩
   ·exact⟨i2,by omega,by omega⟩
  ·by_cases h5:l[k+1].2.1.1≤(U2 l (k+1)).2.2.1
   ·exact⟨k+1,by omega,by rw[aY];omega⟩
   ·exact⟨i3,by omega,by omega⟩
  ·by_cases h5:(U2 l (k+1)).2.2.2≤l[k+1].2.1.2
   ·exact⟨k+1,by omega,by rw[aY];omega⟩
   ·exact⟨i4,by omega,by omega⟩
theorem GX (a:Int) (b:Bool) (m:List (Int×Bool)) (e:Int) (d:Bool):gq.aget (.i .i64) ((a,b)::m) e d=if e=a then b else gq.aget (.i .i64) m e d:=by show (if (e==a)=true then b else gq.aget (.i .i64) m e d)=_;simp only[beq_iff_eq]
theorem IX (a:Int) (b:Bool) (m:List (Int×Bool)) (k:Int) (v:Bool):FD (.i .i64) ((a,b)::m) k v=if k=a then (k,v)::m else (a,b)::FD (.i .i64) m k v:=by show (if (k==a)=true then (k,v)::m else (a,b)::FD (.i .i64) m k v)=_;simp only[beq_iff_eq]
theorem Ig (m:List (Int×Bool)) (k:Int) (v:Bool) (e:Int) (d:Bool):gq.aget (.i .i64) (FD (.i .i64) m k v) e d=if e=k then v else gq.aget (.i .i64) m e d:=by
 induction m with
 |nil=>exact GX k v [] e d
 |cons p m ih =>
  obtain⟨a,b⟩:=p;rw[IX,GX];by_cases h:k=a
  ·subst h;rw[if_pos rfl,GX];split<;>rfl
  ·rw[if_neg h,GX,ih];by_cases h2:e=a
   ·subst h2;rw[if_pos rfl,if_neg (Ne.symm h),if_pos rfl]
   ·rw[if_neg h2,if_neg h2]
end Go.Proofs.Tryz
set_option linter.unusedVariables false
namespace Go.Proofs.Tryz
open Go Go.V Go.Proofs
def MB:AL (Int×Int×Int×Int):=(.one (.agg (.cons (.k (.i .i64)) (.cons (.k (.i .i64)) (.cons (.k (.i .i64)) (.one (.k (.i .i64))))))))
def P4 (d:Int×Int×Int×Int):Prop:=True
def Nk (d:Int×Int×Int×Int):SV:=.val .bo (X6 (d.1,(d.2.1,d.2.2.1),d.2.2.2))
def Nl (d:Int×Int×Int×Int):List OB:=[]
def VC:CSp:=Xv MB P4 Nk Nl
def Wl (lc:Int) (lo:Int) (hi:Int) (lg:Int):Prop :=
 ([lc].length≤1000000)∧((!([lc].any fun n=>decide (n<(0:Int))||decide ((9:Int)<n)))=true→True)∧((!([lc].any fun n=>decide (n<(0:Int))||decide ((9:Int)<n)))=true→[lo,hi].length≤1000000)∧((((!([lc].any fun n=>decide (n<(0:Int))||decide ((9:Int)<n)))&&(!([lo,hi].any fun n=>decide (n<(0:Int))||decide ((1000:Int)<n))))&&(decide (lo≤hi)))=true→True)∧((((!([lc].any fun n=>decide (n<(0:Int))||decide ((9:Int)<n)))&&(!([lo,hi].any fun n=>decide (n<(0:Int))||decide ((1000:Int)<n))))&&(decide (lo≤hi)))=true→[lg].length≤1000000)∧(((((!([lc].any fun n=>decide (n<(0:Int))||decide ((9:Int)<n)))&&(!([lo,hi].any fun n=>decide (n<(0:Int))||decide ((1000:Int)<n))))&&(decide (lo≤hi)))&&(!([lg].any fun n=>decide (n<(1:Int))||decide ((1000000:Int)<n))))=(X6 (lc,(lo,hi),lg))∧(True))
def Mm:Cx:=⟨[(3,(.i .i64))],[(58,Zf)],32,[],0,[],[],[],[],false,[],[],[],[]⟩
def Tg (lc:Int) (lo:Int) (hi:Int) (lg:Int):List (Nat×LoopAnn):=[]
set_option maxRecDepth 100000 in
theorem TZ (d:Int×Int×Int×Int):gwp (Mm) (Tg d.1 d.2.1 d.2.2.1 d.2.2.2) c96 0 (Ws [.tmp 2] (Nk d) (Nl d)) (Qk 32 (AL.can MB d))=Wl d.1 d.2.1 d.2.2.1 d.2.2.2:=by kernel_rfl
abbrev Te:Prop:=OkC Tryz.prog 96 VC
theorem Ti (h:∀ (lc:Int) (lo:Int) (hi:Int) (lg:Int),(True)→Wl lc lo hi lg):OkC Tryz.prog 96 VC :=
 QC Q7k mixed (C:=Mm) (V:=fun (d:Int×Int×Int×Int)=>Wl d.1 d.2.1 d.2.2.1 d.2.2.2) ⟨(.cons J6 .nil),XsOk.nil,ItsOk.nil,YlOk.nil,IysOk.nil,XfOk.nil⟩ (TZ) fun d hp=>h d.1 d.2.1 d.2.2.1 d.2.2.2 hp
theorem TD:Te:=Ti fun lc lo hi lg _=>by unfold Wl;(try delta lI gD sT I64);have e:∀ n a b:Int,(decide (n<a)||decide (b<n))=!inI n a b:=fun n a b=>(nIb n a b).symm;simp only[List.any_cons,List.any_nil,Bool.or_false,e,Bool.not_not,List.length_cons,List.length_nil,Bool.not_or];refine⟨by omega,fun _=>trivial,fun _=>by omega,fun _=>trivial,fun _=>by omega,?_⟩;and_intros<;>first|rfl|trivial
def VX:AL (Int×Int×Int×Int):=(.one (.agg (.cons (.k (.i .i64)) (.cons (.k (.i .i64)) (.cons (.k (.i .i64)) (.one (.k (.i .i64))))))))
def Dm (d:Int×Int×Int×Int):Prop:=True
def K_ (d:Int×Int×Int×Int):SV:=.val .bo (!X6 (d.1,(d.2.1,d.2.2.1),d.2.2.2))
def V5 (d:Int×Int×Int×Int):List OB:=[]
def YT:CSp:=Xv VX Dm K_ V5
def Xc (lc:Int) (lo:Int) (hi:Int) (lg:Int):Prop :=
 (True)∧((!(X6 (lc,(lo,hi),lg)))=(!X6 (lc,(lo,hi),lg))∧(True))
def U3:Cx:=⟨[],[(96,VC)],6,[],0,[],[],[],[],false,[],[],[],[]⟩
def Bj (lc:Int) (lo:Int) (hi:Int) (lg:Int):List (Nat×LoopAnn):=[]
set_option maxRecDepth 100000 in
theorem BF (d:Int×Int×Int×Int):gwp (U3) (Bj d.1 d.2.1 d.2.2.1 d.2.2.2) c95 0 (Ws [.tmp 2] (K_ d) (V5 d)) (Qk 6 (AL.can VX d))=Xc d.1 d.2.1 d.2.2.1 d.2.2.2:=by kernel_rfl
abbrev Bp:Prop:=OkC Tryz.prog 95 YT
theorem Bt (h:∀ (lc:Int) (lo:Int) (hi:Int) (lg:Int),(True)→Xc lc lo hi lg):OkC Tryz.prog 95 YT :=
 QC Q4q mixed (C:=U3) (V:=fun (d:Int×Int×Int×Int)=>Xc d.1 d.2.1 d.2.2.1 d.2.2.2) ⟨(.cons TD .nil),XsOk.nil,ItsOk.nil,YlOk.nil,IysOk.nil,XfOk.nil⟩ (BF) fun d hp=>h d.1 d.2.1 d.2.2.1 d.2.2.2 hp
theorem Bn:Bp:=Bt fun lc lo hi lg _=>by unfold Xc;(try delta lI gD sT I64);and_intros<;>first|rfl|trivial
def QV:AL ((List (Int×(Int×Int)×Int))×((Int×(Int×Int)×Int→Prop)×(Int×(Int×Int)×Int→Bool))):=(.cons (.k (.list (.pair (.i .i64) (.pair (.pair (.i .i64) (.i .i64)) (.i .i64))))) (.one (.fn [(.pair (.i .i64) (.pair (.pair (.i .i64) (.i .i64)) (.i .i64)))] .bo)))
def ZQ (d:(List (Int×(Int×Int)×Int))×((Int×(Int×Int)×Int→Prop)×(Int×(Int×Int)×Int→Bool))):Prop:=d.1.length≤1000000∧∀ x∈d.1,d.2.1 x
def QU (d:(List (Int×(Int×Int)×Int))×((Int×(Int×Int)×Int→Prop)×(Int×(Int×Int)×Int→Bool))):SV:=.val (.i .i64) (CO d.1 d.2.2)
def QT (d:(List (Int×(Int×Int)×Int))×((Int×(Int×Int)×Int→Prop)×(Int×(Int×Int)×Int→Bool))):List OB:=[]
def Qr:CSp:=Xv QV ZQ QU QT
def Qe (l:List (Int×(Int×Int)×Int)) (p:(Int×(Int×Int)×Int→Prop)×(Int×(Int×Int)×Int→Bool)):Prop :=
 ∃ (e2:Unit) (d20:Int),((l=l∧(SV.pf [(.pair (.i .i64) (.pair (.pair (.i .i64) (.i .i64)) (.i .i64)))] .bo p.1 p.2=SV.pf [(.pair (.i .i64) (.pair (.pair (.i .i64) (.i .i64)) (.i .i64)))] .bo p.1 p.2)∧(lI l)=(lI l)∧(0:Int)=d20∧True)∧(True)) ∧
 LoopP (fun (d2:Int) (q2:(Int)→Prop) =>
  ((decide (d2<(lI l)))=true →
   (0≤d2)∧(d2<(List.length l))∧(p.1 ((gD l d2 (0,((0,0),0))).1,(((gD l d2 (0,((0,0),0))).2.1.1,(gD l d2 (0,((0,0),0))).2.1.2),(gD l d2 (0,((0,0),0))).2.2)))∧((p.2 ((gD l d2 (0,((0,0),0))).1,(((gD l d2 (0,((0,0),0))).2.1.1,(gD l d2 (0,((0,0),0))).2.1.2),(gD l d2 (0,((0,0),0))).2.2)))=true →
    (d2=(CO l p.2)∧(True))) ∧
   ((p.2 ((gD l d2 (0,((0,0),0))).1,(((gD l d2 (0,((0,0),0))).2.1.1,(gD l d2 (0,((0,0),0))).2.1.2),(gD l d2 (0,((0,0),0))).2.2)))=false →
    (I64 (d2+(1:Int)))∧(∃ d3:Int,((l=l∧(SV.pf [(.pair (.i .i64) (.pair (.pair (.i .i64) (.i .i64)) (.i .i64)))] .bo p.1 p.2=SV.pf [(.pair (.i .i64) (.pair (.pair (.i .i64) (.i .i64)) (.i .i64)))] .bo p.1 p.2)∧(lI l)=(lI l)∧(d2+(1:Int))=d3∧True)∧(True))∧q2 d3))) ∧
  ((decide (d2<(lI l)))=false →
   ((-1:Int)=(CO l p.2)∧(True)))) d20
def QW:Cx:=⟨[],[],19,[],0,[],[],[],[],false,[],[],[],[]⟩
def ZW (l:List (Int×(Int×Int)×Int)) (p:(Int×(Int×Int)×Int→Prop)×(Int×(Int×Int)×Int→Bool)):List (Nat×LoopAnn):=[(0,⟨Unit,Int,[0,1,7,8],fun e x=>[.val (.list (.pair (.i .i64) (.pair (.pair (.i .i64) (.i .i64)) (.i .i64)))) l,.pf [(.pair (.i .i64) (.pair (.pair (.i .i64) (.i .i64)) (.i .i64)))] .bo p.1 p.2,.val (.i .i64) (((List.length l):Nat):Int),.val (.i .i64) x],fun e x=>[]⟩)]
set_option maxRecDepth 100000 in
theorem ZZ (d:(List (Int×(Int×Int)×Int))×((Int×(Int×Int)×Int→Prop)×(Int×(Int×Int)×Int→Bool))):gwp (QW) (ZW d.1 d.2) Q93 0 (Ws [.tmp 4] (QU d) (QT d)) (Qk 19 (AL.can QV d))=Qe d.1 d.2:=by kernel_rfl
abbrev J7:Prop:=OkC Tryz.prog 125 Qr
theorem ZV (h:∀ (l:List (Int×(Int×Int)×Int)) (p:(Int×(Int×Int)×Int→Prop)×(Int×(Int×Int)×Int→Bool)),(l.length≤1000000∧∀ x∈l,p.1 x)→Qe l p):OkC Tryz.prog 125 Qr :=
 QC Q1e mixed (C:=QW) (V:=fun (d:(List (Int×(Int×Int)×Int))×((Int×(Int×Int)×Int→Prop)×(Int×(Int×Int)×Int→Bool)))=>Qe d.1 d.2) ⟨.nil,XsOk.nil,ItsOk.nil,YlOk.nil,IysOk.nil,XfOk.nil⟩ (ZZ) fun d hp=>h d.1 d.2 hp
theorem J2:J7:=ZV fun l p hp=>by
 unfold Qe;(try delta lI gD sT I64);simp only[true_and,and_true,exists_eq_left',exists_const,decide_eq_true_eq,decide_eq_false_iff_not];refine LoopP.count l.length (fun k=>(l.take k).any p.2=false) (by simp) fun k aY hJ q hq=>?_;simp only[Int.toNat_natCast,Int.ofNat_lt,Z1];refine⟨fun ah=>?_,fun a9=>?_⟩
 ·have ah:k<l.length:=by omega
  rw[Q8 ah];refine⟨by omega,by omega,hp.2 _ (List.getElem_mem ah),fun hx=>?_,fun hx=>⟨by omega,hq ah ?_⟩⟩
  ·rw[LH ah hx hJ]
  ·rw[Z0 ah,List.any_append,hJ];simp[hx]
 ·rw[List.take_of_length_le (by omega)] at hJ;rw[H7 hJ]
def QK:AL ((List (Int×(Int×Int)×Int))×((Int×(Int×Int)×Int→Prop)×(Int×(Int×Int)×Int→Bool))):=(.cons (.k (.list (.pair (.i .i64) (.pair (.pair (.i .i64) (.i .i64)) (.i .i64))))) (.one (.fn [(.pair (.i .i64) (.pair (.pair (.i .i64) (.i .i64)) (.i .i64)))] .bo)))
def Zx (d:(List (Int×(Int×Int)×Int))×((Int×(Int×Int)×Int→Prop)×(Int×(Int×Int)×Int→Bool))):Prop:=d.1.length≤1000000∧∀ x∈d.1,d.2.1 x
def QH (d:(List (Int×(Int×Int)×Int))×((Int×(Int×Int)×Int→Prop)×(Int×(Int×Int)×Int→Bool))):SV:=.val .bo (d.1.any d.2.2)
def QG (d:(List (Int×(Int×Int)×Int))×((Int×(Int×Int)×Int→Prop)×(Int×(Int×Int)×Int→Bool))):List OB:=[]
def Qc:CSp:=Xv QK Zx QH QG
def Qa (l:List (Int×(Int×Int)×Int)) (p:(Int×(Int×Int)×Int→Prop)×(Int×(Int×Int)×Int→Bool)):Prop :=
 (l.length≤1000000∧∀ x∈l,(fun (x1:Int×(Int×Int)×Int)=>p.1 (x1.1,((x1.2.1.1,x1.2.1.2),x1.2.2))) x)∧((decide ((CO l (fun (x1:Int×(Int×Int)×Int)=>(p.2 (x1.1,((x1.2.1.1,x1.2.1.2),x1.2.2)))))≥(0:Int)))=(l.any p.2)∧(True))
def QN:Cx:=⟨[],[(125,Qr)],9,[],0,[],[],[],[],false,[],[],[],[]⟩
def ZD (l:List (Int×(Int×Int)×Int)) (p:(Int×(Int×Int)×Int→Prop)×(Int×(Int×Int)×Int→Bool)):List (Nat×LoopAnn):=[]
set_option maxRecDepth 100000 in
theorem ZH (d:(List (Int×(Int×Int)×Int))×((Int×(Int×Int)×Int→Prop)×(Int×(Int×Int)×Int→Bool))):gwp (QN) (ZD d.1 d.2) c94 0 (Ws [.tmp 4] (QH d) (QG d)) (Qk 9 (AL.can QK d))=Qa d.1 d.2:=by kernel_rfl
abbrev ZB:Prop:=OkC Tryz.prog 94 Qc
theorem ZG (h:∀ (l:List (Int×(Int×Int)×Int)) (p:(Int×(Int×Int)×Int→Prop)×(Int×(Int×Int)×Int→Bool)),(l.length≤1000000∧∀ x∈l,p.1 x)→Qa l p):OkC Tryz.prog 94 Qc :=
 QC Q6l mixed (C:=QN) (V:=fun (d:(List (Int×(Int×Int)×Int))×((Int×(Int×Int)×Int→Prop)×(Int×(Int×Int)×Int→Bool)))=>Qa d.1 d.2) ⟨(.cons J2 .nil),XsOk.nil,ItsOk.nil,YlOk.nil,IysOk.nil,XfOk.nil⟩ (ZH) fun d hp=>h d.1 d.2 hp
theorem QI:ZB:=ZG fun l p hp=>by simp only[Qa];exact⟨hp,Au l p.2,trivial⟩
def Mr:AL (List (Int×(Int×Int)×Int)):=(.one (.k (.list (.pair (.i .i64) (.pair (.pair (.i .i64) (.i .i64)) (.i .i64))))))
def Hq (d:List (Int×(Int×Int)×Int)):Prop:=d.length≤1000
def Uv (d:List (Int×(Int×Int)×Int)):SV:=.val (.i .i64) (Qu d)
def Nf (d:List (Int×(Int×Int)×Int)):List OB:=[]
def JL:CSp:=Xv Mr Hq Uv Nf
def Wm (l:List (Int×(Int×Int)×Int)):Prop :=
 ((decide ((lI l) > (12:Int)))=true →
  ((5:Int)=(Qu l)∧(True))) ∧
 ((decide ((lI l) > (12:Int)))=false →
  (l.length≤1000000∧∀ x∈l,(fun (x1:Int×(Int×Int)×Int)=>True) x)∧((l.any (fun (x1:Int×(Int×Int)×Int)=>(!X6 (x1.1,(x1.2.1.1,x1.2.1.2),x1.2.2))))=true →
   ((2:Int)=(Qu l)∧(True))) ∧
  ((l.any (fun (x1:Int×(Int×Int)×Int)=>(!X6 (x1.1,(x1.2.1.1,x1.2.1.2),x1.2.2))))=false →
   ((0:Int)=(Qu l)∧(True))))
def Mb:Cx:=⟨[],[(94,Qc),(95,YT)],10,[],0,[],[],[],[],false,[],[],[],[]⟩
def TS (l:List (Int×(Int×Int)×Int)):List (Nat×LoopAnn):=[]
set_option maxRecDepth 100000 in
theorem Tn (d:List (Int×(Int×Int)×Int)):gwp (Mb) (TS d) c57 0 (Ws [.tmp 2] (Uv d) (Nf d)) (Qk 10 (AL.can Mr d))=Wm d:=by kernel_rfl
abbrev TL:Prop:=OkC Tryz.prog 57 JL
theorem TB (h:∀ (l:List (Int×(Int×Int)×Int)),(l.length≤1000)→Wm l):OkC Tryz.prog 57 JL :=
 QC Q57 mixed (C:=Mb) (V:=fun (d:List (Int×(Int×Int)×Int))=>Wm d) ⟨(.cons QI (.cons Bn .nil)),XsOk.nil,ItsOk.nil,YlOk.nil,IysOk.nil,XfOk.nil⟩ (Tn) fun d hp=>h d hp
theorem Wi:TL:=TB fun l hl=>by
 unfold Wm;(try delta lI gD sT I64)
 (try simp only[decide_eq_true_eq,decide_eq_false_iff_not])
 refine⟨fun h1=>⟨?_,trivial⟩,fun h1=>⟨⟨by omega,fun _ _=>trivial⟩,fun h2=>⟨?_,trivial⟩,fun h2=>⟨?_,trivial⟩⟩⟩
 ·unfold Qu;rw[if_pos (by omega)]
 ·unfold Qu;rw[if_neg (by omega),if_pos h2]
 ·unfold Qu;rw[if_neg (by omega),if_neg (by rw[show (l.any fun x=>!X6 x)=false from h2];decide)]
end Go.Proofs.Tryz
set_option linter.unusedVariables false
namespace Go.Proofs.Tryz
open Go Go.V Go.Proofs
def Uw:AL (List (Int×(Int×Int)×Int)):=(.one (.k (.list (.pair (.i .i64) (.pair (.pair (.i .i64) (.i .i64)) (.i .i64))))))
def Bw (d:List (Int×(Int×Int)×Int)):Prop:=d≠[]∧d.length≤1000∧∀ x∈d,X6 x=true
def VN (d:List (Int×(Int×Int)×Int)):SV:=.agg [.val (.i .i64) ((FC d).1),.val (.i .i64) ((FC d).2)]
def VZ (d:List (Int×(Int×Int)×Int)):List OB:=[]
def Wk:CSp:=Xv Uw Bw VN VZ
def XC (l:List (Int×(Int×Int)×Int)):Prop :=
 (0≤(0:Int))∧((0:Int)<(List.length l))∧(0≤(0:Int))∧((0:Int)<(List.length l))∧((l=l∧True∧True∧True∧((gD l (0:Int) (0,((0,0),0))).2.1.1=(gD l (0:Int) (0,((0,0),0))).2.1.1∧(gD l (0:Int) (0,((0,0),0))).2.1.2=(gD l (0:Int) (0,((0,0),0))).2.1.2∧(([]:List SV)=[]))∧True)∧(((0:Int)=(0:Int)∧(0:Int)=(0:Int)∧(([]:List SV)=[]))∧((gD l (0:Int) (0,((0,0),0))).2.1.1=(gD l (0:Int) (0,((0,0),0))).2.1.1∧(gD l (0:Int) (0,((0,0),0))).2.1.2=(gD l (0:Int) (0,((0,0),0))).2.1.2∧(([]:List SV)=[]))∧((0:Int)=(0:Int)∧(0:Int)=(0:Int)∧(([]:List SV)=[]))∧True))∧((0≤(0:Int))∧((0:Int)<(List.length l))∧(0≤(0:Int))∧((0:Int)<(List.length l))∧((l=l∧True∧True∧True∧((gD l (0:Int) (0,((0,0),0))).2.1.1=(gD l (0:Int) (0,((0,0),0))).2.1.1∧(gD l (0:Int) (0,((0,0),0))).2.1.2=(gD l (0:Int) (0,((0,0),0))).2.1.2∧(([]:List SV)=[]))∧True)∧(((0:Int)=(0:Int)∧(0:Int)=(0:Int)∧(([]:List SV)=[]))∧((gD l (0:Int) (0,((0,0),0))).2.1.1=(gD l (0:Int) (0,((0,0),0))).2.1.1∧(gD l (0:Int) (0,((0,0),0))).2.1.2=(gD l (0:Int) (0,((0,0),0))).2.1.2∧(([]:List SV)=[]))∧((0:Int)=(0:Int)∧(0:Int)=(0:Int)∧(([]:List SV)=[]))∧True)))∧(0≤(1:Int))∧((1:Int)≤(lI l))∧((lI l)≤(List.length l))∧∃ (e3:Unit) (d30:Int×Int×Int×Int×Int),((True∧True∧True∧(List.take (Int.toNat ((lI l)-(1:Int))) (List.drop (Int.toNat (1:Int)) l))=(List.take (Int.toNat ((lI l)-(1:Int))) (List.drop (Int.toNat (1:Int)) l))∧(lI (List.take (Int.toNat ((lI l)-(1:Int))) (List.drop (Int.toNat (1:Int)) l)))=(lI (List.take (Int.toNat ((lI l)-(1:Int))) (List.drop (Int.toNat (1:Int)) l)))∧(0:Int)=d30.2.2.2.2∧True)∧(((0:Int)=(0:Int)∧(0:Int)=(0:Int)∧(([]:List SV)=[]))∧((gD l (0:Int) (0,((0,0),0))).2.1.1=d30.1∧(gD l (0:Int) (0,((0,0),0))).2.1.2=d30.2.1∧(([]:List SV)=[]))∧((gD l (0:Int) (0,((0,0),0))).2.1.1=d30.2.2.1∧(gD l (0:Int) (0,((0,0),0))).2.1.2=d30.2.2.2.1∧(([]:List SV)=[]))∧True)) ∧
 LoopP (fun (d3:Int×Int×Int×Int×Int) (q3:(Int×Int×Int×Int×Int)→Prop) =>
  ((decide (d3.2.2.2.2<(lI (List.take (Int.toNat ((lI l)-(1:Int))) (List.drop (Int.toNat (1:Int)) l)))))=true →
   (0≤d3.2.2.2.2)∧(d3.2.2.2.2<(List.length (List.take (Int.toNat ((lI l)-(1:Int))) (List.drop (Int.toNat (1:Int)) l))))∧(I64 (d3.2.2.2.2+(1:Int)))∧(∃ d4:Int×Int×Int×Int×Int,((True∧True∧True∧(List.take (Int.toNat ((lI l)-(1:Int))) (List.drop (Int.toNat (1:Int)) l))=(List.take (Int.toNat ((lI l)-(1:Int))) (List.drop (Int.toNat (1:Int)) l))∧(lI (List.take (Int.toNat ((lI l)-(1:Int))) (List.drop (Int.toNat (1:Int)) l)))=(lI (List.take (Int.toNat ((lI l)-(1:Int))) (List.drop (Int.toNat (1:Int)) l)))∧(d3.2.2.2.2+(1:Int))=d4.2.2.2.2∧True)∧(((0:Int)=(0:Int)∧(0:Int)=(0:Int)∧(([]:List SV)=[]))∧((L6 d3.1 (gD (List.take (Int.toNat ((lI l)-(1:Int))) (List.drop (Int.toNat (1:Int)) l)) d3.2.2.2.2 (0,((0,0),0))).2.1.1)=d4.1∧(OD d3.2.1 (gD (List.take (Int.toNat ((lI l)-(1:Int))) (List.drop (Int.toNat (1:Int)) l)) d3.2.2.2.2 (0,((0,0),0))).2.1.2)=d4.2.1∧(([]:List SV)=[]))∧((OD d3.2.2.1 (gD (List.take (Int.toNat ((lI l)-(1:Int))) (List.drop (Int.toNat (1:Int)) l)) d3.2.2.2.2 (0,((0,0),0))).2.1.1)=d4.2.2.1∧(L6 d3.2.2.2.1 (gD (List.take (Int.toNat ((lI l)-(1:Int))) (List.drop (Int.toNat (1:Int)) l)) d3.2.2.2.2 (0,((0,0),0))).2.1.2)=d4.2.2.2.1∧(([]:List SV)=[]))∧True))∧q3 d4)) ∧
  ((decide (d3.2.2.2.2<(lI (List.take (Int.toNat ((lI l)-(1:Int))) (List.drop (Int.toNat (1:Int)) l)))))=false →
   (I64 (d3.1-d3.2.1))∧(I64 (d3.2.2.2.1-d3.2.2.1))∧(((L6 (0:Int) (d3.1-d3.2.1))=((FC l).1)∧(d3.2.2.2.1-d3.2.2.1)=((FC l).2)∧(([]:List SV)=[]))∧(True)))) d30
def Na:Cx:=⟨[],[],61,[],0,[],[],[],[0,2,3,4,14],false,[],[],[],[]⟩
def HD (l:List (Int×(Int×Int)×Int)):List (Nat×LoopAnn):=[(0,⟨Unit,Int×Int×Int×Int×Int,[2,3,4,16,17,18],fun e x=>[.box 2 0,.box 3 0,.box 4 0,.val (.list (.pair (.i .i64) (.pair (.pair (.i .i64) (.i .i64)) (.i .i64)))) (List.take (Int.toNat ((((List.length l):Nat):Int)-(1:Int))) (List.drop (Int.toNat (1:Int)) l)),.val (.i .i64) (((List.length (List.take (Int.toNat ((((List.length l):Nat):Int)-(1:Int))) (List.drop (Int.toNat (1:Int)) l))):Nat):Int),.val (.i .i64) x.2.2.2.2],fun e x=>[(2,.slot 2,.cells [.val (.i .i64) (0:Int),.val (.i .i64) (0:Int)] (some 62)),(3,.slot 3,.cells [.val (.i .i64) x.1,.val (.i .i64) x.2.1] (some 62)),(4,.slot 4,.cells [.val (.i .i64) x.2.2.1,.val (.i .i64) x.2.2.2.1] (some 62))]⟩)]
set_option maxRecDepth 100000 in
theorem Hu (d:List (Int×(Int×Int)×Int)):gwp (Na) (HD d) c59 0 (Ws [.cell 2 true 2] (VN d) (VZ d)) (Qk 61 (AL.can Uw d))=XC d:=by kernel_rfl
abbrev Hr:Prop:=OkC Tryz.prog 59 Wk
theorem Hl (h:∀ (l:List (Int×(Int×Int)×Int)),(l≠[]∧l.length≤1000∧∀ x∈l,X6 x=true)→XC l):OkC Tryz.prog 59 Wk :=
 QC Q4r mixed (C:=Na) (V:=fun (d:List (Int×(Int×Int)×Int))=>XC d) ⟨.nil,XsOk.nil,ItsOk.nil,YlOk.nil,IysOk.nil,XfOk.nil⟩ (Hu) fun d hp=>h d hp
theorem UG:Hr:=Hl fun l h=>by
 obtain⟨h1,h2,h3⟩:=h;have hp:1≤l.length:=List.length_pos_iff.2 h1;unfold XC;(try delta lI gD sT I64);simp only[decide_eq_true_eq,decide_eq_false_iff_not];have hM:List.take ((l.length:Int)-1).toNat (List.drop (Int.toNat 1) l)=l.drop 1:=List.take_of_length_le (by rw[List.length_drop];show l.length-1≤_;omega);have u_:(l.drop 1).length=l.length-1:=List.length_drop ..;have cR:∀ k,k+1<l.length→(l.drop 1).getD k (0,((0,0),0))=l[k+1]?.getD XZ:=fun k hk=>by rw[Q8 (by omega),List.getElem_drop,List.getElem?_eq_getElem hk];simp only[Option.getD_some,Nat.add_comm]
 have h0:l.getD (Int.toNat 0) (0,((0,0),0))=l.getD 0 XZ:=rfl;have s1:=Al h1;rw[hM,h0];refine⟨by omega,by omega,by omega,by omega,(by and_intros<;>first|rfl|trivial|simp),⟨by omega,by omega,by omega,by omega,(by and_intros<;>first|rfl|trivial|simp)⟩,by omega,by omega,by omega,(),((U2 l 1).1,(U2 l 1).2.1,(U2 l 1).2.2.1,(U2 l 1).2.2.2,0),by rw[s1];exact(by and_intros<;>first|rfl|trivial|simp),?_⟩;refine⟨fun d=>∃ k:Nat,k+1≤l.length∧d=((U2 l (k+1)).1,(U2 l (k+1)).2.1,(U2 l (k+1)).2.2.1,(U2 l (k+1)).2.2.2,(k:Int)),fun d=>l.length-d.2.2.2.2.toNat,⟨0,hp,rfl⟩,?_⟩;rintro _ ⟨k,hk,rfl⟩;dsimp only;simp only[Int.toNat_natCast,u_];refine⟨fun ah=>?_,fun a9=>?_⟩
 ·have aY:k+1<l.length:=by omega
  rw[cR k aY,List.getElem?_eq_getElem aY,Option.getD_some];have hs:=LX aY;refine⟨by omega,by omega,by rw[Z1];omega,((U2 l (k+1+1)).1,(U2 l (k+1+1)).2.1,(U2 l (k+1+1)).2.2.1,(U2 l (k+1+1)).2.2.2,(k:Int)+1),by rw[hs];exact(by and_intros<;>first|rfl|trivial|simp),⟨k+1,by omega,by simp⟩,?_⟩;dsimp only;omega
 ·have aM:k+1=l.length:=by omega
  obtain⟨a,⟨i1,b1,c1⟩,⟨i2,b2,c2⟩,⟨i3,b3,c3⟩,⟨i4,b4,c4⟩⟩:=Hj h1 l.length hp (Nat.le_refl _);have hv:∀ i,i<l.length→0≤(l.getD i XZ).2.1.1∧(l.getD i XZ).2.1.1≤1000∧0≤(l.getD i XZ).2.1.2∧(l.getD i XZ).2.1.2≤1000:=fun i hi=>by have:=GQ.1 (h3 _ (List.getElem_mem hi));rw[Q8 hi];omega
  have v1:=hv i1 b1;have v2:=hv i2 b2;have v3:=hv i3 b3;have v4:=hv i4 b4;rw[aM];unfold FC;refine⟨by rw[Z1];omega,by rw[Z1];omega,?_⟩;and_intros<;>first|rfl|trivial
def N9:AL ((List (Int×(Int×Int)×Int))×List Int):=(.cons (.k (.list (.pair (.i .i64) (.pair (.pair (.i .i64) (.i .i64)) (.i .i64))))) (.one (.k (.list (.i .i64)))))
def Bo (d:(List (Int×(Int×Int)×Int))×List Int):Prop:=d.1.length≤1000∧d.2.length≤1000
def VO (d:(List (Int×(Int×Int)×Int))×List Int):SV:=.tup [.agg [.val (.i .i64) ((Qq d.1 d.2).1),.val (.i .i64) ((Qq d.1 d.2).2)],.val (.i .i64) (Qy d.1 d.2)]
def VP (d:(List (Int×(Int×Int)×Int))×List Int):List OB:=[]
def KI:CSp:=Xv N9 Bo VO VP
def XM (l:List (Int×(Int×Int)×Int)) (sm:List Int):Prop :=
 (l.length≤1000)∧(((Qu l) != (0:Int))=true →
  ((((0:Int)=((Qq l sm).1)∧(0:Int)=((Qq l sm).2)∧(([]:List SV)=[]))∧(Qu l)=(Qy l sm)∧(([]:List SV)=[]))∧(True))) ∧
 (((Qu l) != (0:Int))=false →
  (((lI sm)==(0:Int))=false→InK .i64 ((lI l)-(1:Int)))∧(((lI sm)==(0:Int))=false→sm.length≤1000000)∧((((lI sm)==(0:Int))||(!(!(sm.any fun n=>decide (n<(0:Int))||decide (((lI l)-(1:Int))<n)))))=true →
   ((((0:Int)=((Qq l sm).1)∧(0:Int)=((Qq l sm).2)∧(([]:List SV)=[]))∧(7:Int)=(Qy l sm)∧(([]:List SV)=[]))∧(True))) ∧
  ((((lI sm)==(0:Int))||(!(!(sm.any fun n=>decide (n<(0:Int))||decide (((lI l)-(1:Int))<n)))))=false →
   ∃ (e4:Unit) (d40:(List (Int×(Int×Int)×Int))×(List (Int×Bool))×Int),((l=l∧True∧True∧True∧sm=sm∧(lI sm)=(lI sm)∧(0:Int)=d40.2.2∧True)∧(((0:Int)=(0:Int)∧(0:Int)=(0:Int)∧(([]:List SV)=[]))∧(d40.1=[]∧(List.isEmpty d40.1)=true)∧(([]:List (Int×Bool))=d40.2.1)∧True)) ∧
   LoopP (fun (d4:(List (Int×(Int×Int)×Int))×(List (Int×Bool))×Int) (q4:((List (Int×(Int×Int)×Int))×(List (Int×Bool))×Int)→Prop) =>
    ((decide (d4.2.2<(lI sm)))=true →
     (0≤d4.2.2)∧(d4.2.2<(List.length sm))∧((gq.aget (.i .i64) d4.2.1 (gD sm d4.2.2 0) false)=true →
      ((((0:Int)=((Qq l sm).1)∧(0:Int)=((Qq l sm).2)∧(([]:List SV)=[]))∧(6:Int)=(Qy l sm)∧(([]:List SV)=[]))∧(True))) ∧
     ((gq.aget (.i .i64) d4.2.1 (gD sm d4.2.2 0) false)=false →
      (0≤(gD sm d4.2.2 0))∧((gD sm d4.2.2 0)<(List.length l))∧(((List.length d4.1)+(List.length [((gD l (gD sm d4.2.2 0) (0,((0,0),0))).1,(((gD l (gD sm d4.2.2 0) (0,((0,0),0))).2.1.1,(gD l (gD sm d4.2.2 0) (0,((0,0),0))).2.1.2),(gD l (gD sm d4.2.2 0) (0,((0,0),0))).2.2))]))*32≤70368744177664)∧(I64 (d4.2.2+(1:Int)))∧(∃ d5:(List (Int×(Int×Int)×Int))×(List (Int×Bool))×Int,((l=l∧True∧True∧True∧sm=sm∧(lI sm)=(lI sm)∧(d4.2.2+(1:Int))=d5.2.2∧True)∧(((0:Int)=(0:Int)∧(0:Int)=(0:Int)∧(([]:List SV)=[]))∧((d4.1++[((gD l (gD sm d4.2.2 0) (0,((0,0),0))).1,(((gD l (gD sm d4.2.2 0) (0,((0,0),0))).2.1.1,(gD l (gD sm d4.2.2 0) (0,((0,0),0))).2.1.2),(gD l (gD sm d4.2.2 0) (0,((0,0),0))).2.2))])=d5.1∧false=(List.isEmpty d5.1))∧((FD (.i .i64) d4.2.1 (gD sm d4.2.2 0) true)=d5.2.1)∧True))∧q4 d5))) ∧
    ((decide (d4.2.2<(lI sm)))=false →
     (d4.1≠[]∧d4.1.length≤1000∧∀ x∈d4.1,X6 x=true)∧(((((FC d4.1).1)=((Qq l sm).1)∧((FC d4.1).2)=((Qq l sm).2)∧(([]:List SV)=[]))∧(0:Int)=(Qy l sm)∧(([]:List SV)=[]))∧(True)))) d40))
def Nh:Cx:=⟨[(64,(.pair (.i .i64) (.pair (.pair (.i .i64) (.i .i64)) (.i .i64)))),(1000029,(.pair (.i .i64) .bo))],[(57,JL),(58,Zf),(59,Wk)],52,[],0,[],[],[],[],false,[],[],[],[]⟩
def Hx (l:List (Int×(Int×Int)×Int)) (sm:List Int):List (Nat×LoopAnn):=[(0,⟨Unit,(List (Int×(Int×Int)×Int))×(List (Int×Bool))×Int,[0,4,7,8,30,31,32],fun e x=>[.val (.list (.pair (.i .i64) (.pair (.pair (.i .i64) (.i .i64)) (.i .i64)))) l,.box 4 0,.lst 48,.map 29,.val (.list (.i .i64)) sm,.val (.i .i64) (((List.length sm):Nat):Int),.val (.i .i64) x.2.2],fun e x=>[(4,.slot 4,.cells [.val (.i .i64) (0:Int),.val (.i .i64) (0:Int)] (some 62)),(48,.slot 7,.lst 64 (.pair (.i .i64) (.pair (.pair (.i .i64) (.i .i64)) (.i .i64))) x.1 (List.isEmpty x.1)),(29,.slot 8,.map (.i .i64) .bo x.2.1)]⟩)]
set_option maxRecDepth 100000 in
theorem PA (d:(List (Int×(Int×Int)×Int))×List Int):gwp (Nh) (Hx d.1 d.2) c23 0 (Ws [.cell 4 true 2,.tmp 5] (VO d) (VP d)) (Qk 52 (AL.can N9 d))=XM d.1 d.2:=by kernel_rfl
abbrev H_:Prop:=OkC Tryz.prog 23 KI
theorem HP (h:∀ (l:List (Int×(Int×Int)×Int)) (sm:List Int),(l.length≤1000∧sm.length≤1000)→XM l sm):OkC Tryz.prog 23 KI :=
 QC Q47 mixed (C:=Nh) (V:=fun (d:(List (Int×(Int×Int)×Int))×List Int)=>XM d.1 d.2) ⟨(.cons Wi (.cons J6 (.cons UG .nil))),XsOk.nil,ItsOk.nil,YlOk.nil,IysOk.nil,XfOk.nil⟩ (PA) fun d hp=>h d.1 d.2 hp
end Go.Proofs.Tryz
set_option linter.unusedVariables false
namespace Go.Proofs.Tryz
open Go Go.V Go.Proofs
theorem Pk {l:List Lot}(h:Qu l=0):l.length≤12∧∀ x∈l,X6 x=true:=by
 unfold Qu at h;split at h
 ·cases h
 ·split at h
  ·cases h
  ·rename_i h1 h2;refine⟨by omega,fun x hx=>?_⟩;have:=List.any_eq_false.1 (Bool.eq_false_iff.2 h2) x hx;simpa using this
theorem RH {l:List Lot}{sm:List Int}{k:Nat}(h:k<sm.length):XT l (sm.take (k+1))=XT l (sm.take k)++[l.getD (sm.getD k 0).toNat XZ]:=by unfold XT;rw[Z0 h,List.map_append,Q8 h];rfl
theorem Aj {l:List Lot}{sm:List Int}(h:∀ x∈l,X6 x=true) (hs:∀ i∈sm,0≤i∧i<l.length):∀ x∈XT l sm,X6 x=true:=fun x hx=>by simp only[XT,List.mem_map] at hx;obtain⟨i,hi,rfl⟩:=hx;have:=hs i hi;rw[Q8 (show i.toNat<l.length by omega)];exact h _ (List.getElem_mem _)
theorem D8 {l:List Lot}{sm:List Int}{e:Int}(h:Qy l sm=e) (h0:e≠0):(0=(Qq l sm).1∧0=(Qq l sm).2)∧e=Qy l sm:=by
 have:Qq l sm=(0,0):=by unfold Qq;rw[h,if_neg h0]
 rw[this,h];exact⟨⟨rfl,rfl⟩,rfl⟩
theorem BX:H_:=HP fun l sm h=>by
 obtain⟨h1,h2⟩:=h;unfold XM;(try delta lI gD sT I64);have e:∀ n a b:Int,(decide (n<a)||decide (b<n))=!inI n a b:=fun n a b=>(nIb n a b).symm;simp only[e,Bool.not_not,decide_eq_true_eq,decide_eq_false_iff_not,bne_iff_ne,bne_eq_false_iff_eq,ne_eq];refine⟨h1,fun a1=>?_,fun a1=>⟨fun _=>by rw[Z1];omega,fun _=>by omega,fun a2=>?_,fun a2=>?_⟩⟩
 ·have:=D8 (l:=l) (sm:=sm) (e:=Qu l) (by unfold Qy;rw[if_pos a1]) a1;and_intros<;>first|exact this.1.1|exact this.1.2|exact this.2|trivial
 ·have:=D8 (l:=l) (sm:=sm) (e:=7) (by
   unfold Qy;rw[if_neg (by omega),if_pos];rw[Bool.or_eq_true] at a2;rcases a2 with a2|a2
   ·left;have:=eq_of_beq a2;exact List.length_eq_zero_iff.1 (by omega)
   ·exact .inr a2) (by decide)
  and_intros<;>first|exact this.1.1|exact this.1.2|exact this.2|trivial
 rw[Bool.or_eq_false_iff] at a2;have a3:sm≠[]:=fun h=>by rw[h] at a2;simp at a2
 have a4:∀ i∈sm,0≤i∧i<l.length:=fun i hi=>by have:=List.any_eq_false.1 a2.2 i hi;simp only[Bool.not_eq_true',Bool.not_eq_false,inI,Bool.and_eq_true,decide_eq_true_eq] at this;omega
 have l8:Qy l sm=if Q38 sm then 6 else 0:=by
  unfold Qy;rw[if_neg (by omega),if_neg];rintro (h|h)
  ·exact a3 h
  ·rw[a2.2] at h;cases h
 obtain⟨l1,l2⟩:=Pk a1;refine⟨(),([],[],0),(by and_intros<;>first|rfl|trivial|simp),?_⟩;refine LoopP.count3 sm.length (fun k L m=>L=XT l (sm.take k)∧(∀ x,gq.aget (.i .i64) m x false=decide (x∈sm.take k))∧∀ j,j<k→sm.getD j 0∉sm.take j) ⟨rfl,fun x=>by simp;rfl,fun j hj=>by omega⟩ fun k L m hk hJ q hq=>?_;obtain⟨rfl,j2,j3⟩:=hJ;dsimp only;simp only[Int.toNat_natCast];refine⟨fun ah=>?_,fun a9=>?_⟩
 ·have aM:k<sm.length:=by omega
  have rY:sm.getD k 0∈sm:=by rw[Q8 aM];exact List.getElem_mem aM
  have hx:=a4 _ rY;simp only[j2,decide_eq_true_eq,decide_eq_false_iff_not];refine⟨by omega,ah,fun hu=>?_,fun hu=>⟨by omega,by omega,?_,by rw[Z1];omega,(XT l (sm.take (k+1)),FD (.i .i64) m (sm.getD k 0) true,(k:Int)+1),?_,hq _ _ aM ⟨rfl,fun x=>?_,fun j hj=>?_⟩⟩⟩
  ·have hd:Q38 sm=true:=List.any_eq_true.2 ⟨k,List.mem_range.2 aM,decide_eq_true hu⟩;have:=D8 (l:=l) (sm:=sm) (e:=6) (by rw[l8,if_pos hd]) (by decide);and_intros<;>first|exact this.1.1|exact this.1.2|exact this.2|trivial
  ·simp only[XT,List.length_map,List.length_take,List.length_cons,List.length_nil];omega
  ·rw[RH aM];have:((XT l (sm.take k)++[l.getD (sm.getD k 0).toNat XZ]).isEmpty)=false:=by simp
   and_intros<;>first|rfl|trivial|exact this.symm
  ·have hm:x∈sm.take (k+1)↔x∈sm.take k∨x=sm.getD k 0:=by rw[Z0 aM,List.mem_append,List.mem_singleton,Q8 aM]
   rw[Ig,j2];by_cases h5:x=sm.getD k 0
   ·rw[if_pos h5];exact(decide_eq_true (hm.2 (.inr h5))).symm
   ·rw[if_neg h5,Bool.eq_iff_iff,decide_eq_true_eq,decide_eq_true_eq,hm];exact⟨.inl,fun h=>h.resolve_right h5⟩
  ·rcases Nat.lt_succ_iff_lt_or_eq.1 hj with hj|rfl
   ·exact j3 j hj
   ·exact hu
 ·have oR:k=sm.length:=by omega
  subst oR;rw[List.take_length] at *
  have hd:Q38 sm=false:=by rw[Q38,List.any_eq_false];intro j hj;simpa using j3 j (List.mem_range.1 hj)
  have h6:Qy l sm=0:=by rw[l8,hd];rfl
  have h7:Qq l sm=FC (XT l sm):=by unfold Qq;rw[if_pos h6]
  rw[h6,h7];refine⟨⟨?_,by simp[XT];omega,Aj l2 a4⟩,?_⟩
  ·simpa [XT] using a3
  ·and_intros<;>first|rfl|trivial
end Go.Proofs.Tryz
set_option linter.unusedVariables false
namespace Go.Proofs.Tryz
open Go Go.V Go.Proofs
def tzK:Nat→Nat→Nat
 |0,_=>0
 |f+1,n=>if n % 2=1 then 0 else 1+tzK f (n / 2)
def tzN (n:Nat):Nat:=if n=0 then 64 else tzK 64 n
theorem Eo:∀ f n,0<n→n<2 ^ f→tzK f n<f∧∃ m,n=2 ^ tzK f n*(2*m+1)
 |0,n,h0,h1=>by simp at h1;omega
 |f+1,n,h0,h1=>by
  unfold tzK;split
  ·rename_i h;exact⟨by omega,n / 2,by omega⟩
  ·rename_i h;have hp:2 ^ (f+1)=2*2 ^ f:=by rw[Nat.pow_succ];omega
   obtain⟨h2,m,h3⟩:=Eo f (n / 2) (by omega) (by omega);refine⟨by omega,m,?_⟩;rw[Nat.add_comm,Nat.pow_succ,Nat.mul_comm (2 ^ _) 2,Nat.mul_assoc,←h3];omega
theorem Ns {n:Nat}(h0:0<n) (h1:n<2 ^ 64):tzN n<64∧∃ m,n=2 ^ tzN n*(2*m+1):=by unfold tzN;rw[if_neg (by omega)];exact Eo 64 n h0 h1
theorem Cp {t m:Nat}(i:Nat):(2 ^ t*(2*m+1)-1).testBit i=if i<t then true else if i=t then false else (2 ^ t*(2*m+1)).testBit i:=by
 have hp:0<2 ^ t:=Nat.two_pow_pos t;have e:2 ^ t*(2*m+1)-1=2 ^ t*(2*m)+(2 ^ t-1):=by rw[Nat.mul_add,Nat.mul_one];omega
 rw[e,Nat.testBit_two_pow_mul_add _ (by omega)];split
 ·rename_i h;rw[Nat.testBit_two_pow_sub_one];simpa using h
 ·rename_i h;split
  ·rename_i h2;subst h2;simp
  ·rename_i h2;rw[Nat.testBit_two_pow_mul];obtain⟨k,hk⟩:∃ k,i-t=k+1:=⟨i-t-1,by omega⟩;have hd:decide (i≥t)=true:=decide_eq_true (by omega);rw[hd,hk,Nat.testBit_succ,Nat.testBit_succ,Bool.true_and];congr 1;omega
theorem Q2g {n:Nat}(h0:0<n) (h1:n<2 ^ 64):n &&& (2 ^ 64-n)=2 ^ tzN n:=by
 obtain⟨ht,m,hm⟩:=Ns h0 h1;generalize tzN n=t at *
 refine Nat.eq_of_testBit_eq fun i=>?_;have e:2 ^ 64-n=2 ^ 64-((n-1)+1):=by omega
 rw[Nat.testBit_and,e,Nat.testBit_two_pow_sub_succ (by omega),Nat.testBit_two_pow,hm,Cp];by_cases h2:i<t
 ·rw[if_pos h2,Nat.testBit_two_pow_mul,decide_eq_false (show ¬ i≥t by omega),decide_eq_false (show ¬ t=i by omega)];rfl
 ·rw[if_neg h2];by_cases h3:i=t
  ·subst h3;rw[if_pos rfl,Nat.testBit_two_pow_mul];simp;omega
  ·rw[if_neg h3,decide_eq_false (show ¬ t=i by omega)];cases (2 ^ t*(2*m+1)).testBit i<;>simp
theorem Ga {n:Nat}(h0:0<n) (h1:n<2 ^ 64) (i:Nat):(n &&& (n-1)).testBit i=(n.testBit i&&!decide (i=tzN n)):=by
 obtain⟨ht,m,hm⟩:=Ns h0 h1;generalize tzN n=t at *
 rw[Nat.testBit_and,hm,Cp];by_cases h2:i<t
 ·rw[if_pos h2,decide_eq_false (by omega)];simp
 ·rw[if_neg h2];by_cases h3:i=t
  ·rw[if_pos h3,decide_eq_true h3];simp
  ·rw[if_neg h3,decide_eq_false h3];simp
def Ry:Nat→Nat→List Int
 |0,_=>[]
 |f+1,n=>if n=0 then [] else (tzN n:Int)::Ry f (n &&& (n-1))
def Qo (n:Nat):List Int:=Ry n n
theorem Lo:∀ f g n,n≤f→n≤g→Ry f n=Ry g n
 |0,g,n,h1,_=>by
  have:n=0:=by omega
  subst this;cases g<;>simp[Ry]
 |f+1,0,n,_,h2=>by
  have:n=0:=by omega
  subst this;simp[Ry]
 |f+1,g+1,n,h1,h2=>by
  unfold Ry;by_cases h:n=0
  ·rw[if_pos h,if_pos h]
  ·rw[if_neg h,if_neg h];have:=Nat.and_le_right (n:=n) (m:=n-1);rw[Lo f g _ (by omega) (by omega)]
theorem Ca {n:Nat}(h:0<n):Qo n=(tzN n:Int)::Qo (n &&& (n-1)):=by
 have:=Nat.and_le_right (n:=n) (m:=n-1);unfold Qo;obtain⟨f,rfl⟩:∃ f,n=f+1:=⟨n-1,by omega⟩;conv=>lhs;unfold Ry
 rw[if_neg (by omega),Lo f _ _ (by omega) (Nat.le_refl _)]
theorem Ie:Qo 0=[]:=rfl
theorem Q4o:∀ t:Nat,t<64→Go.V.t64[(2 ^ t*285870213051353865 % 18446744073709551616) / 288230376151711744]?=some (t:Int):=by decide +kernel
end Go.Proofs.Tryz
set_option linter.unusedVariables false
namespace Go.Proofs.Tryz
open Go Go.V Go.Proofs
def czT:VCode :=
 .seq (.region [
  ⟨(some 2),.move (.const (.int .i64 (0))),none⟩])
 (.seq (.seq (.region [
  ⟨(some 3),.move (.tmp 0),none⟩,
  ⟨(some 4),.cmp .eql (.tmp 3) (.const (.int .u64 (0))),none⟩])
 (.cond (.tmp 4) (.seq (.region [
   ⟨(some 2),.move (.const (.int .i64 (64))),none⟩])
  (.ret))
  (.skip)))
 (.seq (.region [
  ⟨(some 5),.move (.tmp 0),none⟩,
  ⟨(some 6),.move (.tmp 0),none⟩,
  ⟨(some 7),.un .neg (.tmp 6),none⟩,
  ⟨(some 8),.bits .and (.tmp 5) (.tmp 7),none⟩,
  ⟨(some 9),.arith .mul (.tmp 8) (.const (.int .u64 (285870213051353865))),none⟩,
  ⟨(some 10),.shift .shr (.tmp 9) (.const (.int .u64 (58))),none⟩,
  ⟨(some 11),.indexAddrArr 64 1 (.global 1) (.tmp 10),none⟩,
  ⟨(some 12),.load false 1 (.tmp 11),none⟩,
  ⟨(some 13),.convI .i64 (.tmp 12),none⟩,
  ⟨(some 2),.move (.tmp 13),none⟩])
 (.ret)))
theorem K7 {S:VSpecs}{op:VOp}{d:Option Nat}{l:List VOper}{env:Env}{σ:Heap}{K:Env→Heap→Prop}(v:Value) (h:∀ Q:Value→Heap→Prop,Q v σ→vop S op env σ Q) (hK:Pv S l (JK env d v) σ K):Pv S (⟨d,op,none⟩::l) env σ K:=by show vif true _ _;exact⟨fun _=>h _ hK,fun h=>by cases h⟩
theorem Q2d {S:VSpecs}{op:BinOp}{x y:Operand}{env:Env}{σ:Heap}{Q:Value→Heap→Prop}{k:IntKind}{a b:Int}(hx:Q4 env x=.int k a) (hy:Q4 env y=.int k b) (h:Q (.bool (Q49 op a b)) σ):vop S (.cmp op x y) env σ Q:=by simp only[vop,Q6,hx,hy,if_true,QX];exact h
theorem Q0p {S:VSpecs}{op:BinOp}{x y:Operand}{env:Env}{σ:Heap}{Q:Value→Heap→Prop}{k:IntKind}{a b:Int}(hx:Q4 env x=.int k a) (hy:Q4 env y=.int k b) (h:Q (.int k (Q1 op k a b)) σ):vop S (.bits op x y) env σ Q:=by simp only[vop,Q6,hx,hy,if_true,QX];exact h
theorem FX {S:VSpecs}{op:BinOp}{x y:Operand}{env:Env}{σ:Heap}{Q:Value→Heap→Prop}{k:IntKind}{a b:Int}(hx:Q4 env x=.int k a) (hy:Q4 env y=.int k b) (h:Q (.int k (DG op k a b)) σ):vop S (.arith op x y) env σ Q:=by simp only[vop,Q6,hx,hy,if_true,QX];exact h
theorem I0 {S:VSpecs}{op:BinOp}{x y:Operand}{env:Env}{σ:Heap}{Q:Value→Heap→Prop}{k k':IntKind}{a b:Int}(hx:Q4 env x=.int k a) (hy:Q4 env y=.int k' b) (h0:0≤b) (h:Q (.int k (DQ op k a b)) σ):vop S (.shift op x y) env σ Q:=by simp only[vop,Q6,hx,hy,h0,if_true,QX];exact h
theorem OO {S:VSpecs}{x:Operand}{env:Env}{σ:Heap}{Q:Value→Heap→Prop}{k k':IntKind}{a:Int}(hx:Q4 env x=.int k a) (h:Q (.int k' (k'.wrap a)) σ):vop S (.convI k' x) env σ Q:=by simp only[vop,Q6,hx,QX];exact h
theorem Q24 {S:VSpecs}{len size g o s:Nat}{x y:Operand}{env:Env}{σ:Heap}{Q:Value→Heap→Prop}{k':IntKind}{b:Int}(hx:Q4 env x=.pointer (some ⟨g,o,some s⟩)) (hy:Q4 env y=.int k' b) (h0:0≤b∧b<len) (h:Q (.pointer (some ⟨g,o+b.toNat*size,some s⟩)) σ):vop S (.indexAddrArr len size x y) env σ Q:=by simp only[vop,Q6,hx,hy,h0,and_self,if_true,QX];exact h
theorem Q0w {S:VSpecs}{size g o s:Nat}{agg:Bool}{x:Operand}{env:Env}{σ:Heap}{Q:Value→Heap→Prop}{c:List Value}{v:Value}(hx:Q4 env x=.pointer (some ⟨g,o,some s⟩)) (hg:Ow g=some c) (hp:c.all QJ=true) (hv:Xy agg size c o=some v) (h:Q v σ):vop S (.load agg size x) env σ Q:=by simp only[vop,Q6,hx,hg,hp,hv,if_true,QX];exact h
theorem RU (x:Int):IntKind.wrap .u64 x=x % 18446744073709551616:=by show (if (false&&decide (x % (18446744073709551616:Int)≥9223372036854775808))=true then x % (18446744073709551616:Int)-18446744073709551616 else x % (18446744073709551616:Int))=_;simp
theorem Gy {x:Nat}(h:x<2 ^ 64):(BitVec.ofInt 64 (x:Int)).toNat=x:=by rw[LQ,BitVec.toNat_ofNat,Nat.mod_eq_of_lt h]
theorem E0 {x y:Nat}(hx:x<2 ^ 64) (hy:y<2 ^ 64):Q1 .and .u64 x y=((x &&& y:Nat):Int):=by
 have e:(BitVec.ofInt 64 (x:Int) &&& BitVec.ofInt 64 (y:Int)).toNat=x &&& y:=by rw[BitVec.toNat_and,Gy hx,Gy hy]
 show IntKind.wrap .u64 ((BitVec.ofInt 64 (x:Int) &&& BitVec.ofInt 64 (y:Int)).toNat:Int)=_;have hl:x &&& y≤x:=Nat.and_le_left;rw[e,RU];omega
set_option maxHeartbeats 2000000 in
theorem Q7f {P:Program}{f:Nat}(h:Fun P f czT [.tmp 2] 14) (hm:P.follows .mixedOrders=true) {x:Int}(h0:0≤x) (h1:x≤18446744073709551615) {σ:Heap}{K:Value→Heap→Prop}(hK:K (.int .i64 (tzN x.toNat)) σ):VCalled P f [.int .u64 x] σ K:=by
 refine h.calls hm S8 ?_;obtain⟨n,rfl⟩:=Int.eq_ofNat_of_zero_le h0;have h1:n<2 ^ 64:=by omega
 rw[Int.toNat_natCast] at hK;unfold czT;refine K7 (.int .i64 0) (fun _ h=>h) ?_;refine K7 (.int .u64 n) (fun _ h=>h) ?_;refine K7 (.bool ((n:Int)==0)) (fun _ h=>Q2d (k:=.u64) (a:=n) (b:=0) rfl rfl h) ?_;show vif ((n:Int)==0) _ _;refine⟨fun hz=>?_,fun hz=>?_⟩
 ·have hz:n=0:=by have:=eq_of_beq hz;omega
  subst hz;refine K7 (.int .i64 64) (fun _ h=>h) ?_;exact⟨_,_,DropTo.refl _ _ _,hK⟩
 have hz:0<n:=by
  rcases Nat.eq_zero_or_pos n with h|h
  ·subst h;cases hz
  ·exact h
 refine K7 (.int .u64 n) (fun _ h=>h) ?_;refine K7 (.int .u64 n) (fun _ h=>h) ?_;refine K7 (.int .u64 (IntKind.u64.wrap (0-(n:Int)))) (fun _ h=>h) ?_;have hand:Q1 .and .u64 n (IntKind.u64.wrap (0-(n:Int)))=((2 ^ tzN n:Nat):Int):=by
  have e:IntKind.u64.wrap (0-(n:Int))=((2 ^ 64-n:Nat):Int):=by rw[RU];omega
  rw[e,E0 h1 (by omega),Q2g hz h1]
 refine K7 (.int .u64 ((2 ^ tzN n:Nat):Int)) (fun _ h=>Q0p (k:=.u64) (a:=n) (b:=IntKind.u64.wrap (0-(n:Int))) rfl rfl (by rw[hand];exact h)) ?_;have hmul:DG .mul .u64 ((2 ^ tzN n:Nat):Int) 285870213051353865=((2 ^ tzN n*285870213051353865 % 18446744073709551616:Nat):Int):=by show IntKind.wrap .u64 (((2 ^ tzN n:Nat):Int)*285870213051353865)=_;rw[RU];omega
 refine K7 (.int .u64 ((2 ^ tzN n*285870213051353865 % 18446744073709551616:Nat):Int)) (fun _ h=>FX (k:=.u64) (a:=((2 ^ tzN n:Nat):Int)) (b:=285870213051353865) rfl rfl (by rw[hmul];exact h)) ?_;have qD:DQ .shr .u64 ((2 ^ tzN n*285870213051353865 % 18446744073709551616:Nat):Int) 58=((2 ^ tzN n*285870213051353865 % 18446744073709551616 / 288230376151711744:Nat):Int):=by show Int.fdiv _ 288230376151711744=_;rw[Int.fdiv_eq_ediv_of_nonneg _ (by decide)];omega
 refine K7 (.int .u64 ((2 ^ tzN n*285870213051353865 % 18446744073709551616 / 288230376151711744:Nat):Int)) (fun _ h=>I0 (k:=.u64) (k':=.u64) (a:=((2 ^ tzN n*285870213051353865 % 18446744073709551616:Nat):Int)) (b:=58) rfl rfl (by decide) (by rw[qD];exact h)) ?_;have qE:=Q4o (tzN n) (Ns hz h1).1;have ah:2 ^ tzN n*285870213051353865 % 18446744073709551616 / 288230376151711744<64:=by omega
 generalize 2 ^ tzN n*285870213051353865 % 18446744073709551616 / 288230376151711744=k at *
 refine K7 (.pointer (some ⟨1,0+(k:Int).toNat*1,some 0⟩)) (fun _ h=>Q24 (g:=1) (o:=0) (s:=0) (b:=k) (k':=.u64) rfl rfl (by omega) h) ?_;have hv:Xy false 1 (Go.V.t64.map fun x=>Value.int .u8 x) (0+(k:Int).toNat*1)=some (.int .u8 (tzN n)):=by show (Go.V.t64.map fun x=>Value.int .u8 x)[0+(k:Int).toNat*1]?=_;rw[Int.toNat_natCast,Nat.mul_one,Nat.zero_add,List.getElem?_map,qE];rfl
 refine K7 (.int .u8 (tzN n)) (fun _ h=>Q0w (g:=1) (s:=0) (o:=0+(k:Int).toNat*1) (c:=Go.V.t64.map fun x=>Value.int .u8 x) rfl rfl (by decide) hv h) ?_;have vd:=(Ns hz h1).1;have fJ:IntKind.i64.wrap (tzN n:Int)=tzN n:=InK.wrap (k:=.i64) ((Z1 _).2 (by omega));refine K7 (.int .i64 (tzN n)) (fun _ h=>OO (k:=.u8) (a:=tzN n) rfl (by rw[fJ];exact h)) ?_;refine K7 (.int .i64 (tzN n)) (fun _ h=>h) ?_;exact⟨_,_,DropTo.refl _ _ _,hK⟩
theorem Fp {P:Program}{σ:Heap}{v:SV}{u:Value}(h:SR P hNil Xd Jn v u):Ret P σ v [] u σ :=
 ⟨⟨.refl _,Dead.refl _⟩,fun _=>rfl,Xd,fun j b hj=>by simp at hj,fun j j' i hj=>by simp at hj,h⟩
theorem IJ (σ:Heap):B_ σ []=σ:=by
 unfold B_;cases σ;simp only[List.length_nil,Nat.add_zero,List.getElem?_nil,Option.bind_none,Heap.mk.injEq,and_true];funext i;split
 ·rfl
 ·rename_i wf hi;exact(wf i (by simpa using hi)).symm
theorem Q2t {P:Program}{f:Nat}{pre:Int→Prop}{r:Int→Int}(h:∀ x,pre x→∀ (σ:Heap) (K:Value→Heap→Prop),K (.int .i64 (r x)) σ→VCalled P f [.int .u64 x] σ K) :
  OkC P f (Xv (.one (.k (.i .u64)):AL Int) pre (fun d=>.val (.i .i64) (r d)) (fun _=>[])):=by
 intro ap eA σ args vs c v bs ax hs hv bW hc;unfold Xv at hs;split at hs
 ·rename_i d hd;obtain⟨rfl,rfl,rfl⟩:=(by simpa using hs:pre d=c∧SV.val (.i .i64) (r d)=v∧[]=bs)
  match args,ax,hd with
  |[],_,hd=>simp[AL.dec] at hd
  |a::x::l,_,hd=>simp[AL.dec] at hd
  |[a],ax,hd =>
   simp only[AL.dec] at hd;obtain⟨u1,oZ,rfl,s1,ax⟩:=ax;have ax:oZ=[]:=ax;subst ax;have k1:KC σ (.i .u64) d [u1]:=QF (k:=.i .u64) hd ⟨u1,[],rfl,s1,rfl⟩;have e1:u1=.int .u64 d:=by simpa [KC] using k1
   subst e1;refine⟨h d hc σ _ (Fp (by simp[SR,KC])),fun _ _=>h d hc σ _ ⟨?_,(IJ σ).symm⟩⟩;simp[KK,L5]
 ·cases hs
theorem Iu {P:Program}{f:Nat}{D:Type}{l:AL D}{pre:D→Prop}{res:D→SV}{obs:D→List OB}(h:∀ d,pre d→False):OkC P f (Xv l pre res obs):=by
 intro ap eA σ args vs c v bs ax hs hv bW hc;unfold Xv at hs;split at hs
 ·rename_i d hd;have:pre d↔c:=by simp at hs;exact hs.1
  exact(h d (this.2 hc)).elim
 ·cases hs
end Go.Proofs.Tryz
set_option linter.unusedVariables false
namespace Go.Proofs.Tryz
open Go Go.V Go.Proofs
def Yi:AL (Int):=(.one (.k (.i .u64)))
def WS (d:Int):Prop:=0≤d∧d≤18446744073709551615
def WU (d:Int):SV:=.val (.i .i64) ((tzN d.toNat:Nat):Int)
def WQ (d:Int):List OB:=[]
def Jx:CSp:=Xv Yi WS WU WQ
abbrev Yk:Prop:=OkC Tryz.prog 83 Jx
theorem Y6:Yk :=
 Q2t (pre:=fun x=>0≤x∧x≤18446744073709551615) (r:=fun x=>((tzN x.toNat:Nat):Int)) fun x hx σ K hK =>
  Q7f (f:=83) (by rw[show czT=c83 by kernel_rfl];exact Q6x) mixed hx.1 hx.2 hK
end Go.Proofs.Tryz
set_option linter.unusedVariables false
namespace Go.Proofs.Tryz
open Go Go.V Go.Proofs
def Wz (nc ng:Int):Bool:=inI nc 0 9&&inI ng 1 12000000
def Z6 (l:List Lot) (tl:Int):Int:=if Qu l≠0 then Qu l else if !inI tl 0 1000 then 3 else 0
def XR (l:List Lot) (S:List Int):Int:=S.foldl (fun a i=>a+(l.getD i.toNat XZ).2.2) 0
def E2 (tl:Int) (p:List Lot):Bool:=!(p.any fun x=>x.1 != (p.getD 0 XZ).1)&&decide ((FC p).2≤tl)
def DM (l:List Lot) (tl:Int) (S:List Int):Bool:=E2 tl (XT l S)
theorem Q54 {n:Nat}(h0:0<n) (h1:n<2 ^ 64):n.testBit (tzN n)=true:=by
 obtain⟨_,m,hm⟩:=Ns h0 h1;generalize tzN n=t at *
 rw[hm,Nat.testBit_two_pow_mul];simp
theorem BO:∀ f n,n≤f→n<2 ^ 64→∀ i:Int,i∈Ry f n↔∃ k:Nat,i=k∧n.testBit k=true
 |0,n,h1,_,i=>by
  have:n=0:=by omega
  subst this;simp[Ry]
 |f+1,n,h1,h2,i=>by
  unfold Ry;by_cases h:n=0
  ·subst h;simp
  ·rw[if_neg h,List.mem_cons];have hle:=Nat.and_le_right (n:=n) (m:=n-1);rw[BO f _ (by omega) (by omega)];constructor
   ·rintro (e|⟨k,e,hb⟩)
    ·exact⟨tzN n,e,Q54 (by omega) h2⟩
    ·rw[Ga (by omega) h2] at hb;exact⟨k,e,by simp at hb;exact hb.1⟩
   ·rintro⟨k,e,hb⟩;by_cases hk:k=tzN n
    ·exact .inl (by rw[e,hk])
    ·exact .inr ⟨k,e,by rw[Ga (by omega) h2,hb,decide_eq_false hk];rfl⟩
theorem AK {n:Nat}(h:n<2 ^ 64) (i:Int):i∈Qo n↔∃ k:Nat,i=k∧n.testBit k=true:=BO n n (Nat.le_refl _) h i
theorem E5:∀ f n,(Ry f n).length≤f
 |0,_=>by simp[Ry]
 |f+1,n=>by
  unfold Ry;split
  ·simp
  ·simp only[List.length_cons];have:=E5 f (n &&& (n-1));omega
theorem Ai (n:Nat):(Qo n).length≤n:=E5 n n
theorem Hv {n m:Nat}(h:n<2 ^ m) (hm:m≤64):∀ i∈Qo n,0≤i∧i<(m:Int):=fun i hi=>by
 have hp:2 ^ m≤2 ^ 64:=Nat.pow_le_pow_right (by omega) hm;obtain⟨k,rfl,hb⟩:=(AK (by omega) i).1 hi;have:k<m:=by
  rcases Nat.lt_or_ge k m with h2|h2
  ·exact h2
  ·rw[Nat.testBit_lt_two_pow (Nat.lt_of_lt_of_le h (Nat.pow_le_pow_right (by omega) h2))] at hb;cases hb
 omega
theorem CX {n:Nat}(h:0<n):Qo n≠[]:=by rw[Ca h];simp
theorem Dy {l:List Lot}{S:List Int}{k:Nat}(h:k<S.length):XR l (S.take (k+1))=XR l (S.take k)+(l.getD (S.getD k 0).toNat XZ).2.2:=by unfold XR;rw[Z0 h,List.foldl_append,Q8 h];rfl
theorem RF:∀ f n,n≤f→n<2 ^ 64→(Ry f n).Nodup
 |0,n,_,_=>by simp[Ry]
 |f+1,n,h1,h2=>by
  unfold Ry;by_cases h:n=0
  ·rw[if_pos h];exact List.nodup_nil
  ·rw[if_neg h,List.nodup_cons];have hle:=Nat.and_le_right (n:=n) (m:=n-1);refine⟨fun hm=>?_,RF f _ (by omega) (by omega)⟩;obtain⟨k,e,hb⟩:=(BO f _ (by omega) (by omega) _).1 hm;rw[Ga (by omega) h2] at hb;have:k=tzN n:=by omega
   rw[decide_eq_true this] at hb;simp at hb
theorem Rh:∀ {l m:List Int},l.Nodup→(∀ x∈l,x∈m)→l.length≤m.length
 |[],_,_,_=>Nat.zero_le _
 |x::l,m,hn,hs=>by have hn:=List.nodup_cons.1 hn;have hx:=hs x (List.mem_cons_self ..);have:=Rh (l:=l) (m:=m.erase x) hn.2 fun y hy=>(List.mem_erase_of_ne (by rintro rfl;exact hn.1 hy)).2 (hs y (List.mem_cons_of_mem _ hy));rw[List.length_erase_of_mem hx] at this;have:0<m.length:=List.length_pos_of_mem hx;simp only[List.length_cons];omega
theorem DD {n m:Nat}(h:n<2 ^ m) (hm:m≤64):(Qo n).length≤m:=by
 have hp:2 ^ m≤2 ^ 64:=Nat.pow_le_pow_right (by omega) hm;have:=Rh (m:=(List.range m).map fun (k:Nat)=>(k:Int)) (RF n n (Nat.le_refl _) (by omega)) fun x hx=>by obtain⟨h1,h2⟩:=Hv h hm x hx;simp only[List.mem_map,List.mem_range];exact⟨x.toNat,by omega,by omega⟩
 simpa [Qo] using this
def TV (a b:Int):Int:=if a<b then -1 else if b<a then 1 else 0
def orI (l:List Int):Int:=(l.find? fun x=>x != 0).getD 0
def A6:List Int→List Int→Int
 |[],[]=>0
 |[],_::_=>-1
 |_::_,[]=>1
 |x::a,y::b=>if TV x y≠0 then TV x y else A6 a b
theorem Cj {a b:Int}:TV a b=0↔a=b:=by unfold TV;split<;>(try split)<;>omega
theorem Ck {a b:List Int}:∀ k,k≤a.length→k≤b.length→(∀ j,j<k→a.getD j 0=b.getD j 0)→A6 a b=A6 (a.drop k) (b.drop k)
 |0,_,_,_=>by simp
 |k+1,h1,h2,h=>by rw[Ck k (by omega) (by omega) fun j hj=>h j (by omega)];have e:=h k (by omega);rw[Q8 (by omega),Q8 (by omega)] at e;rw[List.drop_eq_getElem_cons (show k<a.length by omega),List.drop_eq_getElem_cons (show k<b.length by omega),A6,if_neg (by rw[Cj.2 e];decide)]
def Mx (l:List Lot) (tl nc ng:Int) (s:Nat):Bool:=((l.getD ((Qo s).getD 0 0).toNat XZ).1==nc)&&decide (ng≤XR l (Qo s))&&DM l tl (Qo s)
def Q2a (a b:List Int):Bool:=decide (orI [TV a.length b.length,A6 a b]<0)
def QB (l:List Lot) (tl nc ng:Int):Nat→List Int
 |0=>[]
 |s+1=>if s=0 then [] else if Mx l tl nc ng s&&((QB l tl nc ng s).isEmpty||Q2a (Qo s) (QB l tl nc ng s)) then Qo s else QB l tl nc ng s
def Jo (l:List Lot) (tl nc ng:Int):Int:=if Z6 l tl≠0 then Z6 l tl else if !Wz nc ng then 2 else if (QB l tl nc ng (2 ^ l.length)).isEmpty then 7 else 0
def YX (l:List Lot) (tl nc ng:Int):List Int:=if Z6 l tl≠0∨Wz nc ng=false then [] else QB l tl nc ng (2 ^ l.length)
theorem Ha {l:List Lot}{tl nc ng:Int}(hl:l.length≤64):∀ s,s≤2 ^ l.length→(QB l tl nc ng s).length≤l.length
 |0,_=>by simp[QB]
 |s+1,h=>by
  unfold QB;split
  ·simp
  ·split
   ·exact DD (by omega) hl
   ·exact Ha hl s (by omega)
theorem Ib (l:List Lot) (tl nc ng:Int) (s:Nat):((((l.getD ((Qo s).getD 0 0).toNat XZ).1 != nc)||decide (XR l (Qo s)<ng))||!DM l tl (Qo s))=!Mx l tl nc ng s:=by
 unfold Mx;rw[Bool.eq_iff_iff];simp only[Bool.or_eq_true,bne_iff_ne,decide_eq_true_eq,Bool.not_eq_true',Bool.and_eq_false_iff,beq_eq_false_iff_ne,decide_eq_false_iff_not,ne_eq];constructor
 ·rintro ((h|h)|h)
  ·exact .inl (.inl h)
  ·exact .inl (.inr (by omega))
  ·exact .inr h
 ·rintro ((h|h)|h)
  ·exact .inl (.inl h)
  ·exact .inl (.inr (by omega))
  ·exact .inr h
def Yj:AL (Int):=(.one (.k (.i .u32)))
def WN (d:Int):Prop:=False
def WK (d:Int):SV:=.val (.i .i64) ((tzN d.toNat:Nat):Int)
def WM (d:Int):List OB:=[]
def Jw:CSp:=Xv Yj WN WK WM
abbrev Ya:Prop:=OkC Tryz.prog 82 Jw
theorem Y9:Ya:=Iu fun _ h=>h
def JR:AL (Int):=(.one (.k (.i .u64)))
def YD (d:Int):Prop:=0≤d∧d≤18446744073709551615
def Jy (d:Int):SV:=.val (.i .i64) ((tzN d.toNat:Nat):Int)
def JB (d:Int):List OB:=[]
def Z3:CSp:=Xv JR YD Jy JB
def Z2 (x:Int):Prop :=
 (false=true →
  (InK .u32 x)∧(False)∧(((tzN x.toNat:Nat):Int)=((tzN x.toNat:Nat):Int)∧(True))) ∧
 (false=false →
  (0≤x∧x≤18446744073709551615)∧(((tzN x.toNat:Nat):Int)=((tzN x.toNat:Nat):Int)∧(True)))
def JQ:Cx:=⟨[],[(82,Jw),(83,Jx)],8,[],0,[],[],[],[],false,[],[],[],[]⟩
def YW (x:Int):List (Nat×LoopAnn):=[]
set_option maxRecDepth 100000 in
theorem YZ (d:Int):gwp (JQ) (YW d) c49 0 (Ws [.tmp 2] (Jy d) (JB d)) (Qk 8 (AL.can JR d))=Z2 d:=by kernel_rfl
abbrev K1:Prop:=OkC Tryz.prog 49 Z3
theorem YY (h:∀ (x:Int),(0≤x∧x≤18446744073709551615)→Z2 x):OkC Tryz.prog 49 Z3 :=
 QC Q6j mixed (C:=JQ) (V:=fun (d:Int)=>Z2 d) ⟨(.cons Y9 (.cons Y6 .nil)),XsOk.nil,ItsOk.nil,YlOk.nil,IysOk.nil,XfOk.nil⟩ (YZ) fun d hp=>h d hp
theorem JP:K1:=YY fun x h=>by unfold Z2;(try delta lI gD sT I64);refine⟨(fun h=>by cases h),fun _=>⟨h,?_⟩⟩;and_intros<;>first|rfl|trivial
def VS:AL (Int):=(.one (.k (.i .u64)))
def De (d:Int):Prop:=0≤d∧d≤1048576
def KW (d:Int):SV:=.lst 0
def KP (d:Int):List OB:=[.lst 3 (.i .i64) (Qo d.toNat) ((Qo d.toNat).isEmpty)]
def JC:CSp:=Xv VS De KW KP
def Xb (x:Int):Prop :=
 ∃ (e3:Unit) (d30:Int×(List Int)),((x=d30.1∧True∧True)∧((d30.2=[]∧(List.isEmpty d30.2)=true)∧True)) ∧
 LoopP (fun (d3:Int×(List Int)) (q3:(Int×(List Int))→Prop) =>
  ((d3.1 != (0:Int))=true →
   (0≤d3.1∧d3.1≤18446744073709551615)∧(((List.length d3.2)+(List.length [((tzN d3.1.toNat:Nat):Int)]))*8≤70368744177664)∧(InK .u64 (d3.1-(1:Int)))∧(∃ d4:Int×(List Int),(((Q1 .and .u64 d3.1 (d3.1-(1:Int)))=d4.1∧True∧True)∧(((d3.2++[((tzN d3.1.toNat:Nat):Int)])=d4.2∧false=(List.isEmpty d4.2))∧True))∧q3 d4)) ∧
  ((d3.1 != (0:Int))=false →
   (True∧((d3.2=(Qo x.toNat)∧(List.isEmpty d3.2)=(Qo x.toNat).isEmpty)∧True)))) d30
def VY:Cx:=⟨[(3,(.i .i64))],[(49,Z3)],15,[],0,[],[],[],[],false,[],[],[],[]⟩
def BK (x:Int):List (Nat×LoopAnn):=[(0,⟨Unit,Int×(List Int),[0,2],fun e x=>[.val (.i .u64) x.1,.lst 13],fun e x=>[(13,.slot 2,.lst 3 (.i .i64) x.2 (List.isEmpty x.2))]⟩)]
set_option maxRecDepth 100000 in
theorem Bv (d:Int):gwp (VY) (BK d) c87 0 (Ws [.tmp 2] (KW d) (KP d)) (Qk 15 (AL.can VS d))=Xb d:=by kernel_rfl
abbrev Bl:Prop:=OkC Tryz.prog 87 JC
theorem BA (h:∀ (x:Int),(0≤x∧x≤1048576)→Xb x):OkC Tryz.prog 87 JC :=
 QC Q71 mixed (C:=VY) (V:=fun (d:Int)=>Xb d) ⟨(.cons JP .nil),XsOk.nil,ItsOk.nil,YlOk.nil,IysOk.nil,XfOk.nil⟩ (Bv) fun d hp=>h d hp
theorem WT:Bl:=BA fun x h=>by
 obtain⟨h1,h2⟩:=h;unfold Xb;(try delta lI gD sT I64);obtain⟨n,rfl⟩:=Int.eq_ofNat_of_zero_le h1;rw[Int.toNat_natCast];have eJ:=Ai n;refine⟨(),((n:Int),[]),(by and_intros<;>first|rfl|trivial|simp),?_⟩;refine⟨fun d=>∃ s:Nat,d.1=s∧s≤n∧d.2++Qo s=Qo n,fun d=>d.1.toNat,⟨n,rfl,Nat.le_refl _,rfl⟩,?_⟩;rintro⟨_,L⟩ ⟨s,rfl,i1,i2⟩;dsimp only at i2 ⊢;simp only[bne_iff_ne,bne_eq_false_iff_eq,ne_eq,Int.toNat_natCast];refine⟨fun h0=>?_,fun h0=>?_⟩
 ·have hs:0<s:=by omega
  have e1:(s:Int)-1=((s-1:Nat):Int):=by omega
  have bq:=Ca hs;have ve:L.length+1≤n:=by have:=congrArg List.length i2;rw[bq,List.length_append,List.length_cons] at this;omega
  have hle:=Nat.and_le_right (n:=s) (m:=s-1);refine⟨⟨by omega,by omega⟩,by simp only[List.length_cons,List.length_nil];omega,by rw[MF];omega,(((s &&& (s-1):Nat):Int),L++[((tzN s:Nat):Int)]),?_,⟨s &&& (s-1),rfl,by omega,?_⟩,?_⟩
  ·rw[e1,E0 (by omega) (by omega)];have:(L++[((tzN s:Nat):Int)]).isEmpty=false:=by simp
   and_intros<;>first|rfl|trivial|exact this.symm
  ·dsimp only;rw[←i2,bq,List.append_assoc];rfl
  ·dsimp only;omega
 ·have:s=0:=by omega
  subst this;rw[Ie,List.append_nil] at i2;subst i2;and_intros<;>first|rfl|trivial
def Ut:AL (Int×Int):=(.one (.agg (.cons (.k (.i .i64)) (.one (.k (.i .i64))))))
def Be (d:Int×Int):Prop:=True
def V_ (d:Int×Int):SV:=.val .bo (Wz d.1 d.2)
def VI (d:Int×Int):List OB:=[]
def Wg:CSp:=Xv Ut Be V_ VI
def XG (nc:Int) (ng:Int):Prop :=
 ([nc].length≤1000000)∧((!([nc].any fun n=>decide (n<(0:Int))||decide ((9:Int)<n)))=true→True)∧((!([nc].any fun n=>decide (n<(0:Int))||decide ((9:Int)<n)))=true→[ng].length≤1000000)∧(((!([nc].any fun n=>decide (n<(0:Int))||decide ((9:Int)<n)))&&(!([ng].any fun n=>decide (n<(1:Int))||decide ((12000000:Int)<n))))=(Wz nc ng)∧(True))
def UT:Cx:=⟨[(3,(.i .i64))],[(58,Zf)],13,[],0,[],[],[],[],false,[],[],[],[]⟩
def BY (nc:Int) (ng:Int):List (Nat×LoopAnn):=[]
set_option maxRecDepth 100000 in
theorem HM (d:Int×Int):gwp (UT) (BY d.1 d.2) c52 0 (Ws [.tmp 2] (V_ d) (VI d)) (Qk 13 (AL.can Ut d))=XG d.1 d.2:=by kernel_rfl
abbrev H6:Prop:=OkC Tryz.prog 52 Wg
theorem T0 (h:∀ (nc:Int) (ng:Int),(True)→XG nc ng):OkC Tryz.prog 52 Wg :=
 QC Q5m mixed (C:=UT) (V:=fun (d:Int×Int)=>XG d.1 d.2) ⟨(.cons J6 .nil),XsOk.nil,ItsOk.nil,YlOk.nil,IysOk.nil,XfOk.nil⟩ (HM) fun d hp=>h d.1 d.2 hp
theorem US:H6:=T0 fun nc ng _=>by unfold XG;(try delta lI gD sT I64);have e:∀ n a b:Int,(decide (n<a)||decide (b<n))=!inI n a b:=fun n a b=>(nIb n a b).symm;simp only[List.any_cons,List.any_nil,Bool.or_false,e,Bool.not_not,List.length_cons,List.length_nil];refine⟨by omega,fun _=>trivial,fun _=>by omega,?_⟩;and_intros<;>first|rfl|trivial
def Y1:AL (((List (Int×(Int×Int)×Int))×Int)×Int):=(.cons (.agg (.cons (.k (.list (.pair (.i .i64) (.pair (.pair (.i .i64) (.i .i64)) (.i .i64))))) (.one (.k (.i .i64))))) (.one (.k (.i .u64))))
def U_ (d:((List (Int×(Int×Int)×Int))×Int)×Int):Prop:=d.1.1.length≤12∧(∀ y∈d.1.1,X6 y=true)∧0≤d.2∧d.2<2 ^ d.1.1.length
def Wp (d:((List (Int×(Int×Int)×Int))×Int)×Int):SV:=.val (.i .i64) (XR d.1.1 (Qo d.2.toNat))
def Wo (d:((List (Int×(Int×Int)×Int))×Int)×Int):List OB:=[]
def Xf:CSp:=Xv Y1 U_ Wp Wo
def ZU (l:List (Int×(Int×Int)×Int)) (tl:Int) (sx:Int):Prop :=
 (0≤sx∧sx≤1048576)∧∃ (e3:Unit) (d30:Int×Int),((True∧(0:Int)=d30.1∧True∧(lI (Qo sx.toNat))=(lI (Qo sx.toNat))∧(0:Int)=d30.2∧True)∧((l=l∧tl=tl∧(([]:List SV)=[]))∧((Qo sx.toNat)=(Qo sx.toNat)∧(Qo sx.toNat).isEmpty=(List.isEmpty (Qo sx.toNat)))∧True)) ∧
 LoopP (fun (d3:Int×Int) (q3:(Int×Int)→Prop) =>
  ((decide (d3.2<(lI (Qo sx.toNat))))=true →
   (0≤d3.2)∧(d3.2<(List.length (Qo sx.toNat)))∧(0≤(gD (Qo sx.toNat) d3.2 0))∧((gD (Qo sx.toNat) d3.2 0)<(List.length l))∧(I64 (d3.1+(gD l (gD (Qo sx.toNat) d3.2 0) (0,((0,0),0))).2.2))∧(I64 (d3.2+(1:Int)))∧(∃ d4:Int×Int,((True∧(d3.1+(gD l (gD (Qo sx.toNat) d3.2 0) (0,((0,0),0))).2.2)=d4.1∧True∧(lI (Qo sx.toNat))=(lI (Qo sx.toNat))∧(d3.2+(1:Int))=d4.2∧True)∧((l=l∧tl=tl∧(([]:List SV)=[]))∧((Qo sx.toNat)=(Qo sx.toNat)∧(List.isEmpty (Qo sx.toNat))=(List.isEmpty (Qo sx.toNat)))∧True))∧q3 d4)) ∧
  ((decide (d3.2<(lI (Qo sx.toNat))))=false →
   (d3.1=(XR l (Qo sx.toNat))∧(True)))) d30
def Y2:Cx:=⟨[],[(87,JC)],24,[],0,[],[],[],[],false,[],[],[],[]⟩
def NO (l:List (Int×(Int×Int)×Int)) (tl:Int) (sx:Int):List (Nat×LoopAnn):=[(0,⟨Unit,Int×Int,[2,4,8,9,10],fun e x=>[.box 2 0,.val (.i .i64) x.1,.lst 8,.val (.i .i64) (((List.length (Qo sx.toNat)):Nat):Int),.val (.i .i64) x.2],fun e x=>[(2,.slot 2,.cells [.val (.list (.pair (.i .i64) (.pair (.pair (.i .i64) (.i .i64)) (.i .i64)))) l,.val (.i .i64) tl] (some 113)),(8,.slot 8,.lst 3 (.i .i64) (Qo sx.toNat) (List.isEmpty (Qo sx.toNat)))]⟩)]
set_option maxRecDepth 100000 in
theorem NJ (d:((List (Int×(Int×Int)×Int))×Int)×Int):gwp (Y2) (NO d.1.1 d.1.2 d.2) c88 0 (Ws [.tmp 4] (Wp d) (Wo d)) (Qk 24 (AL.can Y1 d))=ZU d.1.1 d.1.2 d.2:=by kernel_rfl
abbrev NN:Prop:=OkC Tryz.prog 88 Xf
theorem NI (h:∀ (l:List (Int×(Int×Int)×Int)) (tl:Int) (sx:Int),(l.length≤12∧(∀ y∈l,X6 y=true)∧0≤sx∧sx<2 ^ l.length)→ZU l tl sx):OkC Tryz.prog 88 Xf :=
 QC Q6h mixed (C:=Y2) (V:=fun (d:((List (Int×(Int×Int)×Int))×Int)×Int)=>ZU d.1.1 d.1.2 d.2) ⟨(.cons WT .nil),XsOk.nil,ItsOk.nil,YlOk.nil,IysOk.nil,XfOk.nil⟩ (NJ) fun d hp=>h d.1.1 d.1.2 d.2 hp
theorem NQ:NN:=NI fun l tl sx h=>by
 obtain⟨h1,h2,h3,h4⟩:=h;obtain⟨n,rfl⟩:=Int.eq_ofNat_of_zero_le h3;have hp:(2:Int) ^ l.length=((2 ^ l.length:Nat):Int):=by simp
 have dG:2 ^ l.length≤2 ^ 12:=Nat.pow_le_pow_right (by omega) h1;have jT:(2:Nat) ^ 12=4096:=rfl;rw[hp] at h4;have hn:n<2 ^ l.length:=by omega
 unfold ZU;(try delta lI gD sT I64);rw[Int.toNat_natCast];have ah:=Hv hn (by omega);have eJ:=Ai n;generalize Qo n=S at *
 simp only[decide_eq_true_eq,decide_eq_false_iff_not];refine⟨⟨by omega,by omega⟩,(),(0,0),(by and_intros<;>first|rfl|trivial|simp),?_⟩;refine LoopP.count2 S.length (fun k a=>a=XR l (S.take k)∧0≤a∧a≤1000000*(k:Int)) ⟨rfl,by omega,by omega⟩ fun k a hk hJ q hq=>?_;obtain⟨rfl,j2,j3⟩:=hJ;dsimp only;have hd:∀ j,l.getD j (0,((0,0),0))=l.getD j XZ:=fun _=>rfl;simp only[Int.toNat_natCast,hd];refine⟨fun fI=>?_,fun a9=>?_⟩
 ·have ic:k<S.length:=by omega
  have hm:=ah _ (by rw[Q8 ic];exact List.getElem_mem ic:S.getD k 0∈S);have hj:(S.getD k 0).toNat<l.length:=by omega
  have hg:=GQ.1 (h2 _ (List.getElem_mem hj));have we:1≤(l.getD (S.getD k 0).toNat XZ).2.2∧(l.getD (S.getD k 0).toNat XZ).2.2≤1000000:=by rw[Q8 hj];omega
  have hs:=Dy (l:=l) ic;refine⟨by omega,fI,hm.1,hm.2,by rw[Z1];omega,by rw[Z1];omega,(XR l (S.take k)+(l.getD (S.getD k 0).toNat XZ).2.2,(k:Int)+1),(by and_intros<;>first|rfl|trivial|simp),hq _ ic ⟨hs.symm,by omega,by omega⟩⟩
 ·have:k=S.length:=by omega
  subst this;rw[List.take_length];and_intros<;>first|rfl|trivial
end Go.Proofs.Tryz
set_option linter.unusedVariables false
namespace Go.Proofs.Tryz
open Go Go.V Go.Proofs
def XU:AL ((Int×Int×Int×Int)×List (Int×(Int×Int)×Int)):=(.cons (.agg (.cons (.k (.i .i64)) (.cons (.k (.i .i64)) (.cons (.k (.i .i64)) (.one (.k (.i .i64))))))) (.one (.ptr (.one (.k (.list (.pair (.i .i64) (.pair (.pair (.i .i64) (.i .i64)) (.i .i64)))))))))
def VE (d:(Int×Int×Int×Int)×List (Int×(Int×Int)×Int)):Prop:=d.2≠[]
def XD (d:(Int×Int×Int×Int)×List (Int×(Int×Int)×Int)):SV:=.val .bo (d.1.1 != (d.2.getD 0 XZ).1)
def XS (d:(Int×Int×Int×Int)×List (Int×(Int×Int)×Int)):List OB:=[]
def JE:CSp:=Xv XU VE XD XS
def Zq (lc:Int) (lo:Int) (hi:Int) (lg:Int) (l:List (Int×(Int×Int)×Int)):Prop :=
 (0≤(0:Int))∧((0:Int)<(List.length l))∧((lc != (gD l (0:Int) (0,((0,0),0))).1)=(lc != (l.getD 0 XZ).1)∧(True))
def W1:Cx:=⟨[],[],11,[],0,[],[],[],[],false,[],[],[],[]⟩
def Ua (lc:Int) (lo:Int) (hi:Int) (lg:Int) (l:List (Int×(Int×Int)×Int)):List (Nat×LoopAnn):=[]
set_option maxRecDepth 100000 in
theorem U6 (d:(Int×Int×Int×Int)×List (Int×(Int×Int)×Int)):gwp (W1) (Ua d.1.1 d.1.2.1 d.1.2.2.1 d.1.2.2.2 d.2) Q90 0 (Ws [.tmp 3] (XD d) (XS d)) (Qk 11 (AL.can XU d))=Zq d.1.1 d.1.2.1 d.1.2.2.1 d.1.2.2.2 d.2:=by kernel_rfl
abbrev Ud:Prop:=OkC Tryz.prog 118 JE
theorem Ug (h:∀ (lc:Int) (lo:Int) (hi:Int) (lg:Int) (l:List (Int×(Int×Int)×Int)),(l≠[])→Zq lc lo hi lg l):OkC Tryz.prog 118 JE :=
 QC Q1b mixed (C:=W1) (V:=fun (d:(Int×Int×Int×Int)×List (Int×(Int×Int)×Int))=>Zq d.1.1 d.1.2.1 d.1.2.2.1 d.1.2.2.2 d.2) ⟨.nil,XsOk.nil,ItsOk.nil,YlOk.nil,IysOk.nil,XfOk.nil⟩ (U6) fun d hp=>h d.1.1 d.1.2.1 d.1.2.2.1 d.1.2.2.2 d.2 hp
theorem U8:Ud:=Ug fun lc lo hi lg l h=>by unfold Zq;(try delta lI gD sT I64);have hp:0<l.length:=List.length_pos_iff.2 h;refine⟨by omega,by omega,?_⟩;and_intros<;>first|rfl|trivial
def Y4:AL (((List (Int×(Int×Int)×Int))×Int)×Int):=(.cons (.agg (.cons (.k (.list (.pair (.i .i64) (.pair (.pair (.i .i64) (.i .i64)) (.i .i64))))) (.one (.k (.i .i64))))) (.one (.k (.i .u64))))
def UL (d:((List (Int×(Int×Int)×Int))×Int)×Int):Prop:=d.1.1.length≤12∧(∀ y∈d.1.1,X6 y=true)∧0<d.2∧d.2<2 ^ d.1.1.length
def WE (d:((List (Int×(Int×Int)×Int))×Int)×Int):SV:=.val .bo (DM d.1.1 d.1.2 (Qo d.2.toNat))
def WC (d:((List (Int×(Int×Int)×Int))×Int)×Int):List OB:=[]
def Xj:CSp:=Xv Y4 UL WE WC
def ZS (l:List (Int×(Int×Int)×Int)) (tl:Int) (sx:Int):Prop :=
 (0≤sx∧sx≤1048576)∧∃ (e4:Unit) (d40:(List (Int×(Int×Int)×Int))×Int),((True∧True∧True∧(lI (Qo sx.toNat))=(lI (Qo sx.toNat))∧(0:Int)=d40.2∧True)∧((l=l∧tl=tl∧(([]:List SV)=[]))∧(True∧(([]:List SV)=[]))∧(d40.1=[]∧(List.isEmpty d40.1)=true)∧((Qo sx.toNat)=(Qo sx.toNat)∧(Qo sx.toNat).isEmpty=(List.isEmpty (Qo sx.toNat)))∧True)) ∧
 LoopP (fun (d4:(List (Int×(Int×Int)×Int))×Int) (q4:((List (Int×(Int×Int)×Int))×Int)→Prop) =>
  ((decide (d4.2<(lI (Qo sx.toNat))))=true →
   (0≤d4.2)∧(d4.2<(List.length (Qo sx.toNat)))∧(0≤(gD (Qo sx.toNat) d4.2 0))∧((gD (Qo sx.toNat) d4.2 0)<(List.length l))∧(((List.length d4.1)+(List.length [((gD l (gD (Qo sx.toNat) d4.2 0) (0,((0,0),0))).1,(((gD l (gD (Qo sx.toNat) d4.2 0) (0,((0,0),0))).2.1.1,(gD l (gD (Qo sx.toNat) d4.2 0) (0,((0,0),0))).2.1.2),(gD l (gD (Qo sx.toNat) d4.2 0) (0,((0,0),0))).2.2))]))*32≤70368744177664)∧(I64 (d4.2+(1:Int)))∧(∃ d5:(List (Int×(Int×Int)×Int))×Int,((True∧True∧True∧(lI (Qo sx.toNat))=(lI (Qo sx.toNat))∧(d4.2+(1:Int))=d5.2∧True)∧((l=l∧tl=tl∧(([]:List SV)=[]))∧(True∧(([]:List SV)=[]))∧((d4.1++[((gD l (gD (Qo sx.toNat) d4.2 0) (0,((0,0),0))).1,(((gD l (gD (Qo sx.toNat) d4.2 0) (0,((0,0),0))).2.1.1,(gD l (gD (Qo sx.toNat) d4.2 0) (0,((0,0),0))).2.1.2),(gD l (gD (Qo sx.toNat) d4.2 0) (0,((0,0),0))).2.2))])=d5.1∧false=(List.isEmpty d5.1))∧((Qo sx.toNat)=(Qo sx.toNat)∧(List.isEmpty (Qo sx.toNat))=(List.isEmpty (Qo sx.toNat)))∧True))∧q4 d5)) ∧
  ((decide (d4.2<(lI (Qo sx.toNat))))=false →
   (d4.1.length≤1000000∧∀ x∈d4.1,(fun (x1:Int×(Int×Int)×Int)=>d4.1≠[]) x)∧((!(d4.1.any (fun (x1:Int×(Int×Int)×Int)=>(x1.1 != (d4.1.getD 0 XZ).1))))=true→d4.1≠[]∧d4.1.length≤1000∧∀ x∈d4.1,X6 x=true)∧(((!(d4.1.any (fun (x1:Int×(Int×Int)×Int)=>(x1.1 != (d4.1.getD 0 XZ).1))))&&(decide (((FC d4.1).2)≤tl)))=(DM l tl (Qo sx.toNat))∧(True)))) d40
def WY:Cx:=⟨[(64,(.pair (.i .i64) (.pair (.pair (.i .i64) (.i .i64)) (.i .i64))))],[(87,JC),(94,Qc),(118,JE),(59,Wk)],38,[],0,[],[],[],[],false,[],[],[],[]⟩
def NU (l:List (Int×(Int×Int)×Int)) (tl:Int) (sx:Int):List (Nat×LoopAnn):=[(0,⟨Unit,(List (Int×(Int×Int)×Int))×Int,[2,5,10,11,12],fun e x=>[.box 2 0,.box 5 0,.lst 10,.val (.i .i64) (((List.length (Qo sx.toNat)):Nat):Int),.val (.i .i64) x.2],fun e x=>[(2,.slot 2,.cells [.val (.list (.pair (.i .i64) (.pair (.pair (.i .i64) (.i .i64)) (.i .i64)))) l,.val (.i .i64) tl] (some 113)),(5,.slot 5,.cells [.lst 23] (some 26)),(23,.cell 5 0,.lst 64 (.pair (.i .i64) (.pair (.pair (.i .i64) (.i .i64)) (.i .i64))) x.1 (List.isEmpty x.1)),(10,.slot 10,.lst 3 (.i .i64) (Qo sx.toNat) (List.isEmpty (Qo sx.toNat)))]⟩)]
set_option maxRecDepth 100000 in
theorem NK (d:((List (Int×(Int×Int)×Int))×Int)×Int):gwp (WY) (NU d.1.1 d.1.2 d.2) c89 0 (Ws [.tmp 4] (WE d) (WC d)) (Qk 38 (AL.can Y4 d))=ZS d.1.1 d.1.2 d.2:=by kernel_rfl
abbrev NM:Prop:=OkC Tryz.prog 89 Xj
theorem NL (h:∀ (l:List (Int×(Int×Int)×Int)) (tl:Int) (sx:Int),(l.length≤12∧(∀ y∈l,X6 y=true)∧0<sx∧sx<2 ^ l.length)→ZS l tl sx):OkC Tryz.prog 89 Xj :=
 QC Q5z mixed (C:=WY) (V:=fun (d:((List (Int×(Int×Int)×Int))×Int)×Int)=>ZS d.1.1 d.1.2 d.2) ⟨(.cons WT (.cons QI (.cons U8 (.cons UG .nil)))),XsOk.nil,ItsOk.nil,YlOk.nil,IysOk.nil,XfOk.nil⟩ (NK) fun d hp=>h d.1.1 d.1.2 d.2 hp
end Go.Proofs.Tryz
set_option linter.unusedVariables false
namespace Go.Proofs.Tryz
open Go Go.V Go.Proofs
theorem NX:NM:=NL fun l tl sx h=>by
 obtain⟨h1,h2,h3,h4⟩:=h;obtain⟨n,rfl⟩:=Int.eq_ofNat_of_zero_le (show 0≤sx by omega);have hp:(2:Int) ^ l.length=((2 ^ l.length:Nat):Int):=by simp
 have dG:2 ^ l.length≤2 ^ 12:=Nat.pow_le_pow_right (by omega) h1;have jT:(2:Nat) ^ 12=4096:=rfl;rw[hp] at h4;have hn:n<2 ^ l.length:=by omega
 unfold ZS;(try delta lI gD sT I64);rw[Int.toNat_natCast];have ah:=Hv hn (by omega);have eJ:=DD hn (by omega);have aC:=CX (show 0<n by omega);generalize Qo n=S at *
 have jg:XT l S≠[]:=by simpa [XT] using aC
 have qF:=Aj h2 ah;have aQ:∀ k,(XT l (S.take k)).length=min k S.length:=fun k=>by simp[XT]
 simp only[decide_eq_true_eq,decide_eq_false_iff_not];refine⟨⟨by omega,by omega⟩,(),([],0),(by and_intros<;>first|rfl|trivial|simp),?_⟩;refine LoopP.count2 S.length (fun k L=>L=XT l (S.take k)) rfl fun k L hk hJ q hq=>?_;subst hJ;dsimp only;have hd:∀ j,l.getD j (0,((0,0),0))=l.getD j XZ:=fun _=>rfl;simp only[Int.toNat_natCast,hd];refine⟨fun fI=>?_,fun a9=>?_⟩
 ·have ic:k<S.length:=by omega
  have hm:=ah _ (by rw[Q8 ic];exact List.getElem_mem ic:S.getD k 0∈S);refine⟨by omega,fI,hm.1,hm.2,by simp only[aQ,List.length_cons,List.length_nil];omega,by rw[Z1];omega,(XT l (S.take (k+1)),(k:Int)+1),?_,hq _ ic rfl⟩;rw[RH ic];have:((XT l (S.take k)++[l.getD (S.getD k 0).toNat XZ]).isEmpty)=false:=by simp
  and_intros<;>first|rfl|trivial|exact this.symm
 ·have:k=S.length:=by omega
  subst this;have aT:=aQ S.length;rw[List.take_length] at *
  refine⟨⟨by omega,fun _ _=>jg⟩,fun _=>⟨jg,by omega,qF⟩,?_⟩;and_intros<;>first|rfl|trivial
end Go.Proofs.Tryz
set_option linter.unusedVariables false
namespace Go.Proofs.Tryz
open Go Go.V Go.Proofs
def VL:AL (Int):=(.one (.k (.i .i64)))
def D1 (d:Int):Prop:=True
def Vd (d:Int):SV:=.val .bo false
def V0 (d:Int):List OB:=[]
def Yr:CSp:=Xv VL D1 Vd V0
def X9 (a:Int):Prop :=
 ((a != a)=false∧(True))
def VJ:Cx:=⟨[],[],6,[],0,[],[],[],[],false,[],[],[],[]⟩
def Bm (a:Int):List (Nat×LoopAnn):=[]
set_option maxRecDepth 100000 in
theorem Bx (d:Int):gwp (VJ) (Bm d) Q8q 0 (Ws [.tmp 2] (Vd d) (V0 d)) (Qk 6 (AL.can VL d))=X9 d:=by kernel_rfl
abbrev Br:Prop:=OkC Tryz.prog 119 Yr
theorem BD (h:∀ (a:Int),(True)→X9 a):OkC Tryz.prog 119 Yr :=
 QC Q1c mixed (C:=VJ) (V:=fun (d:Int)=>X9 d) ⟨.nil,XsOk.nil,ItsOk.nil,YlOk.nil,IysOk.nil,XfOk.nil⟩ (Bx) fun d hp=>h d hp
theorem BH:Br:=BD fun a _=>by unfold X9;(try delta lI gD sT I64);simp
def K4:AL (Int×Int):=(.cons (.k (.i .i64)) (.one (.k (.i .i64))))
def MM (d:Int×Int):Prop:=True
def YL (d:Int×Int):SV:=.val (.i .i64) (TV d.1 d.2)
def YI (d:Int×Int):List OB:=[]
def JM:CSp:=Xv K4 MM YL YI
def Js (a:Int) (b:Int):Prop :=
 (True)∧(True)∧(false=true →
  (false=true →
   ((0:Int)=(TV a b)∧(True))) ∧
  (false=false →
   ((-1:Int)=(TV a b)∧(True)))) ∧
 (false=false →
  (false=true →
   ((1:Int)=(TV a b)∧(True))) ∧
  (false=false →
   ((decide (a<b))=true →
    ((-1:Int)=(TV a b)∧(True))) ∧
   ((decide (a<b))=false →
    ((decide (a > b))=true →
     ((1:Int)=(TV a b)∧(True))) ∧
    ((decide (a > b))=false →
     ((0:Int)=(TV a b)∧(True))))))
def K2:Cx:=⟨[],[(119,Yr)],20,[],0,[],[],[],[],false,[],[],[],[]⟩
def Gj (a:Int) (b:Int):List (Nat×LoopAnn):=[]
set_option maxRecDepth 100000 in
theorem GU (d:Int×Int):gwp (K2) (Gj d.1 d.2) c91 0 (Ws [.tmp 4] (YL d) (YI d)) (Qk 20 (AL.can K4 d))=Js d.1 d.2:=by kernel_rfl
abbrev Gn:Prop:=OkC Tryz.prog 91 JM
theorem Gv (h:∀ (a:Int) (b:Int),(True)→Js a b):OkC Tryz.prog 91 JM :=
 QC Q7y mixed (C:=K2) (V:=fun (d:Int×Int)=>Js d.1 d.2) ⟨(.cons BH .nil),XsOk.nil,ItsOk.nil,YlOk.nil,IysOk.nil,XfOk.nil⟩ (GU) fun d hp=>h d.1 d.2 hp
theorem Kb:Gn:=Gv fun a b _=>by
 unfold Js;(try delta lI gD sT I64);simp only[decide_eq_true_eq,decide_eq_false_iff_not,true_and,and_true,decide_eq_true_eq,decide_eq_false_iff_not,gt_iff_lt,false_implies,Bool.false_eq_true,forall_const];unfold TV;refine⟨fun h=>?_,fun h=>⟨fun h2=>?_,fun h2=>?_⟩⟩
 ·rw[if_pos h]
 ·rw[if_neg h,if_pos h2]
 ·rw[if_neg h,if_neg h2]
def GW:AL (List Int):=(.one (.k (.list (.i .i64))))
def TA (d:List Int):Prop:=d.length≤1000
def Mh (d:List Int):SV:=.val (.i .i64) (orI d)
def Me (d:List Int):List OB:=[]
def UQ:CSp:=Xv GW TA Mh Me
def Y7 (l:List Int):Prop :=
 ∃ (e2:Unit) (d20:Int),(((0:Int)=(0:Int)∧l=l∧(lI l)=(lI l)∧(0:Int)=d20∧True)∧(True)) ∧
 LoopP (fun (d2:Int) (q2:(Int)→Prop) =>
  ((decide (d2<(lI l)))=true →
   (0≤d2)∧(d2<(List.length l))∧(((gD l d2 0) != (0:Int))=true →
    ((gD l d2 0)=(orI l)∧(True))) ∧
   (((gD l d2 0) != (0:Int))=false →
    (I64 (d2+(1:Int)))∧(∃ d3:Int,(((0:Int)=(0:Int)∧l=l∧(lI l)=(lI l)∧(d2+(1:Int))=d3∧True)∧(True))∧q2 d3))) ∧
  ((decide (d2<(lI l)))=false →
   ((0:Int)=(orI l)∧(True)))) d20
def Ge:Cx:=⟨[],[],18,[],0,[],[],[],[],false,[],[],[],[]⟩
def SD (l:List Int):List (Nat×LoopAnn):=[(0,⟨Unit,Int,[3,6,7,8],fun e x=>[.val (.i .i64) (0:Int),.val (.list (.i .i64)) l,.val (.i .i64) (((List.length l):Nat):Int),.val (.i .i64) x],fun e x=>[]⟩)]
set_option maxRecDepth 100000 in
theorem S2 (d:List Int):gwp (Ge) (SD d) c90 0 (Ws [.tmp 2] (Mh d) (Me d)) (Qk 18 (AL.can GW d))=Y7 d:=by kernel_rfl
abbrev RP:Prop:=OkC Tryz.prog 90 UQ
theorem SW (h:∀ (l:List Int),(l.length≤1000)→Y7 l):OkC Tryz.prog 90 UQ :=
 QC Q73 mixed (C:=Ge) (V:=fun (d:List Int)=>Y7 d) ⟨.nil,XsOk.nil,ItsOk.nil,YlOk.nil,IysOk.nil,XfOk.nil⟩ (S2) fun d hp=>h d hp
theorem L1:RP:=SW fun l h=>by
 unfold Y7;(try delta lI gD sT I64);simp only[decide_eq_true_eq,decide_eq_false_iff_not];refine⟨(),0,(by and_intros<;>first|rfl|trivial|simp),?_⟩;refine LoopP.count l.length (fun k=>∀ j,j<k→l.getD j 0=0) (fun j hj=>by omega) fun k hk hJ q hq=>?_;simp only[Int.toNat_natCast];refine⟨fun ah=>?_,fun a9=>?_⟩
 ·have aM:k<l.length:=by omega
  refine⟨by omega,ah,fun hx=>?_,fun hx=>⟨by rw[Z1];omega,_,(by and_intros<;>first|rfl|trivial|simp),hq aM fun j hj=>?_⟩⟩
  ·have hf:l.find? (fun x=>x != 0)=some l[k]:=by
    rw[List.find?_eq_some_iff_getElem];rw[Q8 aM] at hx;refine⟨hx,k,aM,rfl,fun j hj=>?_⟩;have:=hJ j hj;rw[Q8 (by omega)] at this;simp[this]
   refine⟨?_,trivial⟩;unfold orI;rw[hf,Q8 aM];rfl
  ·rcases Nat.lt_succ_iff_lt_or_eq.1 hj with hj|rfl
   ·exact hJ j hj
   ·simpa using hx
 ·have hf:l.find? (fun x=>x != 0)=none:=by
   rw[List.find?_eq_none];intro x hx;obtain⟨j,hj,rfl⟩:=List.getElem_of_mem hx;have:=hJ j (by omega);rw[Q8 hj] at this;simp[this]
  refine⟨?_,trivial⟩;unfold orI;rw[hf];rfl
def X4:AL (List Int×List Int):=(.cons (.k (.list (.i .i64))) (.one (.k (.list (.i .i64)))))
def K0 (d:List Int×List Int):Prop:=d.1.length≤1000∧d.2.length≤1000
def JO (d:List Int×List Int):SV:=.val (.i .i64) (A6 d.1 d.2)
def JS (d:List Int×List Int):List OB:=[]
def J3:CSp:=Xv X4 K0 JO JS
def Z5 (a:List Int) (b:List Int):Prop :=
 ∃ (e2:Unit) (d20:Int),((a=a∧b=b∧a=a∧(lI a)=(lI a)∧(0:Int)=d20∧True)∧(True)) ∧
 LoopP (fun (d2:Int) (q2:(Int)→Prop) =>
  ((decide (d2<(lI a)))=true →
   (0≤d2)∧(d2<(List.length a))∧((decide (d2≥(lI b)))=true →
    ((1:Int)=(A6 a b)∧(True))) ∧
   ((decide (d2≥(lI b)))=false →
    (0≤d2)∧(d2<(List.length b))∧(True)∧(((TV (gD a d2 0) (gD b d2 0)) != (0:Int))=true →
     ((TV (gD a d2 0) (gD b d2 0))=(A6 a b)∧(True))) ∧
    (((TV (gD a d2 0) (gD b d2 0)) != (0:Int))=false →
     (I64 (d2+(1:Int)))∧(∃ d3:Int,((a=a∧b=b∧a=a∧(lI a)=(lI a)∧(d2+(1:Int))=d3∧True)∧(True))∧q2 d3)))) ∧
  ((decide (d2<(lI a)))=false →
   ((decide ((lI a)<(lI b)))=true →
    ((-1:Int)=(A6 a b)∧(True))) ∧
   ((decide ((lI a)<(lI b)))=false →
    ((0:Int)=(A6 a b)∧(True))))) d20
def X0:Cx:=⟨[],[(91,JM)],36,[],0,[],[],[],[],false,[],[],[],[]⟩
def Kw (a:List Int) (b:List Int):List (Nat×LoopAnn):=[(0,⟨Unit,Int,[0,1,9,10,11],fun e x=>[.val (.list (.i .i64)) a,.val (.list (.i .i64)) b,.val (.list (.i .i64)) a,.val (.i .i64) (((List.length a):Nat):Int),.val (.i .i64) x],fun e x=>[]⟩)]
set_option maxRecDepth 100000 in
theorem KJ (d:List Int×List Int):gwp (X0) (Kw d.1 d.2) c92 0 (Ws [.tmp 4] (JO d) (JS d)) (Qk 36 (AL.can X4 d))=Z5 d.1 d.2:=by kernel_rfl
abbrev Kq:Prop:=OkC Tryz.prog 92 J3
theorem Ku (h:∀ (a:List Int) (b:List Int),(a.length≤1000∧b.length≤1000)→Z5 a b):OkC Tryz.prog 92 J3 :=
 QC Q51 mixed (C:=X0) (V:=fun (d:List Int×List Int)=>Z5 d.1 d.2) ⟨(.cons Kb .nil),XsOk.nil,ItsOk.nil,YlOk.nil,IysOk.nil,XfOk.nil⟩ (KJ) fun d hp=>h d.1 d.2 hp
theorem Kp:Kq:=Ku fun a b h=>by
 obtain⟨h1,h2⟩:=h;unfold Z5;(try delta lI gD sT I64);simp only[decide_eq_true_eq,decide_eq_false_iff_not];refine⟨(),0,(by and_intros<;>first|rfl|trivial|simp),?_⟩;refine LoopP.count a.length (fun k=>k≤b.length∧∀ j,j<k→a.getD j 0=b.getD j 0) ⟨by omega,fun j hj=>by omega⟩ fun k hk hJ q hq=>?_;obtain⟨j1,j2⟩:=hJ;have hc:=Ck k hk j1 j2;simp only[Int.toNat_natCast];refine⟨fun ah=>?_,fun a9=>?_⟩
 ·have aM:k<a.length:=by omega
  rw[List.drop_eq_getElem_cons aM] at hc;refine⟨by omega,ah,fun h3=>?_,fun h3=>?_⟩
  ·rw[List.drop_eq_nil_of_le (show b.length≤k by omega)] at hc;rw[hc];exact⟨rfl,trivial⟩
  ·have qG:k<b.length:=by omega
   rw[List.drop_eq_getElem_cons qG,A6] at hc;rw[Q8 aM,Q8 qG];refine⟨by omega,by omega,trivial,fun hx=>?_,fun hx=>⟨by rw[Z1];omega,_,(by and_intros<;>first|rfl|trivial|simp),hq aM ⟨by omega,fun j hj=>?_⟩⟩⟩
   ·have hx:TV a[k] b[k]≠0:=by simpa using hx
    rw[hc,if_pos hx];exact⟨rfl,trivial⟩
   ·rcases Nat.lt_succ_iff_lt_or_eq.1 hj with hj|rfl
    ·exact j2 j hj
    ·rw[Q8 aM,Q8 qG];exact Cj.1 (by simpa using hx)
 ·have:k=a.length:=by omega
  subst this;rw[List.drop_length] at hc;refine⟨fun h3=>?_,fun h3=>?_⟩
  ·rw[List.drop_eq_getElem_cons (show a.length<b.length by omega)] at hc;rw[hc];exact⟨rfl,trivial⟩
  ·rw[List.drop_eq_nil_of_le (show b.length≤a.length by omega)] at hc;rw[hc];exact⟨rfl,trivial⟩
end Go.Proofs.Tryz
set_option linter.unusedVariables false
namespace Go.Proofs.Tryz
open Go Go.V Go.Proofs
def YJ:AL (((List (Int×(Int×Int)×Int))×Int)×Int×Int):=(.cons (.agg (.cons (.k (.list (.pair (.i .i64) (.pair (.pair (.i .i64) (.i .i64)) (.i .i64))))) (.one (.k (.i .i64))))) (.one (.agg (.cons (.k (.i .i64)) (.one (.k (.i .i64)))))))
def NV (d:((List (Int×(Int×Int)×Int))×Int)×Int×Int):Prop:=d.1.1.length≤12∧(∀ y∈d.1.1,X6 y=true)
def W_ (d:((List (Int×(Int×Int)×Int))×Int)×Int×Int):SV:=.tup [.lst 0,.val (.i .i64) (if (QB d.1.1 d.1.2 d.2.1 d.2.2 (2 ^ d.1.1.length)).isEmpty then 7 else 0)]
def Y0 (d:((List (Int×(Int×Int)×Int))×Int)×Int×Int):List OB:=[.lst 3 (.i .i64) (QB d.1.1 d.1.2 d.2.1 d.2.2 (2 ^ d.1.1.length)) ((QB d.1.1 d.1.2 d.2.1 d.2.2 (2 ^ d.1.1.length)).isEmpty)]
def Jt:CSp:=Xv YJ NV W_ Y0
def Jg (l:List (Int×(Int×Int)×Int)) (tl:Int) (nc:Int) (ng:Int):Prop :=
 ∃ (e4:Unit) (d40:(List Int)×Int),((True∧True∧True∧(1:Int)=d40.2∧True)∧((l=l∧tl=tl∧(([]:List SV)=[]))∧(nc=nc∧ng=ng∧(([]:List SV)=[]))∧(d40.1=[]∧(List.isEmpty d40.1)=true)∧True)) ∧
 LoopP (fun (d4:(List Int)×Int) (q4:((List Int)×Int)→Prop) =>
  (0≤(lI l))∧(InK .u64 (M_ .u64 (1:Int) (lI l)))∧((decide (d4.2<(M_ .u64 (1:Int) (lI l))))=true →
   (0≤d4.2∧d4.2≤1048576)∧(0≤(0:Int))∧((0:Int)<(List.length (Qo d4.2.toNat)))∧(0≤(gD (Qo d4.2.toNat) (0:Int) 0))∧((gD (Qo d4.2.toNat) (0:Int) 0)<(List.length l))∧(((gD l (gD (Qo d4.2.toNat) (0:Int) 0) (0,((0,0),0))).1 != nc)=false→l.length≤12∧(∀ y∈l,X6 y=true)∧0≤d4.2∧d4.2<2 ^ l.length)∧((((gD l (gD (Qo d4.2.toNat) (0:Int) 0) (0,((0,0),0))).1 != nc)||(decide ((XR l (Qo d4.2.toNat))<ng)))=false→l.length≤12∧(∀ y∈l,X6 y=true)∧0<d4.2∧d4.2<2 ^ l.length)∧(((((gD l (gD (Qo d4.2.toNat) (0:Int) 0) (0,((0,0),0))).1 != nc)||(decide ((XR l (Qo d4.2.toNat))<ng)))||(!(DM l tl (Qo d4.2.toNat))))=true →
    (InK .u64 (d4.2+(1:Int)))∧(∃ d5:(List Int)×Int,((True∧True∧True∧(d4.2+(1:Int))=d5.2∧True)∧((l=l∧tl=tl∧(([]:List SV)=[]))∧(nc=nc∧ng=ng∧(([]:List SV)=[]))∧(d4.1=d5.1∧(List.isEmpty d4.1)=(List.isEmpty d5.1))∧True))∧q4 d5)) ∧
   (((((gD l (gD (Qo d4.2.toNat) (0:Int) 0) (0,((0,0),0))).1 != nc)||(decide ((XR l (Qo d4.2.toNat))<ng)))||(!(DM l tl (Qo d4.2.toNat))))=false →
    ((List.isEmpty d4.1)=false→True)∧((List.isEmpty d4.1)=false→(Qo d4.2.toNat).length≤1000∧d4.1.length≤1000)∧((List.isEmpty d4.1)=false→True)∧((List.isEmpty d4.1)=false→[(TV (lI (Qo d4.2.toNat)) (lI d4.1)),(A6 (Qo d4.2.toNat) d4.1)].length≤1000)∧(((List.isEmpty d4.1)||(decide ((orI [(TV (lI (Qo d4.2.toNat)) (lI d4.1)),(A6 (Qo d4.2.toNat) d4.1)])<(0:Int))))=true →
     (InK .u64 (d4.2+(1:Int)))∧(∃ d6:(List Int)×Int,((True∧True∧True∧(d4.2+(1:Int))=d6.2∧True)∧((l=l∧tl=tl∧(([]:List SV)=[]))∧(nc=nc∧ng=ng∧(([]:List SV)=[]))∧((Qo d4.2.toNat)=d6.1∧(Qo d4.2.toNat).isEmpty=(List.isEmpty d6.1))∧True))∧q4 d6)) ∧
    (((List.isEmpty d4.1)||(decide ((orI [(TV (lI (Qo d4.2.toNat)) (lI d4.1)),(A6 (Qo d4.2.toNat) d4.1)])<(0:Int))))=false →
     (InK .u64 (d4.2+(1:Int)))∧(∃ d7:(List Int)×Int,((True∧True∧True∧(d4.2+(1:Int))=d7.2∧True)∧((l=l∧tl=tl∧(([]:List SV)=[]))∧(nc=nc∧ng=ng∧(([]:List SV)=[]))∧(d4.1=d7.1∧(List.isEmpty d4.1)=(List.isEmpty d7.1))∧True))∧q4 d7)))) ∧
  ((decide (d4.2<(M_ .u64 (1:Int) (lI l))))=false →
   ((List.isEmpty d4.1)=true →
    ((True∧(7:Int)=(if (QB l tl nc ng (2 ^ l.length)).isEmpty then 7 else 0)∧(([]:List SV)=[]))∧(((QB l tl nc ng (2 ^ l.length))=[]∧(QB l tl nc ng (2 ^ l.length)).isEmpty=true)∧True))) ∧
   ((List.isEmpty d4.1)=false →
    ((True∧(0:Int)=(if (QB l tl nc ng (2 ^ l.length)).isEmpty then 7 else 0)∧(([]:List SV)=[]))∧((d4.1=(QB l tl nc ng (2 ^ l.length))∧(List.isEmpty d4.1)=(QB l tl nc ng (2 ^ l.length)).isEmpty)∧True))))) d40
def YC:Cx:=⟨[(3,(.i .i64))],[(87,JC),(88,Xf),(89,Xj),(91,JM),(92,J3),(90,UQ)],62,[],0,[],[],[],[],false,[],[],[],[]⟩
def MI (l:List (Int×(Int×Int)×Int)) (tl:Int) (nc:Int) (ng:Int):List (Nat×LoopAnn):=[(0,⟨Unit,(List Int)×Int,[2,3,4,6],fun e x=>[.box 2 0,.box 3 0,.lst 6000004,.val (.i .u64) x.2],fun e x=>[(2,.slot 2,.cells [.val (.list (.pair (.i .i64) (.pair (.pair (.i .i64) (.i .i64)) (.i .i64)))) l,.val (.i .i64) tl] (some 113)),(3,.slot 3,.cells [.val (.i .i64) nc,.val (.i .i64) ng] (some 57)),(6000004,.slot 4,.lst 3 (.i .i64) x.1 (List.isEmpty x.1))]⟩)]
set_option maxRecDepth 100000 in
theorem MZ (d:((List (Int×(Int×Int)×Int))×Int)×Int×Int):gwp (YC) (MI d.1.1 d.1.2 d.2.1 d.2.2) c55 0 (Ws [.tmp 4,.tmp 5] (W_ d) (Y0 d)) (Qk 62 (AL.can YJ d))=Jg d.1.1 d.1.2 d.2.1 d.2.2:=by kernel_rfl
abbrev MT:Prop:=OkC Tryz.prog 55 Jt
theorem MN (h:∀ (l:List (Int×(Int×Int)×Int)) (tl:Int) (nc:Int) (ng:Int),(l.length≤12∧(∀ y∈l,X6 y=true))→Jg l tl nc ng):OkC Tryz.prog 55 Jt :=
 QC Q6p mixed (C:=YC) (V:=fun (d:((List (Int×(Int×Int)×Int))×Int)×Int×Int)=>Jg d.1.1 d.1.2 d.2.1 d.2.2) ⟨(.cons WT (.cons NQ (.cons NX (.cons Kb (.cons Kp (.cons L1 .nil)))))),XsOk.nil,ItsOk.nil,YlOk.nil,IysOk.nil,XfOk.nil⟩ (MZ) fun d hp=>h d.1.1 d.1.2 d.2.1 d.2.2 hp
end Go.Proofs.Tryz
set_option linter.unusedVariables false
namespace Go.Proofs.Tryz
open Go Go.V Go.Proofs
theorem YA:MT:=MN fun l tl nc ng h=>by
 obtain⟨h1,h2⟩:=h;have dG:2 ^ l.length≤2 ^ 12:=Nat.pow_le_pow_right (by omega) h1;have jT:(2:Nat) ^ 12=4096:=rfl;have vf:0<2 ^ l.length:=Nat.two_pow_pos _;have gg:(2:Int) ^ l.length=((2 ^ l.length:Nat):Int):=by simp
 unfold Jg;(try delta lI gD sT I64);have dK:M_ .u64 1 (l.length:Int)=((2 ^ l.length:Nat):Int):=by unfold M_;rw[Int.toNat_natCast,show Nat.min l.length (IntKind.bits .u64)=l.length from Nat.min_eq_left (show l.length≤64 by omega),Int.one_mul];exact gg
 have hd:∀ j,l.getD j (0,((0,0),0))=l.getD j XZ:=fun _=>rfl;simp only[dK,decide_eq_true_eq,decide_eq_false_iff_not,hd];refine⟨(),([],1),(by and_intros<;>first|rfl|trivial|simp),?_⟩;refine⟨fun d=>∃ s:Nat,d.2=s∧1≤s∧s≤2 ^ l.length∧d.1=QB l tl nc ng s,fun d=>2 ^ l.length-d.2.toNat,⟨1,rfl,by omega,by omega,rfl⟩,?_⟩;rintro⟨_,_⟩ ⟨s,rfl,i1,i2,rfl⟩;dsimp only;have oT:=Ha (tl:=tl) (nc:=nc) (ng:=ng) (show l.length≤64 by omega) s i2;have hK:QB l tl nc ng (s+1)=if Mx l tl nc ng s&&((QB l tl nc ng s).isEmpty||Q2a (Qo s) (QB l tl nc ng s)) then Qo s else QB l tl nc ng s:=by
  conv=>lhs;unfold QB
  rw[if_neg (by omega)]
 simp only[Int.toNat_natCast];refine⟨by omega,by rw[MF];omega,fun ah=>?_,fun a9=>?_⟩
 ·have hs:s<2 ^ l.length:=by omega
  have wg:=DD hs (show l.length≤64 by omega);have vg:=CX (show 0<s by omega);have sI:0<(Qo s).length:=List.length_pos_iff.2 vg;have hm:=Hv hs (show l.length≤64 by omega) _ (by rw[Q8 sI];exact List.getElem_mem sI:(Qo s).getD 0 0∈Qo s);have hz:((0:Int)).toNat=0:=rfl;simp only[hz,Ib];have vh:(decide (orI [TV ((Qo s).length:Int) ((QB l tl nc ng s).length:Int),A6 (Qo s) (QB l tl nc ng s)]<0))=Q2a (Qo s) (QB l tl nc ng s):=rfl;rw[vh];have sJ:(s:Int)<2 ^ l.length:=by rw[gg];omega
  have nx:∀ b:List Int,b=QB l tl nc ng (s+1)→(∃ s',((s:Int)+1)=((s':Nat):Int)∧1≤s'∧s'≤2 ^ l.length∧b=QB l tl nc ng s'):=fun b hb=>⟨s+1,by omega,by omega,by omega,hb⟩;refine⟨⟨by omega,by omega⟩,by omega,by omega,hm.1,hm.2,fun _=>⟨h1,h2,by omega,sJ⟩,fun _=>⟨h1,h2,by omega,sJ⟩,fun hx=>⟨by rw[MF];omega,(QB l tl nc ng s,(s:Int)+1),(by and_intros<;>first|rfl|trivial|simp),nx _ ?_,by dsimp only;omega⟩,fun hx=>⟨fun _=>trivial,fun _=>⟨by omega,by omega⟩,fun _=>trivial,fun _=>by simp,fun hy=>⟨by rw[MF];omega,(Qo s,(s:Int)+1),(by and_intros<;>first|rfl|trivial|simp),nx _ ?_,by dsimp only;omega⟩,fun hy=>⟨by rw[MF];omega,(QB l tl nc ng s,(s:Int)+1),(by and_intros<;>first|rfl|trivial|simp),nx _ ?_,by dsimp only;omega⟩⟩⟩
  ·have hx:Mx l tl nc ng s=false:=by simpa using hx
   rw[hK,hx,Bool.false_and,if_neg (by decide)]
  ·have hx:Mx l tl nc ng s=true:=by simpa using hx
   rw[hK,hx,hy];rfl
  ·have hx:Mx l tl nc ng s=true:=by simpa using hx
   rw[hK,hx,hy,Bool.and_false,if_neg (by decide)]
 ·have:s=2 ^ l.length:=by omega
  subst this;refine⟨fun he=>?_,fun he=>?_⟩
  ·rw[he];have:=List.isEmpty_iff.1 he;rw[this];exact(by and_intros<;>first|rfl|trivial|simp)
  ·rw[he];exact(by and_intros<;>first|rfl|trivial|simp)
end Go.Proofs.Tryz
set_option linter.unusedVariables false
namespace Go.Proofs.Tryz
open Go Go.V Go.Proofs
def GM:Cx:=⟨[(3,(.i .i64))],[(57,JL),(58,Zf)],21,[],0,[],[],[],[],false,[],[],[],[]⟩
def N5:XSp:=Z0n GM (fun _=>[]) c51 [.cell 4 true 2,.tmp 5] 21
theorem Mk:XOk Tryz.prog 51 N5:=Q22 Q85 mixed (C:=GM) ⟨(.cons Wi (.cons J6 .nil)),XsOk.nil,ItsOk.nil,YlOk.nil,IysOk.nil,XfOk.nil⟩ _
def GS:AL ((List (Int×(Int×Int)×Int))×Int×Int×Int):=(.cons (.k (.list (.pair (.i .i64) (.pair (.pair (.i .i64) (.i .i64)) (.i .i64))))) (.cons (.k (.i .i64)) (.one (.agg (.cons (.k (.i .i64)) (.one (.k (.i .i64))))))))
def Tq (d:(List (Int×(Int×Int)×Int))×Int×Int×Int):Prop:=d.1.length≤1000
def Mq (d:(List (Int×(Int×Int)×Int))×Int×Int×Int):SV:=.tup [.lst 0,.val (.i .i64) (Jo d.1 d.2.1 d.2.2.1 d.2.2.2)]
def Mt (d:(List (Int×(Int×Int)×Int))×Int×Int×Int):List OB:=[.lst 3 (.i .i64) (YX d.1 d.2.1 d.2.2.1 d.2.2.2) ((YX d.1 d.2.1 d.2.2.1 d.2.2.2).isEmpty)]
def Uk:CSp:=Xv GS Tq Mq Mt
def Yd (l:List (Int×(Int×Int)×Int)) (tl:Int) (nc:Int) (ng:Int):Prop :=
 ∀ w1:List Value,(l.length≤1000)∧(((Qu l)==(0:Int))=true→True)∧(((Qu l)==(0:Int))=true→[tl].length≤1000000)∧((((Qu l)==(0:Int))&&(!(!([tl].any fun n=>decide (n<(0:Int))||decide ((1000:Int)<n)))))=true →
  w1=w1∧(((3:Int) != (0:Int))=true →
   ((True∧(3:Int)=(Jo l tl nc ng)∧(([]:List SV)=[]))∧(((YX l tl nc ng)=[]∧(YX l tl nc ng).isEmpty=true)∧True))) ∧
  (((3:Int) != (0:Int))=false →
   (True)∧((!(Wz nc ng))=true →
    ((True∧(2:Int)=(Jo l tl nc ng)∧(([]:List SV)=[]))∧(((YX l tl nc ng)=[]∧(YX l tl nc ng).isEmpty=true)∧True))) ∧
   ((!(Wz nc ng))=false →
    (l.length≤12∧(∀ y∈l,X6 y=true))∧((True∧(if (QB l tl nc ng (2 ^ l.length)).isEmpty then 7 else 0)=(Jo l tl nc ng)∧(([]:List SV)=[]))∧(((QB l tl nc ng (2 ^ l.length))=(YX l tl nc ng)∧(QB l tl nc ng (2 ^ l.length)).isEmpty=(YX l tl nc ng).isEmpty)∧True))))) ∧
 ((((Qu l)==(0:Int))&&(!(!([tl].any fun n=>decide (n<(0:Int))||decide ((1000:Int)<n)))))=false →
  w1=w1∧(((Qu l) != (0:Int))=true →
   ((True∧(Qu l)=(Jo l tl nc ng)∧(([]:List SV)=[]))∧(((YX l tl nc ng)=[]∧(YX l tl nc ng).isEmpty=true)∧True))) ∧
  (((Qu l) != (0:Int))=false →
   (True)∧((!(Wz nc ng))=true →
    ((True∧(2:Int)=(Jo l tl nc ng)∧(([]:List SV)=[]))∧(((YX l tl nc ng)=[]∧(YX l tl nc ng).isEmpty=true)∧True))) ∧
   ((!(Wz nc ng))=false →
    (l.length≤12∧(∀ y∈l,X6 y=true))∧((True∧(if (QB l tl nc ng (2 ^ l.length)).isEmpty then 7 else 0)=(Jo l tl nc ng)∧(([]:List SV)=[]))∧(((QB l tl nc ng (2 ^ l.length))=(YX l tl nc ng)∧(QB l tl nc ng (2 ^ l.length)).isEmpty=(YX l tl nc ng).isEmpty)∧True)))))
def Gq:Cx:=⟨[(3,(.i .i64))],[(57,JL),(58,Zf),(52,Wg),(55,Jt)],29,[],0,[(51,N5)],[],[],[],false,[],[],[],[]⟩
def Sf (l:List (Int×(Int×Int)×Int)) (tl:Int) (nc:Int) (ng:Int):List (Nat×LoopAnn):=[]
set_option maxRecDepth 100000 in
theorem Sl (d:(List (Int×(Int×Int)×Int))×Int×Int×Int):gwp (Gq) (Sf d.1 d.2.1 d.2.2.1 d.2.2.2) c21 0 (Ws [.tmp 6,.tmp 7] (Mq d) (Mt d)) (Qk 29 (AL.can GS d))=Yd d.1 d.2.1 d.2.2.1 d.2.2.2:=by kernel_rfl
abbrev SJ:Prop:=OkC Tryz.prog 21 Uk
theorem Si (h:∀ (l:List (Int×(Int×Int)×Int)) (tl:Int) (nc:Int) (ng:Int),(l.length≤1000)→Yd l tl nc ng):OkC Tryz.prog 21 Uk :=
 QC Q5i mixed (C:=Gq) (V:=fun (d:(List (Int×(Int×Int)×Int))×Int×Int×Int)=>Yd d.1 d.2.1 d.2.2.1 d.2.2.2) ⟨(.cons Wi (.cons J6 (.cons US (.cons YA .nil)))),(XsOk.cons Mk XsOk.nil),ItsOk.nil,YlOk.nil,IysOk.nil,XfOk.nil⟩ (Sl) fun d hp=>h d.1 d.2.1 d.2.2.1 d.2.2.2 hp
theorem Q7j:((3:Int) != 0)=true:=rfl
theorem RK:SJ:=Si fun l tl nc ng h=>by
 unfold Yd;(try delta lI gD sT I64);have e:∀ n a b:Int,(decide (n<a)||decide (b<n))=!inI n a b:=fun n a b=>(nIb n a b).symm;simp only[List.any_cons,List.any_nil,Bool.or_false,e,Bool.not_not,List.length_cons,List.length_nil,Q7j,Bool.true_eq_false,true_and,and_true,beq_iff_eq,bne_iff_ne,ne_eq,bne_eq_false_iff_eq,Bool.not_eq_true',Bool.not_eq_false',false_implies,Bool.or_false,implies_true,forall_const];refine⟨h,by omega,fun hx=>?_,fun hx=>⟨fun a=>?_,fun a=>⟨fun b=>?_,fun b=>?_⟩⟩⟩
 ·simp only[Bool.and_eq_true,beq_iff_eq,Bool.not_eq_true'] at hx;have o:Z6 l tl=3:=by unfold Z6;rw[if_neg (by omega),hx.2];rfl
  have e1:Jo l tl nc ng=3:=by unfold Jo;rw[o];rfl
  have e2:YX l tl nc ng=[]:=by unfold YX;rw[o];rfl
  rw[e1,e2];exact(by and_intros<;>first|rfl|trivial|simp)
 ·have o:Z6 l tl=Qu l:=by unfold Z6;rw[if_pos a]
  have e1:Jo l tl nc ng=Qu l:=by unfold Jo;rw[o,if_pos a]
  have e2:YX l tl nc ng=[]:=by unfold YX;rw[if_pos (.inl (by rw[o];exact a))]
  rw[e1,e2];exact(by and_intros<;>first|rfl|trivial|simp)
 ·have o:Z6 l tl=0:=by
   unfold Z6;rw[if_neg (by omega),if_neg];intro h2;rw[a,h2] at hx;cases hx
  have e1:Jo l tl nc ng=2:=by unfold Jo;rw[if_neg (by omega),b];rfl
  have e2:YX l tl nc ng=[]:=by unfold YX;rw[if_pos (.inr b)]
  rw[e1,e2];exact(by and_intros<;>first|rfl|trivial|simp)
 ·have o:Z6 l tl=0:=by
   unfold Z6;rw[if_neg (by omega),if_neg];intro h2;rw[a,h2] at hx;cases hx
  have e1:Jo l tl nc ng=if (QB l tl nc ng (2 ^ l.length)).isEmpty then 7 else 0:=by unfold Jo;rw[if_neg (by omega),b];rfl
  have e2:YX l tl nc ng=QB l tl nc ng (2 ^ l.length):=by
   unfold YX;rw[if_neg];rintro (h|h)
   ·exact h o
   ·rw[b] at h;cases h
  rw[e1,e2];refine⟨Pk a,?_⟩;exact(by and_intros<;>first|rfl|trivial|simp)
def T3 (n m:Nat):List Int:=((List.range m).filter fun k=>n.testBit k).map fun (k:Nat)=>(k:Int)
theorem Pn:∀ {a b:List Int},a.Pairwise (·<·)→b.Pairwise (·<·)→(∀ x,x∈a↔x∈b)→a=b
 |[],[],_,_,_=>rfl
 |[],y::b,_,_,h=>by have:=(h y).2 (List.mem_cons_self ..);cases this
 |x::a,[],_,_,h=>by have:=(h x).1 (List.mem_cons_self ..);cases this
 |x::a,y::b,ha,hb,h=>by
  obtain⟨sK,qk⟩:=List.pairwise_cons.1 ha;obtain⟨bg,bV⟩:=List.pairwise_cons.1 hb;have vi:x=y:=by
   rcases List.mem_cons.1 ((h x).1 (List.mem_cons_self ..)) with e|e
   ·exact e
   ·rcases List.mem_cons.1 ((h y).2 (List.mem_cons_self ..)) with e2|e2
    ·exact e2.symm
    ·have h1:=bg x e;have h2:=sK y e2;omega
  subst vi;rw[Pn qk bV fun z=>?_];constructor
  ·intro hz;rcases List.mem_cons.1 ((h z).1 (List.mem_cons_of_mem _ hz)) with e|e
   ·have:=sK z hz;omega
   ·exact e
  ·intro hz;rcases List.mem_cons.1 ((h z).2 (List.mem_cons_of_mem _ hz)) with e|e
   ·have:=bg z hz;omega
   ·exact e
theorem Q7p {n k:Nat}(h0:0<n) (h1:n<2 ^ 64) (hk:n.testBit k=true):tzN n≤k:=by
 obtain⟨_,m,hm⟩:=Ns h0 h1;generalize tzN n=t at *
 rcases Nat.lt_or_ge k t with h|h
 ·rw[hm,Nat.testBit_two_pow_mul,decide_eq_false (show ¬ k≥t by omega)] at hk;cases hk
 ·exact h
theorem Hm:∀ f n,n≤f→n<2 ^ 64→(Ry f n).Pairwise (·<·)
 |0,n,_,_=>by simp[Ry]
 |f+1,n,h1,h2=>by
  unfold Ry;by_cases h:n=0
  ·rw[if_pos h];exact List.Pairwise.nil
  ·rw[if_neg h,List.pairwise_cons];have hle:=Nat.and_le_right (n:=n) (m:=n-1);refine⟨fun i hm=>?_,Hm f _ (by omega) (by omega)⟩;obtain⟨k,rfl,hb⟩:=(BO f _ (by omega) (by omega) _).1 hm;rw[Ga (by omega) h2] at hb;simp only[Bool.and_eq_true,Bool.not_eq_true',decide_eq_false_iff_not] at hb;have:=Q7p (by omega) h2 hb.1;omega
theorem CB {n m:Nat}(h:n<2 ^ m) (hm:m≤64):Qo n=T3 n m:=by
 have hp:2 ^ m≤2 ^ 64:=Nat.pow_le_pow_right (by omega) hm;refine Pn (Hm n n (Nat.le_refl _) (by omega)) ?_ fun x=>?_
 ·unfold T3;rw[List.pairwise_map];exact(List.Pairwise.filter _ List.pairwise_lt_range).imp fun h=>by omega
 ·rw[AK (by omega)];simp only[T3,List.mem_map,List.mem_filter,List.mem_range];constructor
  ·rintro⟨k,rfl,hb⟩;have:k<m:=by
    rcases Nat.lt_or_ge k m with h2|h2
    ·exact h2
    ·rw[Nat.testBit_lt_two_pow (Nat.lt_of_lt_of_le h (Nat.pow_le_pow_right (by omega) h2))] at hb;cases hb
   exact⟨k,⟨this,hb⟩,rfl⟩
  ·rintro⟨k,⟨_,hb⟩,rfl⟩;exact⟨k,rfl,hb⟩
def Q5t (a b:Lot) (t:Int):Bool:=(a.1==b.1)&&decide (Q1o a b≤t)&&decide (Q1o a a≤t)&&decide (Q1o b b≤t)
def IG (p:List Lot) (t:Int):Bool:=(List.range p.length).all fun i=>(List.range p.length).all fun k=>Q5t (p.getD i XZ) (p.getD k XZ) t
theorem Rx {p:List Lot}{t:Int}:IG p t=true↔∀ i,i<p.length→∀ k,k<p.length→(p.getD i XZ).1=(p.getD k XZ).1∧Q1o (p.getD i XZ) (p.getD k XZ)≤t:=by simp only[IG,List.all_eq_true,List.mem_range,Q5t,Bool.and_eq_true,beq_iff_eq,decide_eq_true_eq];exact⟨fun h i hi k hk=>⟨(h i hi k hk).1.1.1,(h i hi k hk).1.1.2⟩,fun h i hi k hk=>⟨⟨⟨(h i hi k hk).1,(h i hi k hk).2⟩,(h i hi i hi).2⟩,(h k hk k hk).2⟩⟩
theorem O3 {p:List Lot}{t:Int}(h:p≠[]):E2 t p=IG p t:=by
 have hp:1≤p.length:=List.length_pos_iff.2 h;obtain⟨a,_,_,⟨i3,b3,c3⟩,⟨i4,b4,c4⟩⟩:=Hj h p.length hp (Nat.le_refl _);rw[Bool.eq_iff_iff,Rx];unfold E2 FC;simp only[Bool.and_eq_true,Bool.not_eq_true',decide_eq_true_eq,List.any_eq_false,bne_iff_ne,ne_eq,Decidable.not_not];generalize U2 p p.length=S at *
 constructor
 ·rintro⟨h1,h2⟩ i hi k hk;have e1:=h1 _ (by rw[Q8 hi];exact List.getElem_mem hi:p.getD i XZ∈p);have e2:=h1 _ (by rw[Q8 hk];exact List.getElem_mem hk:p.getD k XZ∈p);have u:=a i hi;have v:=a k hk;refine⟨e1.trans e2.symm,?_⟩;unfold Q1o;rw[HJ];omega
 ·intro h1;refine⟨fun x hx=>?_,?_⟩
  ·obtain⟨i,hi,rfl⟩:=List.getElem_of_mem hx;have:=(h1 i hi 0 (by omega)).1
   rwa [Q8 hi] at this
  ·have:=(h1 i4 b4 i3 b3).2;unfold Q1o at this;rw[HJ] at this;omega
theorem SC {l:List Lot}{tl nc ng:Int}:∀ n,QB l tl nc ng n=[]∨∃ s,1≤s∧s<n∧Mx l tl nc ng s=true∧QB l tl nc ng n=Qo s
 |0=>.inl rfl
 |n+1=>by
  unfold QB;by_cases h:n=0
  ·rw[if_pos h];exact .inl rfl
  ·rw[if_neg h];split
   ·rename_i h2;rw[Bool.and_eq_true] at h2;exact .inr ⟨n,by omega,by omega,h2.1,rfl⟩
   ·rcases SC (l:=l) (tl:=tl) (nc:=nc) (ng:=ng) n with h3|⟨s,h3,h4,h5⟩
    ·exact .inl h3
    ·exact .inr ⟨s,h3,by omega,h5⟩
end Go.Proofs.Tryz
set_option linter.unusedVariables false
namespace Go.Proofs.Tryz
open Go Go.V Go.Proofs
def D9 (l:List Lot) (tl:Int) (n:List (Int×Int)) (i:Nat):Int :=
 if Wz (n.getD i (0,0)).1 (n.getD i (0,0)).2=false then 2 else if ((n.take i).any fun x=>x.1==(n.getD i (0,0)).1)=true then 6
 else if (QB l tl (n.getD i (0,0)).1 (n.getD i (0,0)).2 (2 ^ l.length)).isEmpty=true then 7 else 0
def Q3n (l:List Lot) (tl:Int) (n:List (Int×Int)):Option Nat:=(List.range n.length).find? fun i=>D9 l tl n i != 0
def U7 (l:List Lot) (tl:Int) (n:List (Int×Int)):Int:=if Z6 l tl≠0 then Z6 l tl else if 10<n.length then 5 else 0
def Zg (l:List Lot) (tl:Int) (n:List (Int×Int)):Int:=if U7 l tl n≠0 then U7 l tl n else match Q3n l tl n with|some i=>D9 l tl n i|none=>0
def JW (l:List Lot) (tl:Int) (n:List (Int×Int)):Int:=if U7 l tl n≠0 then 0 else match Q3n l tl n with|some i=>(i:Int)|none=>0
def Oe (l:List Lot) (tl:Int) (n:List (Int×Int)) (k:Nat):List (List Int):=(n.take k).map fun x=>QB l tl x.1 x.2 (2 ^ l.length)
def KZ (l:List Lot) (tl:Int) (n:List (Int×Int)):List (List Int):=if Zg l tl n=0 then Oe l tl n n.length else []
theorem Q0t {l:List Lot}{tl:Int}{n:List (Int×Int)}(h:U7 l tl n≠0):Zg l tl n=U7 l tl n∧JW l tl n=0∧KZ l tl n=[]:=by
 have e:Zg l tl n=U7 l tl n:=by unfold Zg;rw[if_pos h]
 refine⟨e,by unfold JW;rw[if_pos h],by unfold KZ;rw[e,if_neg h]⟩
theorem Q1h {l:List Lot}{tl:Int}{n:List (Int×Int)}{k:Nat}(h:U7 l tl n=0) (hj:∀ j,j<k→D9 l tl n j=0) (hk:k<n.length) (hs:D9 l tl n k≠0):Zg l tl n=D9 l tl n k∧JW l tl n=k∧KZ l tl n=[]:=by
 have f:Q3n l tl n=some k:=by unfold Q3n;rw[List.find?_eq_some_iff_getElem];refine⟨by simpa using hs,k,by simpa using hk,by simp,fun j dH=>?_⟩;rw[List.getElem_range,hj j dH];rfl
 have e:Zg l tl n=D9 l tl n k:=by unfold Zg;rw[if_neg (by omega),f]
 refine⟨e,by unfold JW;rw[if_neg (by omega),f],by unfold KZ;rw[e,if_neg hs]⟩
theorem Ol {l:List Lot}{tl:Int}{n:List (Int×Int)}(h:U7 l tl n=0) (hj:∀ j,j<n.length→D9 l tl n j=0):Zg l tl n=0∧JW l tl n=0∧KZ l tl n=Oe l tl n n.length:=by
 have f:Q3n l tl n=none:=by unfold Q3n;rw[List.find?_eq_none];intro x hx;rw[List.mem_range] at hx;rw[hj x hx];decide
 have e:Zg l tl n=0:=by unfold Zg;rw[if_neg (by omega),f]
 refine⟨e,by unfold JW;rw[if_neg (by omega),f],by unfold KZ;rw[e,if_pos rfl]⟩
theorem Cl {l:List Lot}{tl:Int}{n:List (Int×Int)}{k:Nat}(h:k<n.length):Oe l tl n (k+1)=Oe l tl n k++[QB l tl (n.getD k (0,0)).1 (n.getD k (0,0)).2 (2 ^ l.length)]:=by unfold Oe;rw[Z0 h,List.map_append,Q8 h];rfl
theorem Ef {l:List Lot}{tl:Int}{n:List (Int×Int)}{k:Nat}(h:k≤n.length):(Oe l tl n k).length=k:=by unfold Oe;simp;omega
theorem Sv {l:List Lot}{tl:Int}{n:List (Int×Int)}{k:Nat}(h:k<n.length):(Oe l tl n (k+1)).isEmpty=false:=by rw[Cl h];simp
def QP:AL ((List (Int×Int))×((Int×Int→Prop)×(Int×Int→Bool))):=(.cons (.k (.list (.pair (.i .i64) (.i .i64)))) (.one (.fn [(.pair (.i .i64) (.i .i64))] .bo)))
def ZE (d:(List (Int×Int))×((Int×Int→Prop)×(Int×Int→Bool))):Prop:=d.1.length≤1000000∧∀ x∈d.1,d.2.1 x
def QL (d:(List (Int×Int))×((Int×Int→Prop)×(Int×Int→Bool))):SV:=.val (.i .i64) (CO d.1 d.2.2)
def QM (d:(List (Int×Int))×((Int×Int→Prop)×(Int×Int→Bool))):List OB:=[]
def Qm:CSp:=Xv QP ZE QL QM
def Qb (l:List (Int×Int)) (p:(Int×Int→Prop)×(Int×Int→Bool)):Prop :=
 ∃ (e2:Unit) (d20:Int),((l=l∧(SV.pf [(.pair (.i .i64) (.i .i64))] .bo p.1 p.2=SV.pf [(.pair (.i .i64) (.i .i64))] .bo p.1 p.2)∧(lI l)=(lI l)∧(0:Int)=d20∧True)∧(True)) ∧
 LoopP (fun (d2:Int) (q2:(Int)→Prop) =>
  ((decide (d2<(lI l)))=true →
   (0≤d2)∧(d2<(List.length l))∧(p.1 ((gD l d2 (0,0)).1,(gD l d2 (0,0)).2))∧((p.2 ((gD l d2 (0,0)).1,(gD l d2 (0,0)).2))=true →
    (d2=(CO l p.2)∧(True))) ∧
   ((p.2 ((gD l d2 (0,0)).1,(gD l d2 (0,0)).2))=false →
    (I64 (d2+(1:Int)))∧(∃ d3:Int,((l=l∧(SV.pf [(.pair (.i .i64) (.i .i64))] .bo p.1 p.2=SV.pf [(.pair (.i .i64) (.i .i64))] .bo p.1 p.2)∧(lI l)=(lI l)∧(d2+(1:Int))=d3∧True)∧(True))∧q2 d3))) ∧
  ((decide (d2<(lI l)))=false →
   ((-1:Int)=(CO l p.2)∧(True)))) d20
def QQ:Cx:=⟨[],[],19,[],0,[],[],[],[],false,[],[],[],[]⟩
def ZM (l:List (Int×Int)) (p:(Int×Int→Prop)×(Int×Int→Bool)):List (Nat×LoopAnn):=[(0,⟨Unit,Int,[0,1,7,8],fun e x=>[.val (.list (.pair (.i .i64) (.i .i64))) l,.pf [(.pair (.i .i64) (.i .i64))] .bo p.1 p.2,.val (.i .i64) (((List.length l):Nat):Int),.val (.i .i64) x],fun e x=>[]⟩)]
set_option maxRecDepth 100000 in
theorem ZJ (d:(List (Int×Int))×((Int×Int→Prop)×(Int×Int→Bool))):gwp (QQ) (ZM d.1 d.2) c86 0 (Ws [.tmp 4] (QL d) (QM d)) (Qk 19 (AL.can QP d))=Qb d.1 d.2:=by kernel_rfl
abbrev ZO:Prop:=OkC Tryz.prog 86 Qm
theorem ZI (h:∀ (l:List (Int×Int)) (p:(Int×Int→Prop)×(Int×Int→Bool)),(l.length≤1000000∧∀ x∈l,p.1 x)→Qb l p):OkC Tryz.prog 86 Qm :=
 QC Q4p mixed (C:=QQ) (V:=fun (d:(List (Int×Int))×((Int×Int→Prop)×(Int×Int→Bool)))=>Qb d.1 d.2) ⟨.nil,XsOk.nil,ItsOk.nil,YlOk.nil,IysOk.nil,XfOk.nil⟩ (ZJ) fun d hp=>h d.1 d.2 hp
theorem ZL:ZO:=ZI fun l p hp=>by
 unfold Qb;(try delta lI gD sT I64);simp only[true_and,and_true,eq_self_iff_true,exists_eq_left',exists_const,decide_eq_true_eq,decide_eq_false_iff_not,beq_iff_eq,bne_iff_ne,ne_eq,beq_eq_false_iff_ne,bne_eq_false_iff_eq,Bool.not_eq_true',Bool.not_eq_false',Bool.not_eq_true,Bool.not_eq_false,Int.toNat_natCast,Int.ofNat_lt,gt_iff_lt,ge_iff_le];refine LoopP.count l.length (fun k=>(l.take k).any p.2=false) (by simp) fun k aY hJ q hq=>?_;simp only[true_and,and_true,eq_self_iff_true,exists_eq_left',exists_const,decide_eq_true_eq,decide_eq_false_iff_not,beq_iff_eq,bne_iff_ne,ne_eq,beq_eq_false_iff_ne,bne_eq_false_iff_eq,Bool.not_eq_true',Bool.not_eq_false',Bool.not_eq_true,Bool.not_eq_false,Int.toNat_natCast,Int.ofNat_lt,gt_iff_lt,ge_iff_le,Z1];refine⟨fun ah=>?_,fun a9=>?_⟩
 ·have ah:k<l.length:=by omega
  rw[Q8 ah];refine⟨by omega,by omega,hp.2 _ (List.getElem_mem ah),fun hx=>?_,fun hx=>⟨by omega,hq ah ?_⟩⟩
  ·rw[LH ah hx hJ]
  ·rw[Z0 ah,List.any_append,hJ];simp[hx]
 ·rw[List.take_of_length_le (by omega)] at hJ;rw[H7 hJ]
def QE:AL ((List (Int×Int))×((Int×Int→Prop)×(Int×Int→Bool))):=(.cons (.k (.list (.pair (.i .i64) (.i .i64)))) (.one (.fn [(.pair (.i .i64) (.i .i64))] .bo)))
def Zl (d:(List (Int×Int))×((Int×Int→Prop)×(Int×Int→Bool))):Prop:=d.1.length≤1000000∧∀ x∈d.1,d.2.1 x
def QA (d:(List (Int×Int))×((Int×Int→Prop)×(Int×Int→Bool))):SV:=.val .bo (d.1.any d.2.2)
def Qz (d:(List (Int×Int))×((Int×Int→Prop)×(Int×Int→Bool))):List OB:=[]
def Qi:CSp:=Xv QE Zl QA Qz
def Q9 (l:List (Int×Int)) (p:(Int×Int→Prop)×(Int×Int→Bool)):Prop :=
 (l.length≤1000000∧∀ x∈l,(fun (x1:Int×Int)=>p.1 (x1.1,x1.2)) x)∧((decide ((CO l (fun (x1:Int×Int)=>(p.2 (x1.1,x1.2))))≥(0:Int)))=(l.any p.2)∧(True))
def QD:Cx:=⟨[],[(86,Qm)],9,[],0,[],[],[],[],false,[],[],[],[]⟩
def Zv (l:List (Int×Int)) (p:(Int×Int→Prop)×(Int×Int→Bool)):List (Nat×LoopAnn):=[]
set_option maxRecDepth 100000 in
theorem Zs (d:(List (Int×Int))×((Int×Int→Prop)×(Int×Int→Bool))):gwp (QD) (Zv d.1 d.2) c53 0 (Ws [.tmp 4] (QA d) (Qz d)) (Qk 9 (AL.can QE d))=Q9 d.1 d.2:=by kernel_rfl
abbrev Zr:Prop:=OkC Tryz.prog 53 Qi
theorem Zt (h:∀ (l:List (Int×Int)) (p:(Int×Int→Prop)×(Int×Int→Bool)),(l.length≤1000000∧∀ x∈l,p.1 x)→Q9 l p):OkC Tryz.prog 53 Qi :=
 QC Q6d mixed (C:=QD) (V:=fun (d:(List (Int×Int))×((Int×Int→Prop)×(Int×Int→Bool)))=>Q9 d.1 d.2) ⟨(.cons ZL .nil),XsOk.nil,ItsOk.nil,YlOk.nil,IysOk.nil,XfOk.nil⟩ (Zs) fun d hp=>h d.1 d.2 hp
theorem Zu:Zr:=Zt fun l p hp=>by simp only[Q9];exact⟨hp,Au l p.2,trivial⟩
def Mp:AL ((Int×Int)×Int×Int):=(.cons (.agg (.cons (.k (.i .i64)) (.one (.k (.i .i64))))) (.one (.ptr (.cons (.k (.i .i64)) (.one (.k (.i .i64)))))))
def P8 (d:(Int×Int)×Int×Int):Prop:=True
def UB (d:(Int×Int)×Int×Int):SV:=.val .bo (d.1.1==d.2.1)
def N4 (d:(Int×Int)×Int×Int):List OB:=[]
def Vu:CSp:=Xv Mp P8 UB N4
def We (nc:Int) (ng:Int) (mc:Int) (mg:Int):Prop :=
 ((nc==mc)=(nc==mc)∧(True))
def Mj:Cx:=⟨[],[],9,[],0,[],[],[],[],false,[],[],[],[]⟩
def Tx (nc:Int) (ng:Int) (mc:Int) (mg:Int):List (Nat×LoopAnn):=[]
set_option maxRecDepth 100000 in
theorem Tw (d:(Int×Int)×Int×Int):gwp (Mj) (Tx d.1.1 d.1.2 d.2.1 d.2.2) c54 0 (Ws [.tmp 3] (UB d) (N4 d)) (Qk 9 (AL.can Mp d))=We d.1.1 d.1.2 d.2.1 d.2.2:=by kernel_rfl
abbrev TK:Prop:=OkC Tryz.prog 54 Vu
theorem TU (h:∀ (nc:Int) (ng:Int) (mc:Int) (mg:Int),(True)→We nc ng mc mg):OkC Tryz.prog 54 Vu :=
 QC Q45 mixed (C:=Mj) (V:=fun (d:(Int×Int)×Int×Int)=>We d.1.1 d.1.2 d.2.1 d.2.2) ⟨.nil,XsOk.nil,ItsOk.nil,YlOk.nil,IysOk.nil,XfOk.nil⟩ (Tw) fun d hp=>h d.1.1 d.1.2 d.2.1 d.2.2 hp
theorem TR:TK:=TU fun nc ng mc mg _=>by unfold We;(try delta lI gD sT I64);exact(by and_intros<;>first|rfl|trivial|simp)
def B7:AL ((List (Int×(Int×Int)×Int))×Int×List (Int×Int)):=(.cons (.k (.list (.pair (.i .i64) (.pair (.pair (.i .i64) (.i .i64)) (.i .i64))))) (.cons (.k (.i .i64)) (.one (.k (.list (.pair (.i .i64) (.i .i64)))))))
def L2 (d:(List (Int×(Int×Int)×Int))×Int×List (Int×Int)):Prop:=d.1.length≤1000∧d.2.2.length≤1000
def Gm (d:(List (Int×(Int×Int)×Int))×Int×List (Int×Int)):SV:=.tup [.lst 0,.val (.i .i64) (JW d.1 d.2.1 d.2.2),.val (.i .i64) (Zg d.1 d.2.1 d.2.2)]
def GL (d:(List (Int×(Int×Int)×Int))×Int×List (Int×Int)):List OB:=[.lst 34 (.list (.i .i64)) (KZ d.1 d.2.1 d.2.2) ((KZ d.1 d.2.1 d.2.2).isEmpty)]
def A4:CSp:=Xv B7 L2 Gm GL
def Ke (l:List (Int×(Int×Int)×Int)) (tl:Int) (n:List (Int×Int)):Prop :=
 ∀ w1:List Value,(l.length≤1000)∧(((Qu l)==(0:Int))=true→True)∧(((Qu l)==(0:Int))=true→[tl].length≤1000000)∧((((Qu l)==(0:Int))&&(!(!([tl].any fun n=>decide (n<(0:Int))||decide ((1000:Int)<n)))))=true →
  w1=w1∧(((3:Int) != (0:Int))=true →
   ((True∧(0:Int)=(JW l tl n)∧(3:Int)=(Zg l tl n)∧(([]:List SV)=[]))∧(((KZ l tl n)=[]∧(KZ l tl n).isEmpty=true)∧True))) ∧
  (((3:Int) != (0:Int))=false →
   ((decide ((lI n) > (10:Int)))=true →
    ((True∧(0:Int)=(JW l tl n)∧(5:Int)=(Zg l tl n)∧(([]:List SV)=[]))∧(((KZ l tl n)=[]∧(KZ l tl n).isEmpty=true)∧True))) ∧
   ((decide ((lI n) > (10:Int)))=false →
    ∃ (e5:Unit) (d50:(List (List Int))×Int),((n=n∧True∧True∧n=n∧(lI n)=(lI n)∧(0:Int)=d50.2∧True)∧((d50.1=[]∧(List.isEmpty d50.1)=true)∧(l=l∧tl=tl∧(([]:List SV)=[]))∧True)) ∧
    LoopP (fun (d5:(List (List Int))×Int) (q5:((List (List Int))×Int)→Prop) =>
     ((decide (d5.2<(lI n)))=true →
      (0≤d5.2)∧(d5.2<(List.length n))∧(True)∧((!(Wz ((gD n d5.2 (0,0)).1) ((gD n d5.2 (0,0)).2)))=true →
       ((True∧d5.2=(JW l tl n)∧(2:Int)=(Zg l tl n)∧(([]:List SV)=[]))∧(((KZ l tl n)=[]∧(KZ l tl n).isEmpty=true)∧True))) ∧
      ((!(Wz ((gD n d5.2 (0,0)).1) ((gD n d5.2 (0,0)).2)))=false →
       (0≤(0:Int))∧((0:Int)≤d5.2)∧(d5.2≤(List.length n))∧((List.take (Int.toNat (d5.2-(0:Int))) (List.drop (Int.toNat (0:Int)) n)).length≤1000000∧∀ x∈(List.take (Int.toNat (d5.2-(0:Int))) (List.drop (Int.toNat (0:Int)) n)),(fun (x1:Int×Int)=>True) x)∧(((List.take (Int.toNat (d5.2-(0:Int))) (List.drop (Int.toNat (0:Int)) n)).any (fun (x1:Int×Int)=>(x1.1==((gD n d5.2 (0,0)).1))))=true →
        ((True∧d5.2=(JW l tl n)∧(6:Int)=(Zg l tl n)∧(([]:List SV)=[]))∧(((KZ l tl n)=[]∧(KZ l tl n).isEmpty=true)∧True))) ∧
       (((List.take (Int.toNat (d5.2-(0:Int))) (List.drop (Int.toNat (0:Int)) n)).any (fun (x1:Int×Int)=>(x1.1==((gD n d5.2 (0,0)).1))))=false →
        (l.length≤12∧(∀ y∈l,X6 y=true))∧(((if (QB l tl ((gD n d5.2 (0,0)).1) ((gD n d5.2 (0,0)).2) (2 ^ l.length)).isEmpty then 7 else 0) != (0:Int))=true →
         ((True∧d5.2=(JW l tl n)∧(if (QB l tl ((gD n d5.2 (0,0)).1) ((gD n d5.2 (0,0)).2) (2 ^ l.length)).isEmpty then 7 else 0)=(Zg l tl n)∧(([]:List SV)=[]))∧(((KZ l tl n)=[]∧(KZ l tl n).isEmpty=true)∧True))) ∧
        (((if (QB l tl ((gD n d5.2 (0,0)).1) ((gD n d5.2 (0,0)).2) (2 ^ l.length)).isEmpty then 7 else 0) != (0:Int))=false →
         (((List.length d5.1)+(List.length [(QB l tl ((gD n d5.2 (0,0)).1) ((gD n d5.2 (0,0)).2) (2 ^ l.length))]))*24≤70368744177664)∧(I64 (d5.2+(1:Int)))∧(∃ d6:(List (List Int))×Int,((n=n∧True∧True∧n=n∧(lI n)=(lI n)∧(d5.2+(1:Int))=d6.2∧True)∧(((d5.1++[(QB l tl ((gD n d5.2 (0,0)).1) ((gD n d5.2 (0,0)).2) (2 ^ l.length))])=d6.1∧false=(List.isEmpty d6.1))∧(l=l∧tl=tl∧(([]:List SV)=[]))∧True))∧q5 d6))))) ∧
     ((decide (d5.2<(lI n)))=false →
      ((True∧(0:Int)=(JW l tl n)∧(0:Int)=(Zg l tl n)∧(([]:List SV)=[]))∧((d5.1=(KZ l tl n)∧(List.isEmpty d5.1)=(KZ l tl n).isEmpty)∧True)))) d50))) ∧
 ((((Qu l)==(0:Int))&&(!(!([tl].any fun n=>decide (n<(0:Int))||decide ((1000:Int)<n)))))=false →
  w1=w1∧(((Qu l) != (0:Int))=true →
   ((True∧(0:Int)=(JW l tl n)∧(Qu l)=(Zg l tl n)∧(([]:List SV)=[]))∧(((KZ l tl n)=[]∧(KZ l tl n).isEmpty=true)∧True))) ∧
  (((Qu l) != (0:Int))=false →
   ((decide ((lI n) > (10:Int)))=true →
    ((True∧(0:Int)=(JW l tl n)∧(5:Int)=(Zg l tl n)∧(([]:List SV)=[]))∧(((KZ l tl n)=[]∧(KZ l tl n).isEmpty=true)∧True))) ∧
   ((decide ((lI n) > (10:Int)))=false →
    ∃ (eZ:Unit) (d100:(List (List Int))×Int),((n=n∧True∧True∧n=n∧(lI n)=(lI n)∧(0:Int)=d100.2∧True)∧((d100.1=[]∧(List.isEmpty d100.1)=true)∧(l=l∧tl=tl∧(([]:List SV)=[]))∧True)) ∧
    LoopP (fun (d10:(List (List Int))×Int) (qH:((List (List Int))×Int)→Prop) =>
     ((decide (d10.2<(lI n)))=true →
      (0≤d10.2)∧(d10.2<(List.length n))∧(True)∧((!(Wz ((gD n d10.2 (0,0)).1) ((gD n d10.2 (0,0)).2)))=true →
       ((True∧d10.2=(JW l tl n)∧(2:Int)=(Zg l tl n)∧(([]:List SV)=[]))∧(((KZ l tl n)=[]∧(KZ l tl n).isEmpty=true)∧True))) ∧
      ((!(Wz ((gD n d10.2 (0,0)).1) ((gD n d10.2 (0,0)).2)))=false →
       (0≤(0:Int))∧((0:Int)≤d10.2)∧(d10.2≤(List.length n))∧((List.take (Int.toNat (d10.2-(0:Int))) (List.drop (Int.toNat (0:Int)) n)).length≤1000000∧∀ x∈(List.take (Int.toNat (d10.2-(0:Int))) (List.drop (Int.toNat (0:Int)) n)),(fun (x2:Int×Int)=>True) x)∧(((List.take (Int.toNat (d10.2-(0:Int))) (List.drop (Int.toNat (0:Int)) n)).any (fun (x2:Int×Int)=>(x2.1==((gD n d10.2 (0,0)).1))))=true →
        ((True∧d10.2=(JW l tl n)∧(6:Int)=(Zg l tl n)∧(([]:List SV)=[]))∧(((KZ l tl n)=[]∧(KZ l tl n).isEmpty=true)∧True))) ∧
       (((List.take (Int.toNat (d10.2-(0:Int))) (List.drop (Int.toNat (0:Int)) n)).any (fun (x2:Int×Int)=>(x2.1==((gD n d10.2 (0,0)).1))))=false →
        (l.length≤12∧(∀ y∈l,X6 y=true))∧(((if (QB l tl ((gD n d10.2 (0,0)).1) ((gD n d10.2 (0,0)).2) (2 ^ l.length)).isEmpty then 7 else 0) != (0:Int))=true →
         ((True∧d10.2=(JW l tl n)∧(if (QB l tl ((gD n d10.2 (0,0)).1) ((gD n d10.2 (0,0)).2) (2 ^ l.length)).isEmpty then 7 else 0)=(Zg l tl n)∧(([]:List SV)=[]))∧(((KZ l tl n)=[]∧(KZ l tl n).isEmpty=true)∧True))) ∧
        (((if (QB l tl ((gD n d10.2 (0,0)).1) ((gD n d10.2 (0,0)).2) (2 ^ l.length)).isEmpty then 7 else 0) != (0:Int))=false →
         (((List.length d10.1)+(List.length [(QB l tl ((gD n d10.2 (0,0)).1) ((gD n d10.2 (0,0)).2) (2 ^ l.length))]))*24≤70368744177664)∧(I64 (d10.2+(1:Int)))∧(∃ d11:(List (List Int))×Int,((n=n∧True∧True∧n=n∧(lI n)=(lI n)∧(d10.2+(1:Int))=d11.2∧True)∧(((d10.1++[(QB l tl ((gD n d10.2 (0,0)).1) ((gD n d10.2 (0,0)).2) (2 ^ l.length))])=d11.1∧false=(List.isEmpty d11.1))∧(l=l∧tl=tl∧(([]:List SV)=[]))∧True))∧qH d11))))) ∧
     ((decide (d10.2<(lI n)))=false →
      ((True∧(0:Int)=(JW l tl n)∧(0:Int)=(Zg l tl n)∧(([]:List SV)=[]))∧((d10.1=(KZ l tl n)∧(List.isEmpty d10.1)=(KZ l tl n).isEmpty)∧True)))) d100)))
def DT:Cx:=⟨[(3,(.i .i64)),(34,(.list (.i .i64)))],[(57,JL),(58,Zf),(52,Wg),(53,Qi),(54,Vu),(55,Jt)],61,[6,57,58],0,[(51,N5)],[],[(34,3)],[],false,[],[],[],[]⟩
def Ba (l:List (Int×(Int×Int)×Int)) (tl:Int) (n:List (Int×Int)):List (Nat×LoopAnn):=[(1,⟨Unit,(List (List Int))×Int,[2,6,9,28,29,30],fun e x=>[.val (.list (.pair (.i .i64) (.i .i64))) n,.lst 58,.box 9 0,.val (.list (.pair (.i .i64) (.i .i64))) n,.val (.i .i64) (((List.length n):Nat):Int),.val (.i .i64) x.2],fun e x=>[(58,.slot 6,.lst 34 (.list (.i .i64)) x.1 (List.isEmpty x.1)),(9,.slot 9,.cells [.val (.list (.pair (.i .i64) (.pair (.pair (.i .i64) (.i .i64)) (.i .i64)))) l,.val (.i .i64) tl] (some 113))]⟩)]
set_option maxRecDepth 100000 in
theorem C1 (d:(List (Int×(Int×Int)×Int))×Int×List (Int×Int)):gwp (DT) (Ba d.1 d.2.1 d.2.2) c20 0 (Ws [.tmp 6,.tmp 7,.tmp 8] (Gm d) (GL d)) (Qk 61 (AL.can B7 d))=Ke d.1 d.2.1 d.2.2:=by kernel_rfl
def ML:XSp:=callV Q11 A4
abbrev LM:Prop:=XOk Tryz.prog 20 ML
theorem LK (h:∀ (l:List (Int×(Int×Int)×Int)) (tl:Int) (n:List (Int×Int)),(l.length≤1000∧n.length≤1000)→Ke l tl n):XOk Tryz.prog 20 ML :=
 Q04 Q6e mixed FT (C:=DT) ⟨(.cons Wi (.cons J6 (.cons US (.cons Zu (.cons TR (.cons YA .nil)))))),(XsOk.cons Mk XsOk.nil),ItsOk.nil,YlOk.nil,IysOk.nil,XfOk.nil⟩ (L:=fun (d:(List (Int×(Int×Int)×Int))×Int×List (Int×Int))=>Ba d.1 d.2.1 d.2.2) (V:=fun (d:(List (Int×(Int×Int)×Int))×Int×List (Int×Int))=>Ke d.1 d.2.1 d.2.2) (C1) fun d hp=>h d.1 d.2.1 d.2.2 hp
end Go.Proofs.Tryz
set_option linter.unusedVariables false
namespace Go.Proofs.Tryz
open Go Go.V Go.Proofs
theorem Sy:LM:=LK fun l tl n h=>by
 obtain⟨h1,h2⟩:=h;unfold Ke;(try delta lI gD sT I64);have e:∀ n a b:Int,(decide (n<a)||decide (b<n))=!inI n a b:=fun n a b=>(nIb n a b).symm;simp only[List.any_cons,List.any_nil,Bool.or_false,e,Bool.not_not,List.length_cons,List.length_nil,Q7j,Bool.true_eq_false,true_and,and_true,exists_const,decide_eq_true_eq,decide_eq_false_iff_not,beq_iff_eq,bne_iff_ne,ne_eq,bne_eq_false_iff_eq,Bool.not_eq_true',Bool.not_eq_false',gt_iff_lt,false_implies,Bool.or_false,implies_true,forall_const];have wo:U7 l tl n≠0→∀ a c,a=0→c=U7 l tl n→(a=JW l tl n∧c=Zg l tl n)∧KZ l tl n=[]∧(KZ l tl n).isEmpty=true:=fun ho a c ha hc=>by obtain⟨e1,e2,e3⟩:=Q0t ho;rw[e1,e2,e3];exact⟨⟨ha,hc⟩,rfl,rfl⟩
 have oo:Z6 l tl≠0→U7 l tl n=Z6 l tl:=fun h=>by unfold U7;rw[if_pos h]
 refine⟨h1,fun _=>by omega,fun hx=>?_,fun hx=>⟨fun hy=>?_,fun hy=>⟨fun hz=>?_,fun hz=>?_⟩⟩⟩
 ·simp only[Bool.and_eq_true,beq_iff_eq,Bool.not_eq_true'] at hx;have o:Z6 l tl=3:=by unfold Z6;rw[if_neg (by omega),hx.2];rfl
  exact wo (by rw[oo (by omega)];omega) _ _ rfl (by rw[oo (by omega)];omega)
 ·have o:Z6 l tl=Qu l:=by unfold Z6;rw[if_pos hy]
  exact wo (by rw[oo (by omega)];omega) _ _ rfl (by rw[oo (by omega)];omega)
 ·have o:Z6 l tl=0:=by
   unfold Z6;rw[if_neg (by omega),if_neg];intro h2;rw[hy,h2] at hx;cases hx
  have o2:U7 l tl n=5:=by unfold U7;rw[if_neg (by omega),if_pos (by omega)]
  exact wo (by omega) _ _ rfl o2.symm
 ·have o:Z6 l tl=0:=by
   unfold Z6;rw[if_neg (by omega),if_neg];intro h2;rw[hy,h2] at hx;cases hx
  have o2:U7 l tl n=0:=by unfold U7;rw[if_neg (by omega),if_neg (by omega)]
  obtain⟨z1,z2⟩:=Pk hy;refine⟨([],0),(by and_intros<;>first|rfl|trivial|simp),?_⟩;refine LoopP.count2 n.length (fun k L=>L=Oe l tl n k∧∀ j,j<k→D9 l tl n j=0) ⟨rfl,fun j hj=>by omega⟩ fun k L hk hJ q hq=>?_;obtain⟨rfl,j2⟩:=hJ;dsimp only;simp only[Int.toNat_natCast,Int.sub_zero,Int.toNat_zero,List.drop_zero];refine⟨fun ah=>?_,fun a9=>?_⟩
  ·have aM:k<n.length:=by omega
   have wa:D9 l tl n k≠0→∀ c,c=D9 l tl n k→((k:Int)=JW l tl n∧c=Zg l tl n)∧KZ l tl n=[]∧(KZ l tl n).isEmpty=true:=fun hw c hc=>by obtain⟨e1,e2,e3⟩:=Q1h o2 j2 aM hw;rw[e1,e2,e3];exact⟨⟨rfl,hc⟩,rfl,rfl⟩
   have hL:=Ef (l:=l) (tl:=tl) (n:=n) (k:=k) (by omega);refine⟨by omega,ah,fun a=>?_,fun a=>⟨by omega,by omega,by omega,by rw[List.length_take];omega,fun b=>?_,fun b=>⟨⟨z1,z2⟩,fun c=>?_,fun c=>⟨by omega,by rw[Z1];omega,(Oe l tl n (k+1),(k:Int)+1),⟨rfl,(Cl aM).symm,(Sv aM).symm⟩,hq _ aM ⟨rfl,fun j hj=>?_⟩⟩⟩⟩⟩
   ·have w:D9 l tl n k=2:=by unfold D9;rw[if_pos a]
    exact wa (by omega) _ w.symm
   ·have w:D9 l tl n k=6:=by unfold D9;rw[if_neg (by rw[a];decide),if_pos b]
    exact wa (by omega) _ w.symm
   ·have w:D9 l tl n k=if (QB l tl (n.getD k (0,0)).1 (n.getD k (0,0)).2 (2 ^ l.length)).isEmpty=true then 7 else 0:=by unfold D9;rw[if_neg (by rw[a];decide),if_neg (by rw[b];decide)]
    exact wa (by rw[w];exact c) _ w.symm
   ·rcases Nat.lt_succ_iff_lt_or_eq.1 hj with hj|rfl
    ·exact j2 j hj
    ·unfold D9;rw[if_neg (by rw[a];decide),if_neg (by rw[b];decide)];exact c
  ·have:k=n.length:=by omega
   subst this;obtain⟨e1,e2,e3⟩:=Ol o2 j2;rw[e1,e2,e3];exact(by and_intros<;>first|rfl|trivial|simp)
end Go.Proofs.Tryz
set_option linter.unusedVariables false
namespace Go.Proofs.Tryz
open Go Go.V Go.Proofs
def Bk:List Bool→Nat
 |[]=>0
 |b::l=>2*Bk l+(if b then 1 else 0)
theorem GD:∀ (l:List Bool) (k:Nat),(Bk l).testBit k=l.getD k false
 |[],k=>by simp[Bk]
 |b::l,0=>by simp only[Bk,Nat.testBit_zero,List.getD_cons_zero];cases b<;>simp<;>omega
 |b::l,k+1=>by simp only[Bk,List.getD_cons_succ,←GD l k,Nat.testBit_succ];congr 1;cases b<;>simp<;>omega
theorem E4:∀ (l:List Bool),Bk l<2 ^ l.length
 |[]=>by simp[Bk]
 |b::l=>by have:=E4 l;simp only[Bk,List.length_cons,Nat.pow_succ];cases b<;>simp<;>omega
theorem GY {lw:List Int}{w:Nat}(hw:w<lw.length):lw.getD w 0∈lw:=by rw[Q8 hw];exact List.getElem_mem hw
theorem Q9b (a b:Nat):Int.tmod (a:Int) (b:Int)=((a % b:Nat):Int):=rfl
def WD (ds:List (Int×List Int)):Int:=match ds.find? (fun d=>decide (Q5 d.1 d.2≠0)) with|some d=>Q5 d.1 d.2|none=>0
def NT (n:Nat) (q:Nat→Bool):Nat:=Bk ((List.range n).map q)
def DB (pk hk:Nat) (p:Int×Int→Bool):List Int:=(List.range pk).map fun (i:Nat)=>((NT hk (fun j=>p ((i:Int),(j:Int))):Nat):Int)
theorem Fm:∀ (l:List Bool) (b:Bool),Bk (l++[b])=Bk l ||| (if b then 1 <<< l.length else 0):=by
 intro l b;refine Nat.eq_of_testBit_eq fun k=>?_;rw[GD,Nat.testBit_or,GD];rcases Nat.lt_trichotomy k l.length with h|h|h
 ·rw[List.getD_eq_getElem?_getD,List.getElem?_append_left h,←List.getD_eq_getElem?_getD];cases b
  ·simp
  ·simp only[if_true,Nat.one_shiftLeft,Nat.testBit_two_pow];have:¬ l.length=k:=by omega
   simp[this]
 ·subst h;cases b
  ·simp[List.getD_eq_getElem?_getD]
  ·simp[List.getD_eq_getElem?_getD,Nat.one_shiftLeft]
 ·have h1:(l++[b]).getD k false=false:=by
   rw[List.getD_eq_getElem?_getD,List.getElem?_eq_none (by simp;omega)];rfl
  have h2:l.getD k false=false:=by rw[List.getD_eq_getElem?_getD,List.getElem?_eq_none (by omega)];rfl
  rw[h1,h2];cases b
  ·simp
  ·simp only[if_true,Nat.one_shiftLeft,Nat.testBit_two_pow];have:¬ l.length=k:=by omega
   simp[this]
theorem EC (n:Nat) (q:Nat→Bool):NT (n+1) q=NT n q ||| (if q n then 1 <<< n else 0):=by unfold NT;rw[List.range_succ,List.map_append,List.map_cons,List.map_nil,Fm];simp
theorem RS (n:Nat) (q:Nat→Bool):NT n q<2 ^ n:=by have:=E4 ((List.range n).map q);simpa [NT] using this
theorem FQ {n:Nat}{q:Nat→Bool}{k:Nat}(h:k<n):(NT n q).testBit k=q k:=by unfold NT;rw[GD,Q8 (by simpa using h)];simp
theorem Kj (pk hk:Nat) (p:Int×Int→Bool):(DB pk hk p).length=pk:=by simp[DB]
theorem DC {pk hk:Nat}{p:Int×Int→Bool}{i:Nat}(h:i<pk):(DB pk hk p).getD i 0=((NT hk (fun j=>p ((i:Int),(j:Int))):Nat):Int):=by rw[Q8 (by rw[Kj];exact h)];simp[DB]
theorem R7 (a b:Int×List Int):WD [a,b]=if Q5 a.1 a.2≠0 then Q5 a.1 a.2 else Q5 b.1 b.2:=by unfold WD;by_cases h1:Q5 a.1 a.2=0<;>by_cases h2:Q5 b.1 b.2=0<;>simp[h1,h2]
def pcN (n x:Nat):Nat:=((List.range n).filter fun k=>x.testBit k).length
def swA (x:Nat):Nat:=((x >>> 1) &&& 6148914691236517205)+(x &&& 6148914691236517205)
def swB (x:Nat):Nat:=((x >>> 2) &&& 3689348814741910323)+(x &&& 3689348814741910323)
def swC (x:Nat):Nat:=((x >>> 4)+x) &&& 1085102592571150095
def swD (x:Nat):Nat:=x+(x >>> 8)
def swE (x:Nat):Nat:=x+(x >>> 16)
def swF (x:Nat):Nat:=x+(x >>> 32)
def swN (x:Nat):Nat:=swF (swE (swD (swC (swB (swA x))))) &&& 127
theorem ZF {h l M m k:Nat}(hl:l<2 ^ 8) (hk:k≤8) (hm:m<2 ^ (8-k)):((2 ^ 8*h+l) >>> k) &&& (2 ^ 8*M+m)=2 ^ 8*((h >>> k) &&& M)+((l >>> k) &&& m):=by
 have sL:m<2 ^ 8:=Nat.lt_of_lt_of_le hm (Nat.pow_le_pow_right (by omega) (by omega));refine Nat.eq_of_testBit_eq fun j=>?_;have qI:(l >>> k) &&& m<2 ^ 8:=Nat.lt_of_le_of_lt Nat.and_le_right sL;rw[Nat.testBit_and,Nat.testBit_shiftRight,Nat.testBit_two_pow_mul_add _ hl,Nat.testBit_two_pow_mul_add _ sL,Nat.testBit_two_pow_mul_add _ qI];by_cases h1:j<8
 ·rw[if_pos h1,if_pos h1,Nat.testBit_and,Nat.testBit_shiftRight];by_cases h2:k+j<8
  ·rw[if_pos h2]
  ·have:m.testBit j=false:=Nat.testBit_lt_two_pow (Nat.lt_of_lt_of_le hm (Nat.pow_le_pow_right (by omega) (by omega)));rw[this,Bool.and_false,Bool.and_false]
 ·rw[if_neg h1,if_neg h1,if_neg (by omega),Nat.testBit_and,Nat.testBit_shiftRight];congr 2;omega
theorem IU {h l:Nat}(hl:l<2 ^ 8):swA (2 ^ 8*h+l)=2 ^ 8*(((h >>> 1) &&& 24019198012642645)+(h &&& 24019198012642645))+(((l >>> 1) &&& 85)+(l &&& 85)):=by
 have h1:=ZF (h:=h) (M:=24019198012642645) (m:=85) (k:=1) hl (by omega) (by decide);have h2:=ZF (h:=h) (M:=24019198012642645) (m:=85) (k:=0) hl (by omega) (by decide);rw[Nat.shiftRight_zero,Nat.shiftRight_zero,Nat.shiftRight_zero] at h2;have e:(6148914691236517205:Nat)=2 ^ 8*24019198012642645+85:=by decide
 unfold swA;rw[e,h1,h2,Nat.mul_add];omega
theorem Om {h l:Nat}(hl:l<2 ^ 8):swB (2 ^ 8*h+l)=2 ^ 8*(((h >>> 2) &&& 14411518807585587)+(h &&& 14411518807585587))+(((l >>> 2) &&& 51)+(l &&& 51)):=by
 have h1:=ZF (h:=h) (M:=14411518807585587) (m:=51) (k:=2) hl (by omega) (by decide);have h2:=ZF (h:=h) (M:=14411518807585587) (m:=51) (k:=0) hl (by omega) (by decide);rw[Nat.shiftRight_zero,Nat.shiftRight_zero,Nat.shiftRight_zero] at h2;have e:(3689348814741910323:Nat)=2 ^ 8*14411518807585587+51:=by decide
 unfold swB;rw[e,h1,h2,Nat.mul_add];omega
theorem Q35:∀ b:Fin 256,∃ p q:Fin 5,swB (swA b.val)=16*q.val+p.val∧q.val+p.val=pcN 8 b.val:=by decide +kernel
theorem Gx (n x:Nat):pcN (n+1) x=pcN n x+(if x.testBit n then 1 else 0):=by
 unfold pcN;rw[List.range_succ,List.filter_append,List.length_append];by_cases h:x.testBit n=true
 ·simp[h]
 ·simp[h]
theorem Q1s {h l:Nat}(hl:l<2 ^ 8):∀ n,n≤8→pcN n (2 ^ 8*h+l)=pcN n l
 |0,_=>rfl
 |n+1,hn=>by rw[Gx n (2 ^ 8*h+l),Gx n l,Q1s hl n (by omega),Nat.testBit_two_pow_mul_add _ hl,if_pos (show n<8 by omega)]
theorem Pr {h l:Nat}(hl:l<2 ^ 8):∀ n,pcN (n+8) (2 ^ 8*h+l)=pcN n h+pcN 8 l
 |0=>by rw[Nat.zero_add,Q1s hl 8 (Nat.le_refl _)];simp[pcN]
 |n+1=>by rw[show n+1+8=(n+8)+1 by omega,Gx (n+8),Pr hl n,Gx n h,Nat.testBit_two_pow_mul_add _ hl,if_neg (show ¬ n+8<8 by omega),Nat.add_sub_cancel];omega
theorem O7 (n x:Nat):pcN n x≤n:=by have:=List.length_filter_le (fun k=>x.testBit k) (List.range n);unfold pcN;simpa using this
theorem nib {a b c d e f:Nat}(ha:a<16) (hb:b<16) (hc:c<16) (hd:d<16) (he:e<16) (hf:f<16):(a+16*b+256*c+4096*d+65536*e+1048576*f) &&& 1085102592571150095=a+256*c+65536*e:=by
 have key:∀ {m:Nat}(h l M:Nat),l<2 ^ 4→m<2 ^ 4→(2 ^ 4*h+l) &&& (2 ^ 4*M+m)=2 ^ 4*(h &&& M)+(l &&& m):=fun {m} h l M hl hm=>by
  refine Nat.eq_of_testBit_eq fun j=>?_;have qI:l &&& m<2 ^ 4:=Nat.lt_of_le_of_lt Nat.and_le_right hm;rw[Nat.testBit_and,Nat.testBit_two_pow_mul_add _ hl,Nat.testBit_two_pow_mul_add _ hm,Nat.testBit_two_pow_mul_add _ qI];by_cases h1:j<4
  ·rw[if_pos h1,if_pos h1,if_pos h1,Nat.testBit_and]
  ·rw[if_neg h1,if_neg h1,if_neg h1,Nat.testBit_and]
 have k0:=key (m:=15) (b+16*c+256*d+4096*e+65536*f) a 67818912035696880 (by omega) (by decide);have k1:=key (m:=0) (c+16*d+256*e+4096*f) b 4238682002231055 (by omega) (by decide);have k2:=key (m:=15) (d+16*e+256*f) c 264917625139440 (by omega) (by decide);have k3:=key (m:=0) (e+16*f) d 16557351571215 (by omega) (by decide);have k4:=key (m:=15) f e 1034834473200 (by omega) (by decide);have k5:=key (m:=0) 0 f 64677154575 (by omega) (by decide);have an:∀ x:Nat,x<16→x &&& 15=x:=fun x hx=>by rw[show (15:Nat)=2 ^ 4-1 by decide,Nat.and_two_pow_sub_one_eq_mod];omega
 rw[Nat.and_zero,Nat.zero_and] at k5;rw[an e he] at k4;rw[Nat.and_zero] at k3;rw[an c hc] at k2;rw[Nat.and_zero] at k1;rw[an a ha] at k0;have e0:a+16*b+256*c+4096*d+65536*e+1048576*f=2 ^ 4*(b+16*c+256*d+4096*e+65536*f)+a:=by omega
 have e1:b+16*c+256*d+4096*e+65536*f=2 ^ 4*(c+16*d+256*e+4096*f)+b:=by omega
 have e2:c+16*d+256*e+4096*f=2 ^ 4*(d+16*e+256*f)+c:=by omega
 have e3:d+16*e+256*f=2 ^ 4*(e+16*f)+d:=by omega
 have e4:e+16*f=2 ^ 4*f+e:=by omega
 have e5:f=2 ^ 4*0+f:=by omega
 have m0:(1085102592571150095:Nat)=2 ^ 4*67818912035696880+15:=by decide
 have m1:(67818912035696880:Nat)=2 ^ 4*4238682002231055+0:=by decide
 have m2:(4238682002231055:Nat)=2 ^ 4*264917625139440+15:=by decide
 have m3:(264917625139440:Nat)=2 ^ 4*16557351571215+0:=by decide
 have m4:(16557351571215:Nat)=2 ^ 4*1034834473200+15:=by decide
 have m5:(1034834473200:Nat)=2 ^ 4*64677154575+0:=by decide
 have r4:f &&& 1034834473200=0:=by
  have:(2 ^ 4*0+f) &&& (2 ^ 4*64677154575+0)=0:=by rw[k5]
  rwa [←m5,Nat.mul_zero,Nat.zero_add] at this
 rw[r4] at k4;rw[e0,m0,k0,e1,m1,k1,e2,m2,k2,e3,m3,k3,e4,m4,k4];omega
theorem UP {x M m:Nat}(hx:x<256) (h:M % 256=m):x &&& M=x &&& m:=by
 refine Nat.eq_of_testBit_eq fun j=>?_;rw[Nat.testBit_and,Nat.testBit_and,←h,show 256=2 ^ 8 by decide,Nat.testBit_mod_two_pow];by_cases h1:j<8
 ·simp[h1]
 ·have:x.testBit j=false:=Nat.testBit_lt_two_pow (Nat.lt_of_lt_of_le hx (by rw[show 256=2 ^ 8 by decide];exact Nat.pow_le_pow_right (by omega) (by omega)));simp[this]
theorem An {b:Nat}(h:b<256):swA b=((b >>> 1) &&& 85)+(b &&& 85):=by unfold swA;rw[UP (m:=85) h (by decide),UP (m:=85) (x:=b >>> 1) (by rw[Nat.shiftRight_eq_div_pow];omega) (by decide)]
theorem I5 {b:Nat}(h:b<256):swB b=((b >>> 2) &&& 51)+(b &&& 51):=by unfold swB;rw[UP (m:=51) h (by decide),UP (m:=51) (x:=b >>> 2) (by rw[Nat.shiftRight_eq_div_pow];omega) (by decide)]
theorem O1 {b0 b1 b2:Nat}(h0:b0<256) (h1:b1<256) (h2:b2<256):swB (2 ^ 8*(2 ^ 8*b2+b1)+b0)=2 ^ 8*(2 ^ 8*swB b2+swB b1)+swB b0:=by have a0:=Om (h:=2 ^ 8*b2+b1) (l:=b0) (by omega);have a1:=ZF (h:=b2) (l:=b1) (M:=56294995342131) (m:=51) (k:=2) (by omega) (by omega) (by decide);have a2:=ZF (h:=b2) (l:=b1) (M:=56294995342131) (m:=51) (k:=0) (by omega) (by omega) (by decide);rw[Nat.shiftRight_zero,Nat.shiftRight_zero,Nat.shiftRight_zero,show 2 ^ 8*56294995342131+51=14411518807585587 by decide] at a2;rw[show 2 ^ 8*56294995342131+51=14411518807585587 by decide] at a1;rw[a0,a1,a2,I5 h0,I5 h1,I5 h2,UP (M:=56294995342131) (m:=51) h2 (by decide),UP (M:=56294995342131) (m:=51) (x:=b2 >>> 2) (by rw[Nat.shiftRight_eq_div_pow];omega) (by decide)];omega
theorem IW {b:Nat}(h:b<256):swA b<256:=by rw[An h];have h1:(b >>> 1) &&& 85≤85:=Nat.and_le_right;have h2:b &&& 85≤85:=Nat.and_le_right;omega
theorem Q5e {x:Nat}(h:x<16777216):swN x=pcN 24 x:=by
 obtain⟨b0,b1,b2,h0,h1,h2,rfl⟩:∃ b0 b1 b2,b0<256∧b1<256∧b2<256∧x=2 ^ 8*(2 ^ 8*b2+b1)+b0:=⟨x % 256,x / 256 % 256,x / 65536,by omega,by omega,by omega,by omega⟩;obtain⟨p0,q0,e0,s0⟩:=Q35 ⟨b0,h0⟩;obtain⟨p1,q1,e1,s1⟩:=Q35 ⟨b1,h1⟩;obtain⟨p2,q2,e2,s2⟩:=Q35 ⟨b2,h2⟩;dsimp only at e0 e1 e2 s0 s1 s2;have hp:pcN 24 (2 ^ 8*(2 ^ 8*b2+b1)+b0)=pcN 8 b2+pcN 8 b1+pcN 8 b0:=by rw[show 24=(8+8)+8 by omega,Pr (by omega),Pr (by omega)]
 have hA:swA (2 ^ 8*(2 ^ 8*b2+b1)+b0)=2 ^ 8*(2 ^ 8*swA b2+swA b1)+swA b0:=by have a0:=IU (h:=2 ^ 8*b2+b1) (l:=b0) (by omega);have a1:=ZF (h:=b2) (l:=b1) (M:=93824992236885) (m:=85) (k:=1) (by omega) (by omega) (by decide);have a2:=ZF (h:=b2) (l:=b1) (M:=93824992236885) (m:=85) (k:=0) (by omega) (by omega) (by decide);rw[Nat.shiftRight_zero,Nat.shiftRight_zero,Nat.shiftRight_zero,show 2 ^ 8*93824992236885+85=24019198012642645 by decide] at a2;rw[show 2 ^ 8*93824992236885+85=24019198012642645 by decide] at a1;rw[a0,a1,a2,An h0,An h1,An h2,UP (M:=93824992236885) (m:=85) h2 (by decide),UP (M:=93824992236885) (m:=85) (x:=b2 >>> 1) (by rw[Nat.shiftRight_eq_div_pow];omega) (by decide)];omega
 have hz:swB (swA (2 ^ 8*(2 ^ 8*b2+b1)+b0))=65536*(16*q2.val+p2.val)+256*(16*q1.val+p1.val)+(16*q0.val+p0.val):=by rw[hA,O1 (IW h0) (IW h1) (IW h2),e0,e1,e2];omega
 rw[hp,←s0,←s1,←s2];unfold swN;rw[hz];have vf:=p0.isLt;have gw:=p1.isLt;have dG:=p2.isLt;have wh:=q0.isLt;have wi:=q1.isLt;have nu:=q2.isLt;generalize p0.val=u0 at *;generalize p1.val=u1 at *;generalize p2.val=u2 at *
 generalize q0.val=v0 at *;generalize q1.val=v1 at *;generalize q2.val=v2 at *
 have hC:swC (65536*(16*v2+u2)+256*(16*v1+u1)+(16*v0+u0))=(v0+u0)+256*(v1+u1)+65536*(v2+u2):=by have:=nib (a:=v0+u0) (b:=u1+v0) (c:=v1+u1) (d:=u2+v1) (e:=v2+u2) (f:=v2) (by omega) (by omega) (by omega) (by omega) (by omega) (by omega);unfold swC;rw[←this,Nat.shiftRight_eq_div_pow];congr 1;omega
 rw[hC,show (127:Nat)=2 ^ 7-1 by decide,Nat.and_two_pow_sub_one_eq_mod];unfold swF swE swD;simp only[Nat.shiftRight_eq_div_pow];obtain⟨w0,k0,l0⟩:∃ w,v0+u0=w∧w≤8:=⟨_,rfl,by omega⟩;obtain⟨w1,k1,l1⟩:∃ w,v1+u1=w∧w≤8:=⟨_,rfl,by omega⟩;obtain⟨w2,k2,l2⟩:∃ w,v2+u2=w∧w≤8:=⟨_,rfl,by omega⟩;rw[k0,k1,k2];clear hz hC hp hA e0 e1 e2 s0 s1 s2;have d1:(w0+256*w1+65536*w2) / 2 ^ 8=w1+256*w2:=by omega
 rw[d1];have d2:(w0+256*w1+65536*w2+(w1+256*w2)) / 2 ^ 16=w2:=by omega
 rw[d2];have d3:(w0+256*w1+65536*w2+(w1+256*w2)+w2) / 2 ^ 32=0:=by omega
 rw[d3];omega
end Go.Proofs.Tryz