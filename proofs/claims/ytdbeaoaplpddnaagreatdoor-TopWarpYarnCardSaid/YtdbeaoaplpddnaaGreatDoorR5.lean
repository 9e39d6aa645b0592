/- A framework for walks, contracts of functions, and their proofs: part 5. -/
import Derived.ProofKit
import Derived.OpenShut
import Derived.LaidMore
import Derived.Carry
import Derived.Lib.SmallJoins
import Derived.Deep.Slices
import Derived.Test.YtdbeaoaplpddnaaGreatDoorR4
namespace Go.V
open Go
section
variable {P:Program}{B F:Heap}{pl:Nat→Value}{tb:Nat→Option Bool}{s:St}{env:Env}{σ:Heap}
theorem YZ {k k':Kind}{xs:List k.T}{ys:List k'.T}(h:VK (k:=.list k) xs (k':=.list k') ys):∃ e:k'=k,e▸ys=xs:=by
 unfold VK at h;split at h
 ·rename_i z hz;have e:=Bh hz;obtain rfl:=Kind.list.inj e;obtain rfl:=BG hz;exact⟨rfl,h⟩
 ·exact h.elim
theorem QT (hG:Gam P B F pl tb s env σ) {mp:List (Nat×Option Nat)}{t:Nat}{b:OB}(h:Ab s mp t b) :
  OR P B (VS pl mp) Jm σ (VS pl mp t) b∧(b.live=true→∀ i,Oid (VS pl mp t) i→∃ a,Qs mp t=some (some a)∧(Qg s.own a).live=true∧Oid (pl a) i):=by
 unfold Ab at h;split at h
 ·rename_i a ha;have aS:VS pl mp t=pl a:=by simp[VS,ha]
  rw[aS];have ao:=hG.obj a;split at h
  ·exact⟨trivial,fun h=>by cases h⟩
  ·rename_i ty k xs nl lE k' cr kC ho;split at h
   ·rename_i e;subst e;obtain⟨h1,rfl⟩:=h;obtain⟨rfl,rfl⟩:=YZ h1;rw[ho] at ao;exact⟨ao,fun _ i hi=>⟨a,ha,by rw[ho];rfl,hi⟩⟩
   ·exact h.elim
  ·rename_i l u l' u' ho;split at h
   ·rename_i e0;subst e0;rw[ho] at ao;obtain⟨i,c,e,t',h1,h2,h3,h4⟩:=ao;exact⟨⟨i,c,e,t',h1,h2,ZB l l' c h h3,h4⟩,fun _ i hi=>⟨a,ha,by rw[ho];rfl,hi⟩⟩
   ·exact h.elim
  ·rename_i kk vk m kD mP m' ho;split at h
   ·obtain⟨e,h1⟩:=YZ h;obtain⟨rfl,rfl⟩:=Kind.pair.inj e;subst h1;rw[ho] at ao;exact⟨ao,fun _ i hi=>⟨a,ha,by rw[ho];rfl,hi⟩⟩
   ·exact h.elim
  ·rename_i l vals l' jE ho;rw[ho] at ao;obtain⟨rfl,h⟩:=h;exact⟨ZB l l' vals h ao,fun h=>by cases h⟩
  ·rename_i l q u l' q' u' ho;rw[ho] at ao;split at h
   ·obtain⟨rfl,h⟩:=h;exact⟨⟨ao.1,ZB l l' q.vals h ao.2.1,ao.2.2⟩,fun _ i hi=>⟨a,ha,by rw[ho];rfl,hi⟩⟩
   ·obtain⟨rfl,h⟩:=h;exact⟨⟨ao.1,ZB l l' q.vals h ao.2.1,ao.2.2⟩,fun h=>by cases h⟩
   ·exact h.elim
  ·rename_i kk vk m dn kD mP m' qZ ho;split at h
   ·obtain⟨h,rfl⟩:=h;obtain⟨e,h1⟩:=YZ h;obtain⟨rfl,rfl⟩:=Kind.pair.inj e;subst h1;rw[ho] at ao;exact⟨ao,fun _ i hi=>⟨a,ha,by rw[ho];rfl,hi⟩⟩
   ·exact h.elim
  ·rename_i ty q k xs nl h0 lE q' k' cr kC qM ho;split at h
   ·rename_i e;obtain⟨rfl,rfl⟩:=e;split at h
    ·obtain⟨h1,rfl⟩:=h;obtain⟨rfl,rfl⟩:=YZ h1;rw[ho] at ao;exact⟨ao,fun _ i hi=>⟨a,ha,by rw[ho];rfl,hi⟩⟩
    ·exact h.elim
   ·exact h.elim
  ·exact h.elim
 ·rename_i ha;have aS:VS pl mp t=.slice none 0 0:=by simp[VS,ha]
  rw[aS];split at h
  ·exact⟨.inl ⟨h.2,h.1,rfl⟩,fun _ i hi=>by cases hi⟩
  ·split at h
   ·obtain⟨rfl,rfl⟩:=h;refine⟨⟨[],fun i=>⟨fun h=>(by cases h),fun ⟨b,h⟩=>(by cases h)⟩,List.nodup_nil,.inl ⟨rfl,rfl,rfl⟩,fun i=>⟨fun ⟨b,h⟩=>(by cases h),fun h=>(by cases h)⟩,(fun i b h=>by cases h),by simp[phd]⟩,fun _ i hi=>by cases hi⟩
   ·exact h.elim
  ·exact h.elim
 ·exact h.elim
theorem Y5 {α:Type _}(l:List (Nat×α)) (t:Nat) (x:α) (d:Nat):Qs (l++[(t,x)]) d=match Qs l d with|some y=>some y|none=>if t=d then some x else none:=by
 induction l with
 |nil =>
  simp only[List.nil_append,Qs];by_cases h:t=d
  ·subst h;simp
  ·rw[X6 h];simp[h]
 |cons p l ih =>obtain⟨k,y⟩:=p;simp only[List.cons_append,Qs,ih];cases Nat.beq k d<;>rfl
theorem T2 {α:Type _}{l:List (Nat×α)}{d:Nat}{x:α}(h:Qs l d=some x):∃ p∈l,p.1=d∧p.2=x:=by
 induction l with
 |nil=>cases h
 |cons p l ih =>
  obtain⟨k,y⟩:=p;simp only[Qs] at h;cases hb:Nat.beq k d with
  |true=>rw[hb] at h;obtain rfl:=osj h;exact⟨_,List.mem_cons_self,Nat.eq_of_beq_eq_true hb,rfl⟩
  |false =>rw[hb] at h;obtain⟨p,h1,h2⟩:=ih h;exact⟨p,List.mem_cons_of_mem _ h1,h2⟩
def Inj (mp:List (Nat×Option Nat)):Prop:=∀ t t' a,Qs mp t=some (some a)→Qs mp t'=some (some a)→t=t'
theorem MU:∀ (l:List (Nat×Src)) (mp bR:List (Nat×Option Nat)),Ok s l mp=some bR→Inj mp→Inj bR
 |[],mp,bR,h,hi=>by obtain rfl:=osj h;exact hi
 |(t,src)::r,mp,bR,h,hi=>by
  simp only[Ok] at h;split at h
  ·rename_i a _;split at h
   ·cases h
   ·rename_i hc;refine MU r _ _ h ?_;have cD:∀ d,Qs mp d≠some (some a):=fun d hd=>by
     obtain⟨p,h1,h2,h3⟩:=T2 hd;apply hc;simp only[Bool.or_eq_true];exact .inl (List.any_eq_true.2 ⟨p,h1,by rw[h3];simp⟩)
    intro t1 t2 a' h1 h2;rw[Y5] at h1 h2;split at h1
    ·rename_i y1 e1;split at h2
     ·rename_i y2 e2;obtain rfl:=osj h1;obtain rfl:=osj h2;exact hi t1 t2 a' e1 e2
     ·split at h2
      ·obtain rfl:=osj (osj h2);obtain rfl:=osj h1;exact absurd e1 (cD t1)
      ·cases h2
    ·split at h1
     ·rename_i e1;obtain rfl:=osj (osj h1);split at h2
      ·rename_i y2 e2;obtain rfl:=osj h2;exact absurd e2 (cD t2)
      ·split at h2
       ·rename_i e2;omega
       ·cases h2
     ·cases h1
  ·split at h
   ·cases h
   ·refine MU r _ _ h ?_;intro t1 t2 a' h1 h2;rw[Y5] at h1 h2;split at h1
    ·rename_i y1 e1;split at h2
     ·rename_i y2 e2;obtain rfl:=osj h1;obtain rfl:=osj h2;exact hi t1 t2 a' e1 e2
     ·split at h2<;>cases h2
    ·split at h1<;>cases h1
  ·cases h
theorem H4 {mp:List (Nat×Option Nat)}:∀ {ow:List (Nat×Src×OB)},gmatch.obs s mp ow→∀ p∈ow,Ab s mp p.1 p.2.2
 |[],_,p,hp=>by cases hp
 |(t,src,b)::r,h,p,hp=>by
  simp only[gmatch.obs] at h;rcases List.mem_cons.1 hp with rfl|hp
  ·exact h.1
  ·exact H4 h.2 p hp
theorem Yx {f:List (Nat×Src×OB)}:∀ (own:Own) (t:Nat),(∃ p∈f,p.1=t∧Qg (f.foldl (fun o p=>oset o p.1 p.2.2) own) t=p.2.2)∨Qg (f.foldl (fun o p=>oset o p.1 p.2.2) own) t=Qg own t:=by
 induction f with
 |nil=>intro own t;exact .inr rfl
 |cons p f ih =>
  intro own t;simp only[List.foldl_cons];rcases ih (oset own p.1 p.2.2) t with⟨q,h1,h2⟩|h
  ·exact .inl ⟨q,List.mem_cons_of_mem _ h1,h2⟩
  ·rw[h,Qv];by_cases e:t=p.1
   ·rw[if_pos e];exact .inl ⟨p,List.mem_cons_self,e.symm,rfl⟩
   ·rw[if_neg e];exact .inr rfl
theorem GU (hG:Gam P B F pl tb s env σ) {mp:List (Nat×Option Nat)}:∀ (st:List (Nat×SV)) {e:List SV}{eV:Env},gmatch.slots s mp st→SRs P B (VS pl mp) Jm e eV→SRs P B (VS pl mp) Jm (st.foldl (fun e p=>e.set p.1 p.2) e) (Jv (st.map (·.1)) (N6 (st.map (·.1)) env) eV)
 |[],e,eV,_,h=>h
 |(j,v)::r,e,eV,hs,h=>by simp only[gmatch.slots] at hs;simp only[List.foldl_cons,List.map_cons,N6,Jv];exact GU hG r hs.2 (h.set j (Vf v _ _ hs.1 (hG.env.getD j poison)))
theorem Ls {B:Heap}{pl:Nat→Value}{tb:Nat→Option Bool}:∀ n,SRs P B pl tb (List.replicate n .any) (List.replicate n poison)
 |0=>by simp[SRs]
 |n+1=>by simp only[List.replicate_succ,SRs];exact⟨_,_,rfl,by simp[SR],Ls n⟩
theorem Ml {B0 F0 D0:Heap}(hR:GRel P B0 F0 D0 s env σ) {st:List (Nat×SV)}{ow:List (Nat×Src×OB)}(h:gmatch s st ow) (len:Nat):GRel P B0 F0 D0 (Q_ len st ow) (Jv (st.map (·.1)) (N6 (st.map (·.1)) env) (List.replicate len poison)) σ:=by
 obtain⟨B,F,pl,tb,hB,hG⟩:=hR;unfold gmatch at h;split at h
 ·rename_i mp nr;obtain⟨h1,h2⟩:=h;have ep:=MU _ _ _ nr (fun t t' a h=>by cases h);have aM:=H4 h2;have ao:∀ t,(Qg (Q_ len st ow).own t).live=true→Ab s mp t (Qg (Q_ len st ow).own t):=fun t hl=>by
   rcases Yx (f:=ow) [] t with⟨p,h3,h4,h5⟩|h3
   ·have:=aM p h3;rw[h4,←h5] at this;exact this
   ·simp only[Q_] at hl;rw[h3] at hl;cases hl
  refine⟨B,F,VS pl mp,Jm,hB,hG.bf,hG.le,GU hG st h1 (Ls len),fun t=>?_,fun t i hl hi=>?_,fun t t' i aC hl cg hi cn=>?_,fun _ _=>rfl⟩
  ·cases hl:(Qg (Q_ len st ow).own t).live with
   |true=>exact(QT hG (ao t hl)).1
   |false =>
    cases ho:Qg (Q_ len st ow).own t with
    |dead=>trivial
    |stk l vals =>
     rcases Yx (f:=ow) [] t with⟨p,h3,h4,h5⟩|h3
     ·have:=aM p h3;simp only[Q_] at ho;rw[←h5,ho] at this;have h6:=(QT hG this).1;rw[h4] at h6;exact h6
     ·simp only[Q_] at ho;rw[h3] at ho;cases ho
    |lpf l q u =>
     rcases Yx (f:=ow) [] t with⟨p,h3,h4,h5⟩|h3
     ·have:=aM p h3;simp only[Q_] at ho;rw[←h5,ho] at this;have h6:=(QT hG this).1;rw[h4] at h6;exact h6
     ·simp only[Q_] at ho;rw[h3] at ho;cases ho
    |_=>rw[ho] at hl;cases hl
  ·obtain⟨a,_,h4,h5⟩:=(QT hG (ao t hl)).2 hl i hi;exact hG.fresh a i h4 h5
  ·obtain⟨a,e1,h4,h5⟩:=(QT hG (ao t hl)).2 hl i hi;obtain⟨a',e2,gb,nu⟩:=(QT hG (ao t' cg)).2 cg i cn;by_cases e:a=a'
   ·subst e;exact aC (ep t t' a e1 e2)
   ·exact hG.sep a a' i e h4 gb h5 nu
 ·exact h.elim
theorem M1:∀ {c_ cw:List SV}{vs:List Value}{B F:Heap}{s s':St},Gam P B F pl tb s env σ→SRs P B pl tb c_ vs→Fi s c_=some (s',cw) →
  ∃ B' F',GBase B F σ B' F' σ∧Gam P B' F' pl tb s' env σ∧SRs P B' X7 Jm cw vs∧s'.env=s.env
 |[],cw,vs,B,F,s,s',hG,hs,h=>by simp only[Fi,Option.some.injEq,Prod.mk.injEq] at h;obtain⟨rfl,rfl⟩:=h;exact⟨B,F,.of hG.bf (.refl _),hG,hs,rfl⟩
 |v::c_,cw,vs,B,F,s,s',hG,hs,h=>by
  simp only[SRs] at hs;obtain⟨u,us,rfl,h1,h2⟩:=hs
  have nw:∀ w:SV,SR P B pl tb w u→(bif w.pure then (match Fi s c_ with|some (s',r)=>some (s',w::r)|none=>none) else none)=some (s',cw) →
    ∃ B' F',GBase B F σ B' F' σ∧Gam P B' F' pl tb s' env σ∧SRs P B' X7 Jm cw (u::us)∧s'.env=s.env:=fun w hw h=>by
   cases hp:w.pure with
   |false=>rw[hp] at h;cases h
   |true =>
    rw[hp] at h;simp only[_root_.cond_true] at h;split at h
    ·rename_i s1 r heq;simp only[Option.some.injEq,Prod.mk.injEq] at h;obtain⟨rfl,rfl⟩:=h;obtain⟨B',F',k1,k2,k3,k4⟩:=M1 hG h2 heq;exact⟨B',F',k1,k2,by simp only[SRs];exact⟨u,us,rfl,SR.mono k1.b (fun _ _ h=>h) _ _ (Bx w u hp hw),k3⟩,k4⟩
    ·cases h
  simp only[Fi] at h;split at h
  ·rename_i o;split at h
   ·rename_i l _ ho;cases hp:SVs.pure l with
    |false=>rw[hp] at h;cases h
    |true =>
     rw[hp] at h;simp only[_root_.cond_true] at h;split at h
     ·rename_i s1 r heq;simp only[Option.some.injEq,Prod.mk.injEq] at h;obtain⟨rfl,rfl⟩:=h;have ao:=hG.obj o;rw[ho] at ao;obtain⟨i,c,e,t,e1,e2,e3,_⟩:=ao;obtain⟨k1,k2⟩:=hG.freeze (o:=o) (i:=i) (by rw[ho];rfl) (by rw[e1];rfl);obtain⟨B',F',j1,j2,j3,j4⟩:=M1 k2 (SRs.mono k1.b (fun _ _ h=>h) _ _ h2) heq;refine⟨B',F',k1.trans j1,j2,?_,j4⟩;simp only[SRs];refine⟨u,us,rfl,?_,j3⟩;simp only[SR] at h1 ⊢;obtain⟨b,q1,q2⟩:=h1;rw[e1] at q1;obtain rfl:i=b:=by simpa using q1
      refine⟨i,c,e,true,t,j1.b.2 _ _ ?_,q2,SRs.mono (k1.trans j1).b (fun _ _ h=>h) _ _ (ZX l c hp e3)⟩;rw[Heap.ins_self];exact e2
     ·cases h
   ·cases h
  ·exact nw _ h1 h
theorem Gam.lpUpd (hG:Gam P B F pl tb s env σ) {n:Nat}{b b0:Blk}(hF:F.get n=some b0) (hB:B.get n=none):Gam P B (F.upd n b) pl tb s env (σ.upd n b):=by
 have aC:∀ {d i},(Qg s.own d).live=true→Oid (pl d) i→i≠n:=fun h1 h2 e=>by have:=hG.fresh _ _ h1 h2;subst e;rw[hF] at this;cases this
 refine⟨⟨hG.bf.1,fun i c hc=>?_⟩,⟨hG.le.1,fun i c hc=>?_⟩,hG.env,fun d=>(hG.obj d).mono (.refl _) (fun _ _ h=>h) fun h1 i h2=>Heap.get_upd_ne _ _ (aC h1 h2),fun d i h1 h2=>?_,hG.sep,hG.free⟩
 ·have:i≠n:=by rintro rfl;rw[hB] at hc;cases hc
  rw[Heap.get_upd_ne _ _ this];exact hG.bf.2 _ _ hc
 ·by_cases e:i=n
  ·subst e;rw[Heap.get_upd_self _ _ (F.lt hF)] at hc;rw[Heap.get_upd_self _ _ (Nat.lt_of_lt_of_le (F.lt hF) hG.le.1)];exact hc
  ·rw[Heap.get_upd_ne _ _ e] at hc ⊢;exact hG.le.2 _ _ hc
 ·rw[Heap.get_upd_ne _ _ (aC h1 h2)];exact hG.fresh _ _ h1 h2
theorem Gam.lpKill (hG:Gam P B F pl tb s env σ) {n:Nat}{b0:Blk}(hF:F.get n=some b0) (hB:B.get n=none):Gam P B (F.kill n) pl tb s env (σ.kill n):=by
 have aC:∀ {d i},(Qg s.own d).live=true→Oid (pl d) i→i≠n:=fun h1 h2 e=>by have:=hG.fresh _ _ h1 h2;subst e;rw[hF] at this;cases this
 refine⟨⟨hG.bf.1,fun i c hc=>?_⟩,⟨hG.le.1,fun i c hc=>?_⟩,hG.env,fun d=>(hG.obj d).mono (.refl _) (fun _ _ h=>h) fun h1 i h2=>Heap.get_kill_ne _ (aC h1 h2),fun d i h1 h2=>?_,hG.sep,hG.free⟩
 ·have:i≠n:=by rintro rfl;rw[hB] at hc;cases hc
  rw[Heap.get_kill_ne _ this];exact hG.bf.2 _ _ hc
 ·by_cases e:i=n
  ·subst e;rw[Heap.get_kill_self] at hc;cases hc
  ·rw[Heap.get_kill_ne _ e] at hc ⊢;exact hG.le.2 _ _ hc
 ·rw[Heap.get_kill_ne _ (aC h1 h2)];exact hG.fresh _ _ h1 h2
theorem GRel.lpUpd {B1 F1 D0:Heap}(h:GRel P B1 F1 D0 s env σ) {n:Nat}{b b0:Blk}(hF:F1.get n=some b0) (hB:B1.get n=none):GRel P B1 (F1.upd n b) D0 s env (σ.upd n b):=by
 obtain⟨B,F,pl,tb,dj,hG⟩:=h;have ny:=dj.f.2 _ _ hF;have nz:=dj.x _ _ hF hB;refine⟨B,F.upd n b,pl,tb,⟨dj.b,⟨dj.f.1,fun i c hc=>?_⟩,fun i c h1 h2=>?_,⟨dj.d.1,fun i h1 h2=>?_⟩⟩,hG.lpUpd ny nz⟩
 ·by_cases e:i=n
  ·subst e;rw[Heap.get_upd_self _ _ (F1.lt hF)] at hc;rw[Heap.get_upd_self _ _ (F.lt ny)];exact hc
  ·rw[Heap.get_upd_ne _ _ e] at hc ⊢;exact dj.f.2 _ _ hc
 ·by_cases e:i=n
  ·subst e;exact nz
  ·rw[Heap.get_upd_ne _ _ e] at h1;exact dj.x _ _ h1 h2
 ·have hd:=dj.d.2 i h1 h2;have:i≠n:=by rintro rfl;rw[hG.le.2 _ _ ny] at hd;cases hd
  rw[Heap.get_upd_ne _ _ this];exact hd
theorem GRel.lpKill {B1 F1 D0:Heap}(h:GRel P B1 F1 D0 s env σ) {n:Nat}{b0:Blk}(hF:F1.get n=some b0) (hB:B1.get n=none):GRel P B1 (F1.kill n) D0 s env (σ.kill n):=by
 obtain⟨B,F,pl,tb,dj,hG⟩:=h;have ny:=dj.f.2 _ _ hF;have nz:=dj.x _ _ hF hB;refine⟨B,F.kill n,pl,tb,⟨dj.b,⟨dj.f.1,fun i c hc=>?_⟩,fun i c h1 h2=>?_,⟨dj.d.1,fun i h1 h2=>?_⟩⟩,hG.lpKill ny nz⟩
 ·by_cases e:i=n
  ·subst e;rw[Heap.get_kill_self] at hc;cases hc
  ·rw[Heap.get_kill_ne _ e] at hc ⊢;exact dj.f.2 _ _ hc
 ·by_cases e:i=n
  ·subst e;exact nz
  ·rw[Heap.get_kill_ne _ e] at h1;exact dj.x _ _ h1 h2
 ·have hd:=dj.d.2 i h1 h2;by_cases e:i=n
  ·subst e;exact Heap.get_kill_self _ _
  ·rw[Heap.get_kill_ne _ e];exact hd
theorem GRel.base {B0 F0 B1 F1 D0:Heap}(h:GRel P B1 F1 D0 s env σ) (hb:B0.Le B1) (hf:F0.Le F1) (hx:∀ i b,F0.get i=some b→B0.get i=none→B1.get i=none):GRel P B0 F0 D0 s env σ:=by obtain⟨B,F,pl,tb,dj,hG⟩:=h;exact⟨B,F,pl,tb,⟨hb.trans dj.b,hf.trans dj.f,fun i b h1 h2=>dj.x i b (hf.2 _ _ h1) (hx i b h1 h2),dj.d⟩,hG⟩
theorem Mq (hG:Gam P B F pl tb s env σ) {mp:List (Nat×Option Nat)}:∀ (st:List (Nat×SV)) {e:List SV},gmatch.slots s mp st→SRs P B (VS pl mp) Jm e env→SRs P B (VS pl mp) Jm (st.foldl (fun e p=>e.set p.1 p.2) e) env
 |[],e,_,h=>h
 |(j,v)::r,e,hs,h=>by
  simp only[gmatch.slots] at hs;simp only[List.foldl_cons];refine Mq hG r hs.2 ?_;have:=h.set j (Vf v _ _ hs.1 (hG.env.getD j poison));by_cases hj:j<env.length
  ·rwa [List.getD_eq_getElem?_getD,List.getElem?_eq_getElem hj,Option.getD_some,List.set_getElem_self] at this
  ·rw[List.set_eq_of_length_le (by rw[h.length];omega)];exact h
theorem S3 {B:Heap}{pl:Nat→Value}{tb:Nat→Option Bool}:∀ (env:Env),SRs P B pl tb (List.replicate (List.length env) .any) env
 |[]=>by simp[SRs]
 |v::env=>by simp only[List.length_cons,List.replicate_succ,SRs];exact⟨_,_,rfl,by simp[SR],S3 env⟩
theorem YS {B0 F0 D0:Heap}(hR:GRel P B0 F0 D0 s env σ) {st:List (Nat×SV)}{ow:List (Nat×Src×OB)}(h:gmatch s st ow):GRel P B0 F0 D0 (Q_ (List.length env) st ow) env σ:=by
 obtain⟨B,F,pl,tb,hB,hG⟩:=hR;unfold gmatch at h;split at h
 ·rename_i mp nr;obtain⟨h1,h2⟩:=h;have ep:=MU _ _ _ nr (fun t t' a h=>by cases h);have aM:=H4 h2;have ao:∀ t,(Qg (Q_ (List.length env) st ow).own t).live=true→Ab s mp t (Qg (Q_ (List.length env) st ow).own t):=fun t hl=>by
   rcases Yx (f:=ow) [] t with⟨p,h3,h4,h5⟩|h3
   ·have:=aM p h3;rw[h4,←h5] at this;exact this
   ·simp only[Q_] at hl;rw[h3] at hl;cases hl
  refine⟨B,F,VS pl mp,Jm,hB,hG.bf,hG.le,Mq hG st h1 (S3 env),fun t=>?_,fun t i hl hi=>?_,fun t t' i aC hl cg hi cn=>?_,fun _ _=>rfl⟩
  ·cases hl:(Qg (Q_ (List.length env) st ow).own t).live with
   |true=>exact(QT hG (ao t hl)).1
   |false =>
    cases ho:Qg (Q_ (List.length env) st ow).own t with
    |dead=>trivial
    |stk l vals =>
     rcases Yx (f:=ow) [] t with⟨p,h3,h4,h5⟩|h3
     ·have:=aM p h3;simp only[Q_] at ho;rw[←h5,ho] at this;have h6:=(QT hG this).1;rw[h4] at h6;exact h6
     ·simp only[Q_] at ho;rw[h3] at ho;cases ho
    |lpf l q u =>
     rcases Yx (f:=ow) [] t with⟨p,h3,h4,h5⟩|h3
     ·have:=aM p h3;simp only[Q_] at ho;rw[←h5,ho] at this;have h6:=(QT hG this).1;rw[h4] at h6;exact h6
     ·simp only[Q_] at ho;rw[h3] at ho;cases ho
    |_=>rw[ho] at hl;cases hl
  ·obtain⟨a,_,h4,h5⟩:=(QT hG (ao t hl)).2 hl i hi;exact hG.fresh a i h4 h5
  ·obtain⟨a,e1,h4,h5⟩:=(QT hG (ao t hl)).2 hl i hi;obtain⟨a',e2,gb,nu⟩:=(QT hG (ao t' cg)).2 cg i cn;by_cases e:a=a'
   ·subst e;exact aC (ep t t' a e1 e2)
   ·exact hG.sep a a' i e h4 gb h5 nu
 ·exact h.elim
theorem HN {α:Type}{o:Option α}{f:α→Prop}(h:QW o f):∃ a,f a:=by
 cases o with
 |none=>exact h.elim
 |some a=>exact⟨a,h⟩
theorem COk.nx {C:Cx}(h:COk P C):COk P C.nx:=⟨h.cs,fun f x hx=>(by cases hx),h.it,h.yl,h.iy,fun f j _ x hx=>(by cases hx)⟩
theorem Xn {S:VSpecs}{Q:Prop}:∀ {ops:List DOper}{env:Env}{hs:List Heap}{σ:Heap}{pend:List (Nat×(Heap→Prop))},ZL S ops env hs σ pend (fun _ _=>Q)→Q
 |[],_,_,_,_,h=>h
 |o::r,env,hs,σ,pend,h=>by
  simp only[ZL] at h;obtain⟨b,h⟩:=HN h;cases b with
  |true =>
   have h:=h.1 rfl;split at h
   ·obtain⟨v,σ',_,_,h⟩:=h;exact Xn h
   ·split at h
    ·obtain⟨p,_,h⟩:=HN h;exact Xn h
    ·obtain⟨p,h⟩:=HN h;exact Xn h
  |false =>
   have h:=h.2 rfl;split at h
   ·exact Xn h.2
   ·exact Xn h
theorem Gv {C:Cx}{s:St}{st:List (Nat×SV)}{ow:List (Nat×Src×OB)}{Q:Prop}:∀ (ls:List (List DOper)),Fl C ls s st ow Q→(∀ l∈ls,JB C.nx l s 1 0 [] [] fun s'=>NV s.env.length s' st ow)∧Q
 |[],h=>⟨fun l hl=>(by cases hl),h⟩
 |l::ls,h=>by obtain⟨h1,h2⟩:=h;obtain⟨h3,h4⟩:=Gv ls h2;exact⟨fun l' cg=>(List.mem_cons.1 cg).elim (fun e=>e▸h1) (h3 l'),h4⟩
theorem YV {B0 F0 D0:Heap}{s:St}{env:Env}{σ:Heap}{n:Nat}(hR:GRel P B0 F0 D0 s env σ) {st:List (Nat×SV)}{ow:List (Nat×Src×OB)}(h:NV n s st ow):GRel P B0 F0 D0 (Q_ n st ow) env σ:=by
 unfold NV at h;cases hb:Nat.beq s.env.length n with
 |false=>rw[hb] at h;exact h.elim
 |true =>
  rw[hb] at h;have hl:env.length=n:=by rw[←Nat.eq_of_beq_eq_true hb];obtain⟨_,_,_,_,_,hG⟩:=hR;exact hG.env.length.symm
  rw[←hl];exact YS hR h
theorem Xm {C:Cx}(az:COk P C) {B0 F0 D0:Heap}:∀ (aN:List DSeg) {s:St}{env:Env}{σ:Heap},GRel P B0 F0 D0 s env σ→∀ {K:St→Prop},H2 C aN s K→∀ {R:Env→Heap→Prop},(∀ s' af σ',K s'→GRel P B0 F0 D0 s' af σ'→R af σ')→VB (Q7 P) aN env σ R
 |[],s,env,σ,hR,K,h,R,hK=>hK s env σ h hR
 |.one o::r,s,env,σ,hR,K,h,R,hK=>by refine Vd az [o] hR (K:=fun s'=>H2 C r s' K) h fun s' af σ' h1 h2=>?_;exact Xm az r h2 h1 hK
 |.alts [l]::r,s,env,σ,hR,K,h,R,hK=>by
  simp only[H2] at h;cases hd:Ec l with
  |false =>
   rw[hd] at h;simp only[_root_.cond_false] at h;cases hk:l.all (fun o=>o.kind==o.op.kind) with
   |false=>rw[hk] at h;exact h.elim
   |true =>
    rw[hk] at h;simp only[_root_.cond_true] at h;intro ops ho;obtain rfl:=List.mem_singleton.1 ho;obtain⟨B,F,pl,tb,hB,hG⟩:=hR;have one:∀ (j:Nat) (τ:Heap),([σ]:List Heap)[j]?=some τ→τ=σ:=fun j τ ht=>by
     cases j with
     |zero=>simpa using ht.symm
     |succ j=>simp at ht
    exact Qq az ops (fun o ho=>by simpa using List.all_eq_true.1 hk o ho) hB hG (hl:=1) (chg:=0) (A:=[]) (Rd:=[]) ⟨rfl,fun j τ _ ht=>one j τ ht,(fun c hc=>absurd hc (by simp)),fun j τ q i ht _ _ _=>by rw[one j τ ht]⟩ (pend:=[]) (pd:=[]) (fun c hc=>absurd hc (by simp)) (fun j τ ht _=>by rw[one j τ ht];exact hG.leB) (Nat.zero_le _) (Nat.succ_pos _) h fun s' af σ' h1 h2=>⟨af,σ',.refl _ _ _,Xm az r h2 h1 hK⟩
  |true =>rw[hd] at h;refine Cd (l:=l) hd ?_;exact Vd az _ hR h fun s' af σ' h1 h2=>Xm az r h2 h1 hK
 |.alts []::r,s,env,σ,hR,K,h,R,hK=>h.elim
 |.alts (l::l2::ls)::r,s,env,σ,hR,K,h,R,hK=>by
  simp only[H2] at h;cases hk:(l::l2::ls).all (fun l=>l.all fun o=>o.kind==o.op.kind) with
  |false=>rw[hk] at h;exact h.elim
  |true =>
   rw[hk] at h;simp only[_root_.cond_true] at h;obtain⟨B,F,pl,tb,hB,hG⟩:=hR;have one:∀ (j:Nat) (τ:Heap),([σ]:List Heap)[j]?=some τ→τ=σ:=fun j τ ht=>by
    cases j with
    |zero=>simpa using ht.symm
    |succ j=>simp at ht
   have run:∀ l'∈l::l2::ls,∀ {K':St→Prop},JB C.nx l' s 1 0 [] [] K'→∀ {R':Env→Heap→Prop},(∀ s' af σ',K' s'→GRel P B0 F0 D0 s' af σ'→R' af σ')→ZL (Q7 P) l' env [σ] σ [] R':=fun l' cg K' h' R' pM =>
    Qp az.nx rfl l' (fun o ho=>by simpa using List.all_eq_true.1 (List.all_eq_true.1 hk l' cg) o ho) hB hG (hl:=1) (chg:=0) (A:=[]) (Rd:=[]) ⟨rfl,fun j τ _ ht=>one j τ ht,(fun c hc=>absurd hc (by simp)),fun j τ q i ht _ _ _=>by rw[one j τ ht]⟩ (pend:=[]) (pd:=[]) (fun c hc=>absurd hc (by simp)) (fun j τ ht _=>by rw[one j τ ht];exact hG.leB) (Nat.zero_le _) (Nat.succ_pos _) h' pM
   obtain⟨s0,h0,h1⟩:=Xn (run l List.mem_cons_self h (R':=fun _ _=>∃ s0:St,_) fun s' _ _ h' _=>⟨s',h'⟩);obtain⟨h2,h3⟩:=Gv _ h1;intro ops ho;rcases List.mem_cons.1 ho with rfl|eD
   ·refine Xp ?_;exact run ops ho h fun s' af σ' h' pP=>⟨af,σ',.refl _ _ _,by
     obtain⟨k1,k2⟩:=h';exact Xm az r (YV pP k1) (Gv _ k2).2 hK⟩
   ·refine Xp ?_;exact run ops ho (h2 ops eD) fun s' af σ' h' pP=>⟨af,σ',.refl _ _ _,Xm az r (YV pP h') h3 hK⟩
theorem GX:∀ (l:List Nat) (vs:List SV),(FT l vs).map (·.1)=l
 |[],_=>rfl
 |j::js,[]=>by simp[FT,GX js []]
 |j::js,v::vs=>by simp[FT,GX js vs]
theorem Kt {B:Heap}{pl:Nat→Value}{tb:Nat→Option Bool}:∀ {ps:List Nat}{xs:List SV}{us:List Value}{e:List SV}{env:Env},SRs P B pl tb xs us→SRs P B pl tb e env→SRs P B pl tb (UU e ps xs) (De env ps us)
 |[],xs,us,e,env,_,h=>by simpa [UU,De] using h
 |p::ps,[],us,e,env,hx,h=>by simp only[SRs] at hx;subst hx;simpa [UU,De] using h
 |p::ps,x::xs,us,e,env,hx,h=>by simp only[SRs] at hx;obtain⟨u,lB,rfl,h1,h2⟩:=hx;simp only[UU,De];exact Kt h2 (h.set p h1)
def Q1i (F0:Heap):Option Nat→Prop
 |none=>True
 |some i=>∃ env r st pend,F0.get i=some (.obj (.lp env r st pend) true)
theorem Gam.dropLp {B F:Heap}{pl:Nat→Value}{tb:Nat→Option Bool}{s:St}{env:Env}{σ:Heap}(hG:Gam P B F pl tb s env σ) {o:Nat}{l:List SV}{q:LpD}{u:LpS}(ho:Qg s.own o=.lpf l q u) (hl:u.live=true) :
  Gam P B F pl tb ⟨l,oset s.own o .dead,s.nx⟩ q.vals (σ.kill q.i)∧σ.get q.i=some (.obj (.lp q.vals q.r u.st u.pend) true):=by
 have ao:=hG.obj o;rw[ho] at ao;obtain⟨h1,h2,h3⟩:=ao;have jg:(Qg s.own o).live=true:=by rw[ho];exact hl
 have iU:Oid (pl o) q.i:=by rw[h1];rfl
 have hF:=hG.fresh o q.i jg iU;have lv:∀ d,(Qg (oset s.own o .dead) d).live=true→d≠o∧(Qg s.own d).live=true:=fun d h=>by
  rw[Qv] at h;by_cases e:d=o
  ·rw[if_pos e] at h;cases h
  ·rw[if_neg e] at h;exact⟨e,h⟩
 refine⟨⟨hG.bf,⟨hG.le.1,fun j b hb=>?_⟩,h2,fun d=>?_,fun d i hd hi=>hG.fresh d i (lv d hd).2 hi,fun d d' i e h h'=>hG.sep d d' i e (lv d h).2 (lv d' h').2,hG.free⟩,h3 hl⟩
 ·have e:j≠q.i:=by rintro rfl;rw[hF] at hb;cases hb
  rw[Heap.get_kill_ne _ e];exact hG.le.2 _ _ hb
 ·rw[Qv];by_cases e:d=o
  ·rw[if_pos e];trivial
  ·rw[if_neg e];refine (hG.obj d).mono (.refl _) (fun _ _ h=>h) fun hd i hi=>?_;have:i≠q.i:=by rintro rfl;exact hG.sep d o q.i e hd jg hi iU
   exact Heap.get_kill_ne _ this
theorem Cf (s:St) (o:Nat) (b:OB) (j:Nat):Qg (s.make o b).own j=if j=o then b else (Qg s.own j).kill o:=by
 simp only[St.make,Qv];by_cases h:j=o
 ·subst h;simp
 ·simp only[h,if_false,St.kill,Yw]
theorem Gam.enterLp {B F:Heap}{pl:Nat→Value}{tb:Nat→Option Bool}{s:St}{env:Env}{σ:Heap}(hG:Gam P B F pl tb s env σ) {o aH:Nat}{l:List SV}{q:LpD}(ho:Qg s.own o=.lpf l q .rdy) (aC:o≠aH)
  {args:List SV}{us:List Value}(aD:SRs P B pl tb args us) (ps:List Nat) :
  Gam P B (F.ins σ q.i hG.le.1) (Jd pl aH poison) tb ⟨UU (SVs.kill aH l) ps (SVs.kill aH args),oset (To aH env s).own o (.lpf (SVs.kill aH l) q .busy),s.nx⟩ (De q.vals ps us) σ:=by
 have q3:Gam P B F (Jd pl aH poison) tb (To aH env s) env σ:=by refine hG.make aH _ poison hG.le (fun _ _ _ _ _=>rfl) ?_ (fun i hl _=>by cases hl);exact SRs.upd (.refl _) (fun _ _ h=>h) (fun j hj=>by simp[Jd,hj]) _ _ hG.env
 have ao:=hG.obj o;rw[ho] at ao;obtain⟨h1,h2,h3⟩:=ao;have jg:(Qg s.own o).live=true:=by rw[ho];rfl
 have ov:Jd pl aH poison o=.pointer (some ⟨q.i,0,none⟩):=by simp[Jd,aC,h1]
 have tT:Qg (To aH env s).own o=.lpf (SVs.kill aH l) q .rdy:=by have:=Cf s aH (.stk (SVs.kill aH s.env) env) o;unfold To;rw[this,if_neg aC,ho];rfl
 have nB:(Qg (To aH env s).own o).live=true:=by rw[tT];rfl
 have iU:Oid (Jd pl aH poison o) q.i:=by rw[ov];rfl
 have hF:=q3.fresh o q.i nB iU;have ck:SRs P B (Jd pl aH poison) tb (SVs.kill aH l) q.vals:=SRs.upd (.refl _) (fun _ _ h=>h) (fun j hj=>by simp[Jd,hj]) _ _ h2;have tU:SRs P B (Jd pl aH poison) tb (SVs.kill aH args) us:=SRs.upd (.refl _) (fun _ _ h=>h) (fun j hj=>by simp[Jd,hj]) _ _ aD;have lv:∀ d,(Qg (oset (To aH env s).own o (.lpf (SVs.kill aH l) q .busy)) d).live=true→d≠o∧(Qg (To aH env s).own d).live=true:=fun d h=>by
  rw[Qv] at h;by_cases e:d=o
  ·rw[if_pos e] at h;cases h
  ·rw[if_neg e] at h;exact⟨e,h⟩
 refine⟨q3.bf.trans (hG.le.ins _),hG.le.ins_le _,Kt tU ck,fun d=>?_,fun d i hd hi=>?_,fun d d' i e h h'=>q3.sep d d' i e (lv d h).2 (lv d' h').2,q3.free⟩
 ·show OR P B _ tb σ _ (Qg (oset _ o _) d);rw[Qv];by_cases e:d=o
  ·subst e;rw[if_pos rfl];exact⟨ov,ck,fun h=>by cases h⟩
  ·rw[if_neg e];exact q3.obj d
 ·obtain⟨e,rj⟩:=lv d hd;have:i≠q.i:=by rintro rfl;exact q3.sep d o q.i e rj nB hi iU
  rw[Heap.ins_ne _ _ _ this];exact q3.fresh d i rj hi
theorem Gam.leaveLp {B F:Heap}{pl:Nat→Value}{tb:Nat→Option Bool}{s:St}{env:Env}{σ:Heap}(hG:Gam P B F pl tb s env σ) {o aH:Nat}{l l2:List SV}{jF:List Value}{q:LpD}{b0:Blk}(hF:F.get q.i=some b0) (hB:B.get q.i=none)
  (h2:Qg s.own aH=.stk l2 jF) (ho:Qg s.own o=.lpf l q .busy) (u:LpS) :
  Gam P B (F.kill q.i) pl tb ⟨l2,oset (oset s.own aH .dead) o (.lpf l q u),s.nx⟩ jF (σ.upd q.i (.obj (.lp q.vals q.r u.st u.pend) true)):=by
 have ao:=hG.obj o;rw[ho] at ao;obtain⟨k1,k2,_⟩:=ao;have hk:=hG.obj aH;rw[h2] at hk;have hi:q.i<σ.n:=σ.lt (hG.le.2 _ _ hF);have aC:∀ {d i},(Qg s.own d).live=true→Oid (pl d) i→i≠q.i:=fun h1 h2 e=>by have:=hG.fresh _ _ h1 h2;subst e;rw[hF] at this;cases this
 have iU:∀ i,Oid (pl o) i→i=q.i:=fun i h=>by rw[k1] at h;exact(osj h).symm
 have hg:∀ d,Qg (oset (oset s.own aH .dead) o (.lpf l q u)) d=if d=o then .lpf l q u else if d=aH then .dead else Qg s.own d:=fun d=>by rw[Qv,Qv]
 have lv:∀ d,d≠o→(Qg (oset (oset s.own aH .dead) o (.lpf l q u)) d).live=true→(Qg s.own d).live=true:=fun d e h=>by
  rw[hg,if_neg e] at h;split at h
  ·cases h
  ·exact h
 refine⟨⟨hG.bf.1,fun j b hb=>?_⟩,⟨hG.le.1,fun j b hb=>?_⟩,hk,fun d=>?_,fun d i hd cn=>?_,fun d d' i e h h' h1 gh=>?_,hG.free⟩
 ·have e:j≠q.i:=by rintro rfl;rw[hB] at hb;cases hb
  rw[Heap.get_kill_ne _ e];exact hG.bf.2 _ _ hb
 ·by_cases e:j=q.i
  ·subst e;rw[Heap.get_kill_self] at hb;cases hb
  ·rw[Heap.get_kill_ne _ e] at hb;rw[Heap.get_upd_ne _ _ e];exact hG.le.2 _ _ hb
 ·show OR P B pl tb _ _ (Qg (oset _ o _) d);rw[hg];by_cases e:d=o
  ·subst e;rw[if_pos rfl];exact⟨k1,k2,fun _=>Heap.get_upd_self _ _ hi⟩
  ·rw[if_neg e];split
   ·trivial
   ·exact(hG.obj d).mono (.refl _) (fun _ _ h=>h) fun hd i hi=>Heap.get_upd_ne _ _ (aC hd hi)
 ·by_cases e:d=o
  ·subst e;rw[iU i cn];exact Heap.get_kill_self _ _
  ·rw[Heap.get_kill_ne _ (aC (lv d e hd) cn)];exact hG.fresh d i (lv d e hd) cn
 ·by_cases e1:d=o
  ·subst e1;have e2:d'≠d:=fun h=>e h.symm;exact aC (lv d' e2 h') gh (iU i h1)
  ·by_cases e2:d'=o
   ·subst e2;exact aC (lv d e1 h) h1 (iU i gh)
   ·exact hG.sep d d' i e (lv d e1 h) (lv d' e2 h') h1 gh
theorem Tn {C:Cx}(az:COk P C) {L:List (Nat×LoopAnn)}(vc:VCode):∀ {B0 F0 D0:Heap}(n:Nat) (K:Exit→St→Prop) (s:St) (env:Env) (σ:Heap) (ro:Option Nat) (Q:Exit→Env→Heap→Prop),Q1i F0 ro→GRel P B0 F0 D0 s env σ→gwp C L vc n K s→(∀ e s' af σ',K e s'→GRel P B0 F0 D0 s' af σ'→Q e af σ')→vwp (Q7 P) vc ro Q env σ:=by
 induction vc with
 |skip=>intro B0 F0 D0 n K s env σ ro Q bJ hR h hK;exact hK _ _ _ _ h hR
 |region ops=>intro B0 F0 D0 n K s env σ ro Q bJ hR h hK;exact Vd az ops hR h fun s' af σ' h1 h2=>hK _ _ _ _ h1 h2
 |regionD aN=>intro B0 F0 D0 n K s env σ ro Q bJ hR h hK;exact Xm az aN hR h fun s' af σ' h1 h2=>hK _ _ _ _ h1 h2
 |rangeF g ps a b er dG =>
  intro B0 F0 D0 n K s env σ ro Q bJ hR h hK;simp only[gwp] at h;split at h
  ·rename_i f first c_ hg
   split at h
   ·
    rename_i x hx;obtain⟨B,F,pl,tb,hB,hG⟩:=hR;have fX:=hG.evs (Gds.nil (tb:=tb)) g;rw[hg] at fX;simp only[SR] at fX;obtain⟨x',y',a7,kM,nC⟩:=fX;obtain⟨gC,lD⟩:=az.iy f x hx;show vwp (Q7 P) (.rangeF g ps a b) ro Q env σ;simp only[vwp,T9,a7];have kN:(Q7 P).it f=some fun i Y args σ K=>WL P i Y→VCallsTo P f args σ K:=by simp only[Q7];rw[if_pos gC]
    rw[kN];refine⟨?_,fun r hY=>?_⟩
    ·cases ro with
     |none=>trivial
     |some i =>obtain⟨e1,r1,st1,pQ,hi⟩:=bJ;exact⟨e1,r1,st1,pQ,hG.le.2 _ _ (hB.f.2 _ _ hi)⟩
    generalize ln:C.off+2000000+n=o at h;generalize e6:100000*(o+1)-1=aH at h;have aj:o≠aH:=by omega
    let q:LpD:=⟨σ.n,env,r⟩;let rdy:Blk:=.obj (.lp env r .ready none) true;let eI:Blk:=.obj (.lp env r .busy none) true;let p0:Value:=.pointer (some ⟨σ.n,0,none⟩);have gV:Gam P B F (Jd pl o p0) tb (Q56 o q s) env (σ.push rdy):=by refine hG.push o (.lpf (SVs.kill o s.env) q .rdy) p0 rdy rfl ⟨rfl,SRs.upd (.refl _) (fun _ _ h=>h) (fun j hj=>by simp[Jd,hj]) _ _ hG.env,fun _=>Heap.get_push_self _ _⟩
    have kl:∀ {xs us},SRs P B pl tb xs us→SRs P B (Jd pl o p0) tb (SVs.kill o xs) us:=fun h=>SRs.upd (.refl _) (fun _ _ h=>h) (fun j hj=>by simp[Jd,hj]) _ _ h;have aD:SRs P B (Jd pl o p0) tb (SVs.kill o first++(.dd o .yv::SVs.kill o c_)) (x'++(.func (.yield σ.n) #[] #[]::y')):=by refine (kl kM).append ?_;simp only[SRs,SR,DR];exact⟨_,_,rfl,⟨σ.n,by simp[Jd,p0],rfl⟩,kl nC⟩
    have tV:AH P o (CX o aH ps.length q (fun K' s'=>gwp C L a n (A6 (fun s3=>gwp C L b n K' s3) fun _ _=>False) s') ps):=by
     intro B F pl tb s af σ args us K R i hG ha hy ov hK;unfold CX at hy;split at hy
     ·rename_i l q' u ho;split at hy
      ·cases hlen:Nat.beq args.length ps.length with
       |false=>rw[hlen] at hy;exact hy.elim
       |true =>
       rw[hlen] at hy;simp only[_root_.cond_true] at hy;obtain⟨rfl,hy⟩:=hy;have ao:=hG.obj o;rw[ho] at ao;have hi:i=q.i:=by have h1:=ao.1;rw[ov] at h1;have:=osj (Value.pointer.inj h1);exact(Addr.mk.inj this).1
       subst hi;have kO:σ.get q.i=some rdy:=ao.2.2 rfl;have jg:(Qg s.own o).live=true:=by rw[ho];rfl
       have lF:F.get q.i=none:=hG.fresh o q.i jg (by rw[ao.1];rfl);have rk:B.get q.i=none:=by
        cases hb:B.get q.i with
        |none=>rfl
        |some b=>rw[hG.bf.2 _ _ hb] at lF;cases lF
       have jK:=hG.enterLp ho aj ha ps;have gW:(F.ins σ q.i hG.le.1).get q.i=some rdy:=by rw[Heap.ins_self];exact kO
       have eW:(F.ins σ q.i hG.le.1).n=σ.n:=rfl;have aL:q.i<σ.n:=σ.lt kO;refine hY us σ R ⟨kO,by rw[←ha.length];exact(Nat.eq_of_beq_eq_true hlen),?_⟩;refine er (B0:=B) (F0:=F.ins σ q.i hG.le.1) (D0:=σ) n _ _ _ σ (some q.i) _ ⟨env,r,_,_,gW⟩ ⟨B,_,_,tb,.of jK.bf (Dead.refl _),jK⟩ (hy af) fun e s3 pR σ3 h7 h8=>?_;cases e with
       |normal =>
        have iH:σ3.get q.i=some rdy:=by obtain⟨B',F',pl',tb',q1,q2⟩:=h8;exact q2.le.2 _ _ (q1.f.2 _ _ gW)
        refine⟨iH,?_⟩;have h9:=h8.lpUpd (b:=eI) gW rk;have lG:((F.ins σ q.i hG.le.1).upd q.i eI).get q.i=some eI:=Heap.get_upd_self _ _ (by rw[eW];exact aL);refine dG (B0:=B) (F0:=(F.ins σ q.i hG.le.1).upd q.i eI) (D0:=σ) n _ _ _ _ (some q.i) _ ⟨env,r,_,_,lG⟩ h9 h7 fun e s4 pS σ4 bM fg=>?_;obtain⟨B',F',pl',tb',q1,q2⟩:=fg;have ox:=q1.f.2 _ _ lG;have pT:=q1.x _ _ lG rk;have nD:σ4.get q.i=some eI:=q2.le.2 _ _ ox;unfold gyK at bM;split at bM
        ·rename_i l2 jF l3 q3 u3 au pU;split at bM
         ·obtain⟨rfl,rfl,bM⟩:=bM;have base:∀ b,GBase B F σ B' (F'.kill q.i) (σ4.upd q.i b):=fun b=>by
           refine⟨q1.b,⟨?_,fun j c hc=>?_⟩,fun j c h1 h2=>?_,q1.d.trans (Dead.upd _ _ _ (by rw[nD];rfl))⟩
           ·have h1:=q1.f.1;have h2:=hG.le.1;show F.n≤F'.n;have h3:((F.ins σ q.i hG.le.1).upd q.i eI).n=σ.n:=rfl;omega
           ·have e:j≠q.i:=by rintro rfl;rw[lF] at hc;cases hc
            rw[Heap.get_kill_ne _ e];refine q1.f.2 _ _ ?_;rw[Heap.get_upd_ne _ _ e,Heap.ins_ne _ _ _ e];exact hc
           ·have e:j≠q.i:=by rintro rfl;rw[lF] at h1;cases h1
            refine q1.x j c ?_ h2;rw[Heap.get_upd_ne _ _ e,Heap.ins_ne _ _ _ e];exact h1
          refine⟨nD,?_⟩;cases e with
          |normal=>exact hK _ _ B' _ pl' tb' _ _ bM (base _) (q2.leaveLp ox pT au pU .rdy) (by simp[SR,KC])
          |ret=>exact hK _ _ B' _ pl' tb' _ _ bM (base _) (q2.leaveLp ox pT au pU .ret) (by simp[SR,KC])
          |exit id=>exact hK _ _ B' _ pl' tb' _ _ bM (base _) (q2.leaveLp ox pT au pU (.exit id)) (by simp[SR,KC])
          |_=>exact bM.elim
         ·exact bM.elim
        ·exact bM.elim
       |_=>exact h7.elim
      ·exact hy.elim
     ·exact hy.elim
    have aV:=lD B F _ tb _ env (σ.push rdy) o _ _ _ (Fh o q K) (fun τ=>AZ Q env σ.n poison τ) gV aD tV (h q) fun s' B' F' pl' tb' af σ' hk hb dm=>by
     unfold Fh at hk;split at hk
     ·rename_i l q' u ho;have fin:∀ {e:Exit},u.live=true→q'=q→K e ⟨l,oset s'.own o .dead,s'.nx⟩→Q e env (σ'.kill σ.n)∧σ'.get σ.n=some (.obj (.lp env r u.st u.pend) true):=fun {e} hu hq tX=>by
       subst hq;obtain⟨g1,g2⟩:=dm.dropLp ho hu;refine⟨hK _ _ _ _ tX ⟨B',F',pl',tb',⟨hB.b.trans hb.b,hB.f.trans hb.f,fun j c h1 h2=>hb.x j c (hB.f.2 _ _ h1) (hB.x j c h1 h2),hB.d.trans ((Dead.push _ _).trans (hb.d.trans (Dead.kill _ _)))⟩,g1⟩,g2⟩
      cases u with
      |busy=>exact hk.elim
      |rdy =>obtain⟨hq,hk⟩:=hk;obtain⟨k1,k2⟩:=fin rfl hq hk;unfold AZ;rw[k2];exact⟨(by intro h;cases h),k1⟩
      |ret =>obtain⟨hq,hk⟩:=hk;obtain⟨k1,k2⟩:=fin rfl hq hk;unfold AZ;rw[k2];exact⟨(by intro h;cases h),k1⟩
      |exit id =>obtain⟨hq,hk⟩:=hk;obtain⟨k1,k2⟩:=fin rfl hq hk;unfold AZ;rw[k2];exact⟨(by intro h;cases h),k1⟩
     ·exact hk.elim
    refine VCallsTo.mono (R:=fun _ τ=>AZ Q env σ.n poison τ) (by simpa using aV) fun v τ h=>h
   split at h
   rotate_left
   ·exact h.elim
   split at h
   ·rename_i it s1 cw A fN pV hA;split at h
    ·rename_i c m ar xs hc;cases eC:Nat.beq ps.length ar with
     |false=>rw[eC] at h;exact h.elim
     |true =>
     rw[eC] at h;simp only[_root_.cond_true] at h;obtain⟨dC,p,d0,e5,I,tY,rn,rp⟩:=h;have eC:=Nat.eq_of_beq_eq_true eC;have hlen:s.env.length=env.length:=by obtain⟨B,F,pl,tb,_,hG⟩:=hR;exact hG.env.length
     rw[hlen] at rn rp;have ng:=hR;obtain⟨B,F,pl,tb,hB,hG⟩:=hR;have fX:=hG.evs Gds.nil g;rw[hg] at fX;simp only[SR] at fX;obtain⟨x,y,a7,hx,hy⟩:=fX;simp only[SRs] at hx;subst hx;obtain⟨B1,F1,nE,nF,tZ,jk⟩:=M1 hG hy pV;obtain⟨gC,pW⟩:=az.it f it fN;obtain⟨nG,pX⟩:=pW B1 cw y c m ar xs tZ hc dC;have t_:GRel P B1 F1 D0 (Q_ (List.length env) (A.st p d0) (A.own p d0)) env σ:=YS ⟨B1,F1,pl,tb,⟨.refl _,.refl _,fun _ _ _ h=>h,(hB.trans nE).d⟩,nF⟩ e5;have lH:B1.get σ.n=none:=B1.wf _ nF.leB.1;have ua:F1.get σ.n=none:=F1.wf _ nF.le.1;show vwp (Q7 P) (.rangeF g ps a b) ro Q env σ;simp only[vwp,T9,a7];have kN:(Q7 P).it f=some fun i Y args σ K=>WL P i Y→VCallsTo P f args σ K:=by simp only[Q7];rw[if_pos gC]
     rw[kN];refine⟨?_,fun r hY=>?_⟩
     ·cases ro with
      |none=>trivial
      |some i =>obtain⟨e1,r1,st1,pQ,hi⟩:=bJ;exact⟨e1,r1,st1,pQ,hG.le.2 _ _ (hB.f.2 _ _ hi)⟩
     ·let rdy:Blk:=.obj (.lp env r .ready none) true;let eI:Blk:=.obj (.lp env r .busy none) true;have jL:F1.Le (σ.push rdy):=nF.le.push rdy;let Fr:=F1.ins (σ.push rdy) σ.n jL.1;have gW:Fr.get σ.n=some rdy:=by
       show (F1.ins _ _ _).get σ.n=_;rw[Heap.ins_self,Heap.get_push_self]
      have eW:Fr.n=σ.n+1:=rfl;have ub:F1.Le Fr:=jL.ins σ.n;let J:Nat→Heap→Prop:=fun k τ=>∃ d,I k d∧GRel P B1 Fr D0 (Q_ (List.length env) (A.st p d) (A.own p d)) env τ;let E:Heap→Prop:=fun τ=>∃ cd e,τ.get σ.n=some (.obj (.lp env r .done (some cd)) true)∧((cd=.ret∧e=Exit.ret)∨∃ id,cd=.exit id∧e=Exit.exit id)∧Q e env (τ.kill σ.n);have back:∀ {s':St}{τ:Heap},GRel P B1 (Fr.upd σ.n eI) D0 s' env τ→∀ b,GRel P B1 ((Fr.upd σ.n eI).upd σ.n b) D0 s' env (τ.upd σ.n b):=fun h b =>
       h.lpUpd (b0:=eI) (Heap.get_upd_self _ _ (by rw[eW];omega)) lH
      have gX:∀ {Fx:Heap}{b0:Blk}{s':St}{τ:Heap},Fx.get σ.n=some b0→(∀ i,i≠σ.n→Fx.get i=F1.get i)→Fx.n=σ.n+1→GRel P B1 Fx D0 s' env τ→GRel P B0 F0 D0 s' env (τ.kill σ.n):=fun {Fx b0 s' τ} h1 h2 h3 h4=>by
       refine (h4.lpKill h1 lH).base (hB.b.trans nE.b) ⟨?_,fun i b hb=>?_⟩ fun i b k1 k2=>(hB.trans nE).x i b k1 k2
       ·show F0.n≤Fx.n;rw[h3];have:=(hB.trans nE).f.1;have:=nF.le.1;omega
       ·have bh:=(hB.trans nE).f.2 _ _ hb;have e:i≠σ.n:=by rintro rfl;rw[ua] at bh;cases bh
        rw[Heap.get_kill_ne _ e,h2 i e];exact bh
      have iV:∀ i,i≠σ.n→Fr.get i=F1.get i:=fun i e=>Heap.ins_ne _ _ _ e;have aV:=pX σ.n _ J E (σ.push rdy) hY (fun k τ ⟨d,_,hd⟩=>?_) (fun k us τ hk ⟨d,pY,hd⟩ eB=>?_) ⟨d0,tY,?_⟩
      ·refine VCallsTo.mono (R:=fun _ τ=>J m τ∨E τ) (by simpa using aV) fun v τ pn=>?_;unfold AZ;rcases pn with⟨d,pY,hd⟩|⟨cd,e,h1,h2,h3⟩
       ·have kO:τ.get σ.n=some rdy:=by
         obtain⟨B',F',pl',tb',q1,q2⟩:=hd;exact q2.le.2 _ _ (q1.f.2 _ _ gW)
        rw[kO];exact⟨(by intro h;cases h),hK _ _ _ _ (rp d pY) (gX gW iV eW hd)⟩
       ·rw[h1];refine⟨(by intro h;cases h),?_⟩;rcases h2 with⟨rfl,rfl⟩|⟨id,rfl,rfl⟩<;>exact h3
      ·obtain⟨B',F',pl',tb',q1,q2⟩:=hd;exact q1.b.trans q2.leB
      ·
       have kO:τ.get σ.n=some rdy:=by obtain⟨B',F',pl',tb',q1,q2⟩:=hd;exact q2.le.2 _ _ (q1.f.2 _ _ gW)
       refine⟨kO,by rw[eC,←(nG k).1,eB.length],?_⟩;have hF:=rn k d hk pY env;have bG:GRel P B1 Fr D0 ⟨UU (To (2000000+n) env (Q_ (List.length env) (A.st p d) (A.own p d))).env ps (xs k),(To (2000000+n) env (Q_ (List.length env) (A.st p d) (A.own p d))).own,0⟩ (De env ps us) τ:=by
        obtain⟨B',F',pl',tb',q1,q2⟩:=hd;have q3:Gam P B' F' (Jd pl' (2000000+n) poison) tb' (To (2000000+n) env (Q_ (List.length env) (A.st p d) (A.own p d))) env τ:=by refine q2.make (2000000+n) _ poison q2.le (fun _ _ _ _ _=>rfl) ?_ (fun i hl _=>by cases hl);exact SRs.upd (.refl _) (fun _ _ h=>h) (fun j hj=>by simp[Jd,hj]) _ _ q2.env
        refine⟨B',F',Jd pl' (2000000+n) poison,tb',q1,⟨q3.bf,q3.le,Kt ?_ q3.env,q3.obj,q3.fresh,q3.sep,?_⟩⟩
        ·exact SRs.mono q1.b (fun _ _ h=>h) _ _ (ZX _ _ (nG k).2 eB)
        ·exact q3.free
       refine er (B0:=B1) (F0:=Fr) n _ _ _ τ (some σ.n) _ ⟨env,r,_,_,gW⟩ bG hF fun e s3 pR σ3 h7 h8=>?_;cases e with
       |normal =>
        have iH:σ3.get σ.n=some rdy:=by obtain⟨B',F',pl',tb',q1,q2⟩:=h8;exact q2.le.2 _ _ (q1.f.2 _ _ gW)
        refine⟨iH,?_⟩;have h9:=h8.lpUpd (b:=eI) gW lH;have lG:(Fr.upd σ.n eI).get σ.n=some eI:=Heap.get_upd_self _ _ (by rw[eW];omega);refine dG (B0:=B1) (F0:=Fr.upd σ.n eI) n _ _ _ _ (some σ.n) _ ⟨env,r,_,_,lG⟩ h9 h7 fun e s4 pS σ4 bM fg=>?_;have nD:σ4.get σ.n=some eI:=by obtain⟨B',F',pl',tb',q1,q2⟩:=fg;exact q2.le.2 _ _ (q1.f.2 _ _ lG)
        have rr:σ.n<σ4.n:=σ4.lt nD;unfold LV at bM;split at bM
        ·rename_i l vs kP;obtain⟨rfl,bM⟩:=bM;have cD:GRel P B1 (Fr.upd σ.n eI) D0 ⟨l,s4.own,s4.nx⟩ vs σ4:=by
          obtain⟨B',F',pl',tb',q1,q2⟩:=fg;have:=q2.obj (2000000+n);rw[kP] at this;exact⟨B',F',pl',tb',q1,q2.bf,q2.le,this,q2.obj,q2.fresh,q2.sep,q2.free⟩
         have kQ:∀ b,((Fr.upd σ.n eI).upd σ.n b).get σ.n=some b:=fun b=>Heap.get_upd_self _ _ (by show σ.n<Fr.n;rw[eW];omega);have pZ:∀ b i,i≠σ.n→((Fr.upd σ.n eI).upd σ.n b).get i=F1.get i:=fun b i e=>by rw[Heap.get_upd_ne _ _ e,Heap.get_upd_ne _ _ e,iV i e]
         refine⟨nD,?_⟩;cases e with
         |normal =>
          obtain⟨d',mR,oq⟩:=bM;refine .inl ⟨rfl,d',oq,?_⟩;have:=(back (YS cD mR) rdy).base (B0:=B1) (F0:=Fr) (.refl _) ⟨Nat.le_refl _,fun i b hb=>?_⟩ fun i b k1 k2=>k2
          ·exact this
          ·by_cases e:i=σ.n
           ·subst e;rw[gW] at hb;rw[kQ];exact hb
           ·rw[pZ _ _ e,←iV i e];exact hb
         |ret =>refine .inr ⟨rfl,_,_,Heap.get_upd_self _ _ rr,.inl ⟨rfl,rfl⟩,hK _ _ _ _ bM (gX (kQ _) (pZ _) (by show Fr.n=_;exact eW) (back cD _))⟩
         |exit id =>refine .inr ⟨rfl,_,_,Heap.get_upd_self _ _ rr,.inr ⟨id,rfl,rfl⟩,hK _ _ _ _ bM (gX (kQ _) (pZ _) (by show Fr.n=_;exact eW) (back cD _))⟩
         |_=>exact bM.elim
        ·exact bM.elim
       |_=>exact h7.elim
      ·
       obtain⟨B',F',pl',tb',q1,q2⟩:=t_;have hle:F'.Le (σ.push rdy):=q2.le.push rdy;have uc:F'.get σ.n=none:=F'.wf _ q2.le.1;have ao:∀ d i,(Qg (Q_ (List.length env) (A.st p d0) (A.own p d0)).own d).live=true→Oid (pl' d) i→i<σ.n:=fun d i h1 h2=>(q2.obj d).id_lt h1 h2;refine⟨B',F'.ins (σ.push rdy) σ.n hle.1,pl',tb',⟨q1.b,Heap.ins_ins q1.f _ _ _,fun i b k1 k2=>?_,q1.d.trans (Dead.push _ _)⟩,⟨q2.bf.trans (hle.ins _),hle.ins_le _,q2.env,fun d=>(q2.obj d).mono (.refl _) (fun _ _ h=>h) fun h1 i h2=>Heap.get_push_lt _ _ (ao d i h1 h2),fun d i h1 h2=>?_,q2.sep,q2.free⟩⟩
       ·by_cases e:i=σ.n
        ·subst e;exact B'.wf _ q2.leB.1
        ·rw[iV i e] at k1;exact q1.x i b k1 k2
       ·rw[Heap.ins_ne _ _ _ (Nat.ne_of_lt (ao d i h1 h2))];exact q2.fresh d i h1 h2
    ·exact h.elim
   ·exact h.elim
  ·exact h.elim
 |bad=>intro B0 F0 D0 n K s env σ ro Q bJ hR h hK;exact h.elim
 |ret=>intro B0 F0 D0 n K s env σ ro Q bJ hR h hK;exact hK _ _ _ _ h hR
 |exit id=>intro B0 F0 D0 n K s env σ ro Q bJ hR h hK;exact hK _ _ _ _ h hR
 |seq a b er dG =>
  intro B0 F0 D0 n K s env σ ro Q bJ hR h hK;refine er n _ s env σ ro _ bJ hR h fun e s' af σ' h1 h2=>?_;cases e with
  |normal=>exact dG n K s' af σ' ro Q bJ h2 h1 hK
  |_=>exact hK _ _ _ _ h1 h2
 |cond c a b er dG =>
  intro B0 F0 D0 n K s env σ ro Q bJ hR h hK;simp only[gwp] at h;split at h
  ·rename_i t ht;have ng:=hR;obtain⟨B,F,pl,tb,hB,hG⟩:=hR;have:=KB hG ht;simp only[vwp,this,PN];cases t with
   |true=>exact⟨fun _=>er n K s env σ ro Q bJ ng h hK,fun e=>by cases e⟩
   |false=>exact⟨(fun e=>by cases e),fun _=>dG n K s env σ ro Q bJ ng h hK⟩
  split at h
  ·rename_i t ht;obtain⟨B,F,pl,tb,hB,hG⟩:=hR;have:=JH ht (hG.evs Gds.nil c);simp only[vwp,this,PN];split at h
   ·rename_i A hA;obtain⟨p,I,hF,hI⟩:=h;have fin:∀ e s' af σ',FD s.env.length A p I K e s'→GRel P B0 F0 D0 s' af σ'→Q e af σ':=fun e s' af σ' h1 h2=>by
     cases e with
     |normal =>obtain⟨d,h3,h4⟩:=h1;exact hK _ _ _ _ (hI d h4) (YV h2 h3)
     |_=>exact hK _ _ _ _ h1 h2
    exact⟨fun e=>er n _ s env σ ro Q bJ ⟨B,F,pl,tb,hB,hG⟩ (hF.1 e) fin,fun e=>dG n _ s env σ ro Q bJ ⟨B,F,pl,tb,hB,hG⟩ (hF.2 e) fin⟩
   exact⟨fun e=>er n K s env σ ro Q bJ ⟨B,F,pl,tb,hB,hG⟩ (h.1 e) hK,fun e=>dG n K s env σ ro Q bJ ⟨B,F,pl,tb,hB,hG⟩ (h.2 e) hK⟩
  ·exact h.elim
 |block id b ih =>
  intro B0 F0 D0 n K s env σ ro Q bJ hR h hK;refine ih id _ s env σ ro _ bJ hR h fun e s' af σ' h1 h2=>?_;cases e with
  |exit gu =>
   simp only[C9] at h1;simp only[T6];split
   ·rename_i e;rw[if_pos e] at h1;exact hK _ _ _ _ h1 h2
   ·rename_i e;rw[if_neg e] at h1;exact hK _ _ _ _ h1 h2
  |_=>exact hK _ _ _ _ h1 h2
 |loop b ih =>
  intro B0 F0 D0 n K s env σ ro Q bJ hR h hK;simp only[gwp] at h;split at h
  ·rename_i A hA;obtain⟨p,d0,h1,I,μ,h2,h3⟩:=h;have hlen:s.env.length=env.length:=by obtain⟨B,F,pl,tb,_,hG⟩:=hR;exact hG.env.length
   have hk:∀ d,(A.st p d).map (·.1)=A.sl:=fun d=>GX _ _;refine⟨A.sl,fun m vs σ'=>∃ d,I d∧μ d=m∧GRel P B0 F0 D0 (Q_ s.env.length (A.st p d) (A.own p d)) (Jv A.sl vs (List.replicate env.length poison)) σ',μ d0,⟨d0,h2,rfl,?_⟩,fun m vs σ' ⟨d,h4,h5,h6⟩=>?_⟩
   ·have:=Ml hR h1 s.env.length;rw[hk d0,hlen] at this;rw[hlen];exact this
   ·refine ih n _ _ _ σ' ro _ bJ h6 (h3 d h4) fun e s' af aK h7 h8=>?_;cases e with
    |normal =>
     simp only[Ek] at h7;cases mJ:Q1h s'.own with
     |false=>rw[mJ] at h7;exact h7.elim
     |true =>
     rw[mJ] at h7;obtain⟨d',h9,bM,fg⟩:=h7;refine⟨μ d',by omega,d',bM,rfl,?_⟩;have:=Ml h8 h9 s.env.length;rw[hk d',hlen] at this;rw[hlen];exact this
    |_=>exact hK _ _ _ _ h7 h8
  ·exact h.elim
end
end Go.V
namespace Go.V
open Go
def PX (s:St):VResult→Option SV
 |.tmp t=>some (s.env.getD t .any)
 |.cell a agg size=>bif Nat.blt 0 size then Au s.own agg size (s.env.getD a .any) else none
def Nw (s:St) (rs:List VResult):Option SV :=
 match rs with
 |[r]=>PX s r
 |rs=>(rs.mapM (PX s)).map .tup
def EP (mp:List (Nat×Option Nat)) (j:Nat) (a:Option Nat):Option (List (Nat×Option Nat)) :=
 if (Qs mp j).isSome then none else match a with
 |some x=>if mp.any fun p=>p.2==some x then none else some (mp++[(j,a)])
 |none=>some (mp++[(j,a)])
mutual
def LM:SV→SV→List (Nat×Option Nat)→Option (List (Nat×Option Nat))
 |.lst j,v,mp=>match v with|.lst a=>EP mp j (some a)|.nilS=>EP mp j none|_=>none
 |.map j,v,mp=>match v with|.map a=>EP mp j (some a)|_=>none
 |.dd j w,v,mp=>match w with
  |.out=>(match v with
   |.dd a w'=>(match w' with|.out=>EP mp j (some a)|_=>none)
   |.nilS=>EP mp j none
   |_=>none)
  |_=>none
 |.box j _,v,mp=>match v with|.box a _=>EP mp j (some a)|_=>none
 |.agg l,v,mp=>match v with|.agg l'=>Lf l l' mp|_=>none
 |.tup l,v,mp=>match v with|.tup l'=>Lf l l' mp|_=>none
 |.any,_,mp=>some mp
 |.val _ _,_,mp=>some mp
 |.nilS,_,mp=>some mp
 |.nilP,_,mp=>some mp
 |.nilM,_,mp=>some mp
 |.nilF,_,mp=>some mp
 |.sub _ _ _ _,_,_|.elp _ _ _ _,_,_|.grd _ _,_,_|.cp _ _,_,_|.fn _ _ _,_,_|.rop _ _ _ _,_,_|.pf _ _ _ _,_,_|.bid _ _,_,_=>none
def Lf:List SV→List SV→List (Nat×Option Nat)→Option (List (Nat×Option Nat))
 |[],_,mp=>some mp
 |s::ss,l,mp=>match l with
  |v::vs=>match LM s v mp with|some mp=>Lf ss vs mp|none=>none
  |[]=>none
end
def E8 (s:St) (mp:List (Nat×Option Nat)):Nat→List OB→Prop
 |_,[]=>True
 |j,b::r=>Ab s mp j b∧E8 s mp (j+1) r
def Ko (rs:List VResult) (v:SV) (bs:List OB):Exit→St→Prop:=fun e s =>
 let fin:=match Nw s rs with
  |some r=>(match LM v r [] with
   |some mp=>Dp mp v r∧E8 s mp 0 bs
   |none=>False)
  |none=>False
 match e with
 |.normal=>fin
 |.ret=>fin
 |_=>False
section
variable {P:Program}{B F:Heap}{pl:Nat→Value}{tb:Nat→Option Bool}{s:St}{env:Env}{σ:Heap}
theorem Gp (hG:Gam P B F pl tb s env σ) {r:VResult}{v:SV}(h:PX s r=some v):∃ u,ZW env σ r=some u∧SR P B pl tb v u:=by
 cases r with
 |tmp t=>obtain rfl:=osj h;exact⟨_,rfl,hG.env.getD t undef⟩
 |cell a agg size =>
  simp only[PX] at h;cases hb:Nat.blt 0 size with
  |false=>rw[hb] at h;cases h
  |true =>rw[hb] at h;obtain⟨i,o,c,e,wr,t,u,h1,h2,h3,h4⟩:=Da hG.leB hG.obj (by simpa [Nat.blt_eq] using hb) h (hG.env.getD a undef);refine⟨u,?_,h4⟩;simp only[ZW,Q9,Q8,h1,h2,h3];rfl
theorem VH (hG:Gam P B F pl tb s env σ) {rs:List VResult}{v:SV}(h:Nw s rs=some v):∃ u,JE env σ rs=some u∧SR P B pl tb v u:=by
 have all:∀ (rs:List VResult) (l:List SV),rs.mapM (PX s)=some l→∃ us,rs.mapM (ZW env σ)=some us∧SRs P B pl tb l us:=by
  intro rs;induction rs with
  |nil=>intro l h;simp at h;subst h;exact⟨[],rfl,rfl⟩
  |cons r rs ih =>
   intro l h;rw[List.mapM_cons] at h;cases h1:PX s r with
   |none=>simp[h1] at h
   |some a =>
    cases h2:rs.mapM (PX s) with
    |none=>simp[h1,h2] at h
    |some l' =>simp[h1,h2] at h;subst h;obtain⟨u,h3,h4⟩:=Gp hG h1;obtain⟨us,h5,h6⟩:=ih l' h2;exact⟨u::us,by rw[List.mapM_cons];simp[h3,h5],by simp only[SRs];exact⟨u,us,rfl,h4,h6⟩⟩
 have tup:(rs.mapM (PX s)).map SV.tup=some v→∃ u,(rs.mapM (ZW env σ)).map (fun vs=>Value.tuple vs.toArray)=some u∧SR P B pl tb v u:=fun h=>by simp only[Option.map_eq_some_iff] at h;obtain⟨l,h1,rfl⟩:=h;obtain⟨us,h2,h3⟩:=all rs l h1;exact⟨.tuple us.toArray,by rw[h2];rfl,by simp only[SR];exact⟨us,rfl,h3⟩⟩
 match rs,h,tup with
 |[r],h,_=>exact Gp hG h
 |[],h,tup=>exact tup h
 |_::_::_,h,tup=>exact tup h
theorem Vn {mp bR:List (Nat×Option Nat)}{j:Nat}{a:Option Nat}(h:EP mp j a=some bR) (hi:Inj mp):Inj bR:=by
 unfold EP at h;split at h
 ·cases h
 ·split at h
  ·rename_i x;split at h
   ·cases h
   ·rename_i hc;obtain rfl:=osj h;have cD:∀ d,Qs mp d≠some (some x):=fun d hd=>by
     obtain⟨p,h1,h2,h3⟩:=T2 hd;exact hc (List.any_eq_true.2 ⟨p,h1,by rw[h3];simp⟩)
    intro t1 t2 a' h1 h2;rw[Y5] at h1 h2;split at h1
    ·rename_i y1 e1;split at h2
     ·rename_i y2 e2;obtain rfl:=osj h1;obtain rfl:=osj h2;exact hi t1 t2 a' e1 e2
     ·split at h2
      ·obtain rfl:=osj (osj h2);obtain rfl:=osj h1;exact absurd e1 (cD t1)
      ·cases h2
    ·split at h1
     ·obtain rfl:=osj (osj h1);split at h2
      ·rename_i y2 e2;obtain rfl:=osj h2;exact absurd e2 (cD t2)
      ·split at h2
       ·omega
       ·cases h2
     ·cases h1
  ·obtain rfl:=osj h;intro t1 t2 a' h1 h2;rw[Y5] at h1 h2;split at h1
   ·rename_i y1 e1;split at h2
    ·rename_i y2 e2;obtain rfl:=osj h1;obtain rfl:=osj h2;exact hi t1 t2 a' e1 e2
    ·split at h2<;>cases h2
   ·split at h1<;>cases h1
mutual
theorem Ro:∀ (v r:SV) (mp bR:List (Nat×Option Nat)),LM v r mp=some bR→Inj mp→Inj bR
 |.lst j,r,mp,bR,h,hi=>by
  simp only[LM] at h;split at h
  ·exact Vn h hi
  ·exact Vn h hi
  ·cases h
 |.map j,r,mp,bR,h,hi=>by
  simp only[LM] at h;split at h
  ·exact Vn h hi
  ·cases h
 |.dd j w,r,mp,bR,h,hi=>by
  simp only[LM] at h;split at h
  ·split at h
   ·split at h
    ·exact Vn h hi
    ·cases h
   ·exact Vn h hi
   ·cases h
  ·cases h
 |.box j _,r,mp,bR,h,hi=>by
  simp only[LM] at h;split at h
  ·exact Vn h hi
  ·cases h
 |.agg l,r,mp,bR,h,hi=>by
  simp only[LM] at h;split at h
  ·exact Gm l _ mp bR h hi
  ·cases h
 |.tup l,r,mp,bR,h,hi=>by
  simp only[LM] at h;split at h
  ·exact Gm l _ mp bR h hi
  ·cases h
 |.any,r,mp,bR,h,hi|.val _ _,r,mp,bR,h,hi|.nilS,r,mp,bR,h,hi|.nilP,r,mp,bR,h,hi|.nilM,r,mp,bR,h,hi|.nilF,r,mp,bR,h,hi=>by simp only[LM] at h;obtain rfl:=osj h;exact hi
 |.sub _ _ _ _,r,mp,bR,h,hi|.elp _ _ _ _,r,mp,bR,h,hi|.grd _ _,r,mp,bR,h,hi|.cp _ _,r,mp,bR,h,hi|.fn _ _ _,r,mp,bR,h,hi|.rop _ _ _ _,r,mp,bR,h,hi|.pf _ _ _ _,r,mp,bR,h,hi|.bid _ _,r,mp,bR,h,hi=>by cases h
theorem Gm:∀ (v r:List SV) (mp bR:List (Nat×Option Nat)),Lf v r mp=some bR→Inj mp→Inj bR
 |[],r,mp,bR,h,hi=>by simp only[Lf] at h;obtain rfl:=osj h;exact hi
 |s::ss,[],mp,bR,h,hi=>by cases h
 |s::ss,r::rs,mp,bR,h,hi=>by
  simp only[Lf] at h;split at h
  ·rename_i ru h1;exact Gm ss rs ru bR h (Ro s r mp ru h1 hi)
  ·cases h
end
theorem P_ {mp:List (Nat×Option Nat)}:∀ (bs:List OB) (n:Nat),E8 s mp n bs→∀ j b,bs[j]?=some b→Ab s mp (n+j) b
 |[],n,_,j,b,hj=>by simp at hj
 |b0::r,n,h,j,b,hj=>by
  obtain⟨h1,h2⟩:=h;cases j with
  |zero=>simp at hj;subst hj;exact h1
  |succ j =>
   have:=P_ r (n+1) h2 j b (by simpa using hj)
   rwa [Nat.add_assoc,Nat.add_comm 1 j] at this
mutual
theorem RQ {n:Nat}{π:Nat→Nat}:∀ (v:SV) (u:Value),v.ret 0=true→SR P B pl tb v u→Ren n π u u
 |.val k x,u,h,hs=>by
  simp only[SR] at hs;cases k with
  |i ik=>simp only[KC] at hs;obtain rfl:=(List.cons.inj hs).1;exact .plain _ rfl
  |bo=>simp only[KC] at hs;obtain rfl:=(List.cons.inj hs).1;exact .plain _ rfl
  |st=>simp only[KC] at hs;obtain rfl:=(List.cons.inj hs).1;exact .plain _ rfl
  |list k=>cases h
  |pair a b =>have h1:=KC.length hs;have h2:=a.size_pos;have h3:=b.size_pos;simp only[Kind.size,List.length_singleton] at h1;omega
 |.nilS,u,_,hs|.nilP,u,_,hs|.nilM,u,_,hs|.nilF,u,_,hs=>by simp only[SR] at hs;subst hs;exact .plain _ rfl
 |.lst j,u,h,_|.box j _,u,h,_|.map j,u,h,_=>by simp[SV.ret,Nat.blt_eq] at h
 |.dd j w,u,h,_=>by cases w<;>simp[SV.ret,Nat.blt_eq] at h
 |.agg l,u,h,hs=>by simp only[SR] at hs;obtain⟨cs,rfl,h2⟩:=hs;have:=Dg (n:=n) (π:=π) l cs h h2;exact .agg _ _ rfl fun i h3 _=>this _ (by simp)
 |.tup l,u,h,hs=>by simp only[SR] at hs;obtain⟨cs,rfl,h2⟩:=hs;have:=Dg (n:=n) (π:=π) l cs h h2;exact .tuple _ _ rfl fun i h3 _=>this _ (by simp)
 |.any,_,h,_|.bid _ _,_,h,_|.grd _ _,_,h,_|.sub _ _ _ _,_,h,_|.elp _ _ _ _,_,h,_|.rop _ _ _ _,_,h,_|.cp _ _,_,h,_|.fn _ _ _,_,h,_|.pf _ _ _ _,_,h,_=>by cases h
theorem Dg {n:Nat}{π:Nat→Nat}:∀ (v:List SV) (u:List Value),SVs.ret 0 v=true→SRs P B pl tb v u→∀ x∈u,Ren n π x x
 |[],u,_,hs=>by simp only[SRs] at hs;subst hs;intro x hx;cases hx
 |s::ss,u,h,hs=>by
  simp only[SVs.ret,Bool.and_eq_true] at h;simp only[SRs] at hs;obtain⟨x,y,rfl,h1,h2⟩:=hs;intro z hz;rcases List.mem_cons.1 hz with rfl|hz
  ·exact RQ s z h.1 h1
  ·exact Dg ss y h.2 h2 z hz
end
theorem SW (exact:Bool) {σ0:Heap}{sf:St}{kR:Env}{σf:Heap}(hR:GRel P σ0 σ0 σ0 sf kR σf) {rs:List VResult}{v:SV}{bs:List OB}{e:Exit}(hv:v.ret bs.length=true) (hb:bs.all OB.ret=true) (h:Ko rs v bs e sf) (hx:exact=true→bs.all OB.isL=true∧Yj v=true) :
  Q0m σ0 rs (fun u σ'=>if exact then u=Yo (B4 σ0 bs) v∧σ'=DG σ0 bs else Ret P σ0 v bs u σ') e kR σf:=by
 have main:(match Nw sf rs with
  |some r=>(match LM v r [] with
   |some mp=>Dp mp v r∧E8 sf mp 0 bs
   |none=>False)
  |none=>False)→QW (JE kR σf rs) fun u=>∃ v' σ',DropTo σ0 u σf v' σ'∧(if exact then v'=Yo (B4 σ0 bs) v∧σ'=DG σ0 bs else Ret P σ0 v bs v' σ'):=fun h=>by
  split at h
  ·rename_i r hr;split at h
   ·rename_i mp nr;obtain⟨h1,h2⟩:=h;obtain⟨B,F,pl,tb,⟨hB,hF,_,hd⟩,hG⟩:=hR;obtain⟨u,h3,h4⟩:=VH hG hr;have ij:=Vf v r u h1 h4;have ep:=Ro v r [] mp nr (fun t t' a h=>by cases h);have ao:∀ j b,bs[j]?=some b→Ab sf mp j b:=fun j b hj=>by have:=P_ bs 0 h2 j b hj;rwa [Nat.zero_add] at this
    rw[h3];have hle:σ0.Le σf:=hF.trans hG.le;have hA:Agree σ0 σf:=fun i hi=>by
     cases hg:σ0.get i with
     |none=>exact hd.2 i hi hg
     |some b=>exact hle.2 i b hg
    have aS:∀ j b,bs[j]?=some b→OR P hNil (VS pl mp) Jm σf (VS pl mp j) b∧∀ i,Oid (VS pl mp j) i→σ0.get i=none∧σ0.n≤i:=fun j b hj=>by
     obtain⟨k1,k2⟩:=QT hG (ao j b hj);have df:=List.all_eq_true.1 hb b (List.mem_of_getElem? hj);have av:b.live=true:=by cases b<;>first|rfl|cases df
     refine⟨k1.retd df fun _ _=>rfl,fun i hi=>?_⟩;obtain⟨a,e1,e2,e3⟩:=k2 av i hi;have lH:=hG.fresh a i e2 e3;have hn:σ0.get i=none:=by
      cases hg:σ0.get i with
      |none=>rfl
      |some b=>rw[hF.2 i b hg] at lH;cases lH
     refine⟨hn,Nat.le_of_not_lt fun ah=>?_⟩;have br:=hd.2 i ah hn;have ao:=hG.obj a;cases ho:Qg sf.own a with
     |dead=>rw[ho] at e2;cases e2
     |lst ty k xs nl =>
      rw[ho] at ao;rcases ao with⟨_,_,h2⟩|⟨_,i',cap,c,t,h2,_,h3,_⟩
      ·rw[h2] at e3;cases e3
      ·rw[h2] at e3;obtain rfl:=osj e3;rw[h3] at br;cases br
     |cells l u=>rw[ho] at ao;obtain⟨i',c,e,t,h2,h3,_⟩:=ao;rw[h2] at e3;obtain rfl:=osj e3;rw[h3] at br;cases br
     |mapE kk vk m key n=>rw[ho] at ao;obtain⟨i',es,cl,r,e,h2,h3,_⟩:=ao;rw[h2] at e3;obtain rfl:=osj e3;rw[h3] at br;cases br
     |map kk vk m=>rw[ho] at ao;obtain⟨i',es,cl,h2,h3,_⟩:=ao;rw[h2] at e3;obtain rfl:=osj e3;rw[h3] at br;cases br
     |stk l vals=>rw[ho] at e2;cases e2
     |lpf l q s=>rw[ho] at ao e2;obtain⟨h2,_,h3⟩:=ao;rw[h2] at e3;obtain rfl:=osj e3;have h3:=h3 e2;rw[br] at h3;cases h3
     |iter kk vk m dn=>rw[ho] at ao;obtain⟨j',i',es,cl,wr,seen,h2,h3,_⟩:=ao;rw[h2] at e3;obtain rfl:=osj e3;rw[h3] at br;cases br
     |deep ty q k xs nl hh =>rw[ho] at ao;obtain⟨is,_,d2,d3,_⟩:=DP.open ao;obtain⟨c,e,t,h⟩:=d2.cells i ((d3 i).1 e3);rw[h] at br;cases br
    have eR:∀ j j' i,j<bs.length→j'<bs.length→j≠j'→Oid (VS pl mp j) i→Oid (VS pl mp j') i→False:=fun j j' i hj cS aC hi cn=>by
     have bh:=List.getElem?_eq_getElem hj;have bY:=List.getElem?_eq_getElem cS;have r1:=List.all_eq_true.1 hb _ (List.getElem_mem hj);have r2:=List.all_eq_true.1 hb _ (List.getElem_mem cS);have l1:(bs[j]).live=true:=by cases n7:bs[j]<;>first|rfl|(rw[n7] at r1;cases r1)
     have l2:(bs[j']).live=true:=by cases n7:bs[j']<;>first|rfl|(rw[n7] at r2;cases r2)
     obtain⟨a,e1,e2,e3⟩:=(QT hG (ao j _ bh)).2 l1 i hi;obtain⟨a',ud,lC,uf⟩:=(QT hG (ao j' _ bY)).2 l2 i cn;by_cases e:a=a'
     ·subst e;exact aC (ep j j' a e1 ud)
     ·exact hG.sep a a' i e e2 lC e3 uf
    cases hex:exact with
    |true =>obtain⟨hl,cq⟩:=hx hex;have nH:=Lj (P:=P) hA hle.1 hv cq hb hl (pl:=VS pl mp) (u:=u) (fun j b hj=>⟨(aS j b hj).1,fun i hi=>((aS j b hj).2 i (TV hi)).2⟩) (fun j j' i a b c d e=>eR j j' i a b c (TV d) (TV e)) (ij.retd (fun j hj=>rfl) _ _ hv);exact⟨_,_,nH,by simp⟩
    |false =>
     simp only[Bool.false_eq_true,if_false];by_cases b7:bs=[]
     ·subst b7;refine⟨u,σ0,.rename (fun i=>i) (Nat.le_refl _) (fun i hi=>⟨rfl,(hA i hi).symm,.inl (hA i hi)⟩) (fun i k1 k2=>by omega) (fun _ _ _ _ _ _ h=>h) (RQ v u hv ij),?_⟩;exact⟨⟨Heap.Le.refl _,Dead.refl _⟩,fun _=>rfl,X7,(fun j b hj=>by simp at hj),(fun j j' i hj=>by simp at hj),ij.retd (fun j hj=>by simp at hj) _ _ hv⟩
     ·exact⟨u,σf,.refl _ _ _,⟨hle,hd⟩,fun e=>absurd e b7,VS pl mp,aS,eR,ij.retd (fun j hj=>rfl) _ _ hv⟩
   ·exact h.elim
  ·exact h.elim
 cases e with
 |normal=>exact main h
 |ret=>exact main h
 |_=>exact h.elim
def QS (nt:Nat) (args:List SV):St:=⟨args++List.replicate (nt-args.length) .any,[],0⟩
theorem L9 {args:List SV}{vs:List Value}(h:SRs P σ X7 Jm args vs) (nt:Nat):GRel P σ σ σ (QS nt args) (vs++List.replicate (nt-vs.length) undef) σ:=by
 have ug:∀ n,SRs P σ X7 Jm (List.replicate n .any) (List.replicate n undef):=by
  intro n;induction n with
  |zero=>simp[SRs]
  |succ n ih=>simp only[List.replicate_succ,SRs];exact⟨_,_,rfl,by simp[SR],ih⟩
 refine⟨σ,σ,X7,Jm,⟨Heap.Le.refl _,Heap.Le.refl _,(fun i b h1 h2=>by rw[h2] at h1;cases h1),Dead.refl _⟩,Heap.Le.refl _,Heap.Le.refl _,?_,fun d=>trivial,(fun d i hl=>by cases hl),(fun d d' i _ hl=>by cases hl),fun _ _=>rfl⟩;have:=h.length;simp only[QS,this];exact h.append (ug _)
theorem Fun.okC {f:Nat}{vc:VCode}{rs:List VResult}{nt:Nat}(h:Fun P f vc rs nt) (hm:P.follows .mixedOrders=true) {sp:CSp}
  (hb:∀ ap,FQ P ap→∀ args c v bs,sp ap args=some (c,v,bs)→c→∃ (C:Cx) (L:List (Nat×LoopAnn)) (gY:List SV),(∀ σ vs,SRs P σ X7 Jm args vs→SRs P σ X7 Jm gY vs)∧COk P C∧gwp C L vc 0 (Ko rs v bs) (QS nt gY)):OkC P f sp:=by
 intro ap fE σ args vs c v bs aD ew hv b7 hc;obtain⟨C,L,gY,h1,h2,h3⟩:=hb ap fE args c v bs ew hc;have main:∀ exact:Bool,(exact=true→bs.all OB.isL=true∧Yj v=true)→VCalled P f vs σ fun u σ'=>if exact then u=Yo (B4 σ bs) v∧σ'=DG σ bs else Ret P σ v bs u σ':=fun exact hx=>by refine h.calls hm Pj ?_;exact Tn h2 vc 0 _ _ _ σ none _ trivial (L9 (h1 σ vs aD) nt) h3 fun e s' af σ' k1 k2=>SW exact k2 hv b7 k1 hx
 refine⟨(main false fun e=>by cases e).mono fun u σ' hr=>by simpa using hr,fun hl cq=>(main true fun _=>⟨hl,cq⟩).mono fun u σ' hr=>by simpa using hr⟩
theorem OkC.true {f:Nat}{sp:CSp}(h:OkC P f sp) (he:Jy P f) {σ:Heap}{args:List SV}{vs:List Value}(ha:SRs P σ X7 Jm args vs) {c:Prop}(hs:sp (fun _ _=>none) args=some (c,.val .bo true,[])) (hc:c) :
  VCallsTo P f vs σ fun v _=>v=.bool true:=by
 have:=(h (fun _ _=>none) (fun _ _ _ _ _ _ _ _ _ h=>by cases h) σ args vs c _ [] ha hs rfl rfl hc).1;intro ρ w aw hH hL;rcases this ρ w aw hH hL with⟨_,h2⟩|⟨c',_,h2⟩
 ·refine h2.mono fun e w' ⟨c',h3,h4⟩=>⟨c',h3,h4.mono fun u σ' hr=>?_⟩;have:=(hr.flat rfl).2;simpa only [SR,KC,List.cons.injEq,and_true] using this
 ·have:=h2 w (Like.refl ρ w);rw[Kr he aw w] at this;cases this
end
end Go.V
namespace Go.V
open Go
mutual
inductive AP:Type→Type 1 where
 |k (k:Kind):AP k.T
 |agg {D:Type}(l:AL D):AP D
 |ptr {D:Type}(l:AL D):AP D
 |fn (ks:List Kind) (r:Kind):AP ((AT ks→Prop)×(AT ks→r.T))
 |nilS:AP Unit
 |any:AP Unit
inductive AL:Type→Type 1 where
 |nil:AL Unit
 |one {D:Type}(a:AP D):AL D
 |cons {D E:Type}(a:AP D) (r:AL E):AL (D×E)
end
def BY:(ks:List Kind)→AT ks→List SV
 |[],_=>[]
 |[k],x=>[Rc k x]
 |k::k'::ks,x=>Rc k x.1::BY (k'::ks) x.2
abbrev Ap:=SV→List SV→Option (Prop×SV)
def As (ap:Ap) (f:SV) (ks:List Kind) (r:Kind) (x:AT ks):Prop:=match ap f (BY ks x) with
 |some (c,v)=>(match gap.asV r v with|some _=>c|none=>False)
 |none=>False
def fnP (ap:Ap) (f:SV) (ks:List Kind) (r:Kind) (x:AT ks):r.T:=match ap f (BY ks x) with
 |some (_,v)=>(match gap.asV r v with|some y=>y|none=>r.dflt)
 |none=>r.dflt
mutual
def AP.dec (ap:Ap):{D:Type}→(p:AP D)→SV→Option D
 |_,.k k,v=>match k with
  |.list k=>view [] k v
  |.i ik=>BA (.i ik) [v]
  |.bo=>BA .bo [v]
  |.st=>BA .st [v]
  |.pair _ _=>none
 |_,.agg l,v=>match v with|.agg vs=>AL.dec ap l vs|_=>none
 |_,.nilS,v=>match v with|.nilS=>some ()|_=>none
 |_,.any,_=>some ()
 |_,.ptr l,v=>match v with|.cp vs 0=>AL.dec ap l vs|_=>none
 |_,.fn ks r,v=>match v with
  |.fn g a b=>some (As ap (.fn g a b) ks r,fnP ap (.fn g a b) ks r)
  |.pf rv r' cF p=>some (As ap (.pf rv r' cF p) ks r,fnP ap (.pf rv r' cF p) ks r)
  |_=>none
def AL.dec (ap:Ap):{D:Type}→(l:AL D)→List SV→Option D
 |_,.nil,vs=>match vs with|[]=>some ()|_=>none
 |_,.one a,vs=>match vs with|[v]=>AP.dec ap a v|_=>none
 |_,.cons a r,vs=>match vs with
  |v::vs=>(match AP.dec ap a v,AL.dec ap r vs with|some x,some y=>some (x,y)|_,_=>none)
  |[]=>none
end
mutual
def AP.can:{D:Type}→(p:AP D)→D→SV
 |_,.k k,x=>.val k x
 |_,.agg l,x=>.agg (AL.can l x)
 |_,.nilS,_=>.nilS
 |_,.any,_=>.any
 |_,.ptr l,x=>.cp (AL.can l x) 0
 |_,.fn ks r,x=>.pf ks r x.1 x.2
def AL.can:{D:Type}→(l:AL D)→D→List SV
 |_,.nil,_=>[]
 |_,.one a,x=>[AP.can a x]
 |_,.cons a r,x=>AP.can a x.1::AL.can r x.2
end
def Y_ {D:Type}(l:AL D) (pre:D→Prop) (res:D→SV) (obs:D→List OB):CSp:=fun ap args=>match AL.dec ap l args with
 |some d=>some (pre d,res d,obs d)
 |none=>none
section
variable {P:Program}{σ:Heap}
theorem U9:∀ {ks:List Kind}{x:AT ks}{vs:List Value},By σ ks x vs→SRs P σ X7 Jm (BY ks x) vs
 |[],x,vs,h=>by simp only[By] at h;subst h;simp[BY,SRs]
 |[k],x,vs,h=>by obtain⟨v,rfl,h1⟩:=h;simp only[BY,SRs];exact⟨v,[],rfl,J0 h1,rfl⟩
 |k::k'::ks,x,vs,h=>by obtain⟨v,cK,rfl,h1,h2⟩:=h;simp only[BY,SRs];exact⟨v,cK,rfl,J0 h1,U9 h2⟩
theorem Ru {ap:Ap}(fE:FQ P ap) {f:SV}{v:Value}(hf:SR P σ X7 Jm f v) (hv:∃ g a b,v=.func (.func g) a b) (ks:List Kind) (r:Kind):SR P σ X7 Jm (.pf ks r (As ap f ks r) (fnP ap f ks r)) v:=by
 obtain⟨g,a,b,rfl⟩:=hv;simp only[SR];refine⟨g,a,b,rfl,fun x hd τ vs hle cm=>?_⟩;unfold As at hd;split at hd
 ·rename_i c u nJ;split at hd
  ·rename_i y hy;obtain⟨h1,g',a',b',h2,h3⟩:=fE τ f (BY ks x) c u (.func (.func g) a b) vs (SR.mono hle (fun _ _ h=>h) _ _ hf) (U9 cm) nJ hd;obtain⟨rfl,rfl,rfl⟩:=(by simpa using h2:g=g'∧a=a'∧b=b');have hp:fnP ap f ks r x=y:=by simp[fnP,nJ,hy]
   rw[hp];exact h3.mono fun u' σ' hu=>⟨hu.1,(Gu hy hu.2).vcall (RW _)⟩
  ·exact hd.elim
 ·exact hd.elim
mutual
theorem AP.dec_sound {ap:Ap}(fE:FQ P ap):∀ {D:Type}(p:AP D) {v:SV}{x:D}{u:Value},AP.dec ap p v=some x→SR P σ X7 Jm v u→SR P σ X7 Jm (AP.can p x) u
 |_,.k k,v,x,u,h,hs=>by
  have one:SRs P σ X7 Jm [v] [u]:=by simp only[SRs];exact⟨u,[],rfl,hs,rfl⟩
  simp only[AP.can,SR];cases k with
  |list k =>have:=Xo (own:=[]) (Heap.Le.refl σ) (fun d=>(trivial:OR P σ X7 Jm σ (X7 d) .dead)) (show view [] k v=some x from h) hs;exact⟨u,rfl,this⟩
  |i ik=>exact QJ (k:=.i ik) h one
  |bo=>exact QJ (k:=.bo) h one
  |st=>exact QJ (k:=.st) h one
  |pair a b=>cases h
 |_,.agg l,v,x,u,h,hs=>by
  simp only[AP.dec] at h;split at h
  ·simp only[SR] at hs;obtain⟨cs,rfl,hs⟩:=hs;simp only[AP.can,SR];exact⟨cs,rfl,AL.dec_sound fE l h hs⟩
  ·cases h
 |_,.any,v,x,u,h,hs=>by simp only[AP.can,SR]
 |_,.nilS,v,x,u,h,hs=>by
  simp only[AP.dec] at h;split at h
  ·simp only[AP.can];exact hs
  ·cases h
 |_,.ptr l,v,x,u,h,hs=>by
  simp only[AP.dec] at h;split at h
  ·simp only[SR] at hs;obtain⟨b,c,e,wr,t,h1,rfl,h3⟩:=hs;simp only[AP.can,SR];exact⟨b,c,e,wr,t,h1,rfl,AL.dec_sound fE l h h3⟩
  ·cases h
 |_,.fn ks r,v,x,u,h,hs=>by
  simp only[AP.dec] at h;split at h
  ·obtain rfl:=osj h;exact Ru fE hs (by simp only[SR] at hs;obtain⟨x,y,rfl,_⟩:=hs;exact⟨_,_,_,rfl⟩) ks r
  ·obtain rfl:=osj h;exact Ru fE hs (by simp only[SR] at hs;obtain⟨g,x,y,rfl,_⟩:=hs;exact⟨_,_,_,rfl⟩) ks r
  ·cases h
theorem AL.dec_sound {ap:Ap}(fE:FQ P ap):∀ {D:Type}(l:AL D) {vs:List SV}{x:D}{us:List Value},AL.dec ap l vs=some x→SRs P σ X7 Jm vs us→SRs P σ X7 Jm (AL.can l x) us
 |_,.nil,vs,x,us,h,hs=>by
  simp only[AL.dec] at h;split at h
  ·exact hs
  ·cases h
 |_,.one a,vs,x,us,h,hs=>by
  simp only[AL.dec] at h;split at h
  ·obtain⟨u,rfl,h1⟩:=hs.one;simp only[AL.can,SRs];exact⟨u,[],rfl,AP.dec_sound fE a h h1,rfl⟩
  ·cases h
 |_,.cons a r,vs,x,us,h,hs=>by
  simp only[AL.dec] at h;split at h
  ·rename_i v cK;split at h
   ·rename_i y z h1 h2;obtain rfl:=osj h;simp only[SRs] at hs;obtain⟨u,lB,rfl,h3,h4⟩:=hs;simp only[AL.can,SRs];exact⟨u,lB,rfl,AP.dec_sound fE a h1 h3,AL.dec_sound fE r h2 h4⟩
   ·cases h
  ·cases h
end
theorem CsOk.nil:CsOk P []:=fun f sp h=>by cases h
theorem CsOk.cons {f:Nat}{sp:CSp}{cs:List (Nat×CSp)}(h:OkC P f sp) (t:CsOk P cs):CsOk P ((f,sp)::cs):=fun g uh hg=>by
 simp only[Qs] at hg;cases hb:Nat.beq f g with
 |true=>rw[hb] at hg;obtain rfl:=Nat.eq_of_beq_eq_true hb;obtain rfl:=osj hg;exact h
 |false=>rw[hb] at hg;exact t g uh hg
theorem COk.cons {C:Cx}{f:Nat}{sp:CSp}(h:OkC P f sp) (t:COk P C):COk P {C with cs:=(f,sp)::C.cs}:=⟨CsOk.cons h t.cs,t.xs,t.it,t.yl,t.iy,t.xf⟩
theorem IL {f:Nat}{vc:VCode}{rs:List VResult}{nt:Nat}(h:Fun P f vc rs nt) (hm:P.follows .mixedOrders=true) {D:Type}{l:AL D}{pre:D→Prop}{res:D→SV}{obs:D→List OB}
  {C:Cx}(az:COk P C) (L:D→List (Nat×LoopAnn)) (hb:∀ d,pre d→gwp C (L d) vc 0 (Ko rs (res d) (obs d)) (QS nt (AL.can l d))):OkC P f (Y_ l pre res obs):=by
 refine h.okC hm fun ap fE args c v bs hs hc=>?_;unfold Y_ at hs;split at hs
 ·rename_i d hd;obtain⟨rfl,rfl,rfl⟩:=(by simpa using hs:pre d=c∧res d=v∧obs d=bs);exact⟨C,L d,AL.can l d,fun σ vs hv=>AL.dec_sound fE l hd hv,az,hb d hc⟩
 ·cases hs
theorem Z8 {f:Nat}{vc:VCode}{rs:List VResult}{nt:Nat}(h:Fun P f vc rs nt) (hm:P.follows .mixedOrders=true) {D:Type}{l:AL D}{pre:D→Prop}{res:D→SV}{obs:D→List OB}
  {C:Cx}(az:COk P C) {L:D→List (Nat×LoopAnn)}{V:D→Prop}(hq:∀ d,gwp C (L d) vc 0 (Ko rs (res d) (obs d)) (QS nt (AL.can l d))=V d) (hb:∀ d,pre d→V d):OkC P f (Y_ l pre res obs) :=
 IL h hm az L fun d hp=>(hq d).mpr (hb d hp)
end
end Go.V
namespace Go.V
open Go
def Q2s (key:Nat) (vals:List Value) (rs:List VResult) (K:SV→St→Prop):Exit→St→Prop:=fun e s =>
 let fin:=match Nw s rs,Qg s.own key with
  |some r,.stk l vs=>vs=vals∧K r ⟨l,s.own,s.nx⟩
  |_,_=>False
 match e with
 |.normal=>fin
 |.ret=>fin
 |_=>False
def Fc:XSp:=fun _ args s K=>match args with
 |[v]=>K v s
 |_=>False
def FO (C:Cx) (L:List Value→List (Nat×LoopAnn)) (vc:VCode) (rs:List VResult) (nt:Nat):XSp:=fun d args s K =>
 ∀ vals,gwp {C with off:=100000*(d+1)} (L vals) vc 0 (Q2s (100000*(d+1)-1) vals rs K) ⟨SVs.kill (100000*(d+1)-1) args++List.replicate (nt-args.length) .any,(To (100000*(d+1)-1) vals s).own,s.nx⟩
section
variable {P:Program}
theorem CQ {B:Heap}{pl:Nat→Value}{tb:Nat→Option Bool}:∀ n,SRs P B pl tb (List.replicate n .any) (List.replicate n undef)
 |0=>by simp[SRs]
 |n+1=>by simp only[List.replicate_succ,SRs];exact⟨_,_,rfl,by simp[SR],CQ n⟩
theorem Rs {f:Nat}(h:∀ (v:Value) (σ:Heap) (K:Value→Heap→Prop),K v σ→VCalled P f [v] σ K):XOk P f Fc:=by
 intro B F pl tb s env σ d args vs K R hG ha hx hK
 match args,ha,hx with
 |[v],ha,hx =>simp only[SRs] at ha;obtain⟨u,_,rfl,h1,rfl⟩:=ha;exact h u σ R (hK v s B F pl tb u σ hx (.of hG.bf (.refl _)) hG h1)
 |[],_,hx=>exact hx.elim
 |_::_::_,_,hx=>exact hx.elim
theorem MZ {f:Nat}{vc:VCode}{rs:List VResult}{nt:Nat}(h:Fun P f vc rs nt) (hm:P.follows .mixedOrders=true) {C:Cx}(az:COk P C) (L:List Value→List (Nat×LoopAnn)):XOk P f (FO C L vc rs nt):=by
 intro B F pl tb s env σ d args vs K R hG ha hx hK;have hx:=hx env;refine h.calls hm Pj ?_;have q3:Gam P B F (Jd pl (100000*(d+1)-1) poison) tb (To (100000*(d+1)-1) env s) env σ:=by refine hG.make _ _ poison hG.le (fun _ _ _ _ _=>rfl) ?_ (fun i hl _=>by cases hl);exact SRs.upd (.refl _) (fun _ _ h=>h) (fun j hj=>by simp[Jd,hj]) _ _ hG.env
 have p6:COk P {C with off:=100000*(d+1)}:=⟨az.cs,az.xs,az.it,az.yl,az.iy,az.xf⟩;have aD:=SRs.upd (P:=P) (Heap.Le.refl B) (fun _ _ h=>h) (pl':=Jd pl (100000*(d+1)-1) poison) (tb':=tb) (o:=100000*(d+1)-1) (fun j hj=>by simp[Jd,hj]) _ _ ha;have bG:GRel P B F σ ⟨SVs.kill (100000*(d+1)-1) args++List.replicate (nt-args.length) .any,(To (100000*(d+1)-1) env s).own,s.nx⟩ (vs++List.replicate (nt-vs.length) undef) σ:=by refine⟨B,F,_,tb,.of hG.bf (.refl _),⟨q3.bf,q3.le,?_,q3.obj,q3.fresh,q3.sep,q3.free⟩⟩;rw[ha.length];exact aD.append (CQ _)
 refine Tn p6 vc 0 _ _ _ σ none _ trivial bG hx fun e s' af σ' h1 h2=>?_
 ·have main:(match Nw s' rs,Qg s'.own (100000*(d+1)-1) with
   |some r,.stk l vs=>vs=env∧K r ⟨l,s'.own,s'.nx⟩
   |_,_=>False)→QW (JE af σ' rs) fun v=>∃ v' aK,DropTo σ v σ' v' aK∧R v' aK:=fun h=>by
   obtain⟨B',F',pl',tb',k1,k2⟩:=h2;split at h
   ·rename_i r l cK hr kP;obtain⟨rfl,h⟩:=h;obtain⟨u,h3,h4⟩:=VH k2 hr;rw[h3];have ao:=k2.obj (100000*(d+1)-1);rw[kP] at ao;exact⟨u,σ',.refl _ _ _,hK r _ B' F' pl' tb' u σ' h k1 ⟨k2.bf,k2.le,ao,k2.obj,k2.fresh,k2.sep,k2.free⟩ h4⟩
   ·exact h.elim
  cases e with
  |normal=>exact main h1
  |ret=>exact main h1
  |_=>exact h1.elim
end
end Go.V
namespace Go.V
open Go
abbrev lI {α:Type}(l:List α):Int:=(l.length:Int)
abbrev gD {α:Type}(l:List α) (i:Int) (d:α):α:=l.getD i.toNat d
abbrev sT {α:Type}(l:List α) (i:Int) (x:α):List α:=l.set i.toNat x
abbrev I64 (x:Int):Prop:=InK .i64 x
theorem Zs (x:Int):InK .i64 x↔-9223372036854775808≤x∧x≤9223372036854775807:=by simp[InK,IntKind.min,IntKind.max,IntKind.bits,IntKind.signed]
theorem CS (x:Int):InK .u8 x↔0≤x∧x≤255:=by simp[InK,IntKind.min,IntKind.max,IntKind.bits,IntKind.signed]
theorem Fw (x:Int):InK .u16 x↔0≤x∧x≤65535:=by simp[InK,IntKind.min,IntKind.max,IntKind.bits,IntKind.signed]
theorem LoopP.count {F:Int→(Int→Prop)→Prop}(n:Nat) (J:Nat→Prop) (h0:J 0) (hr:∀ k:Nat,k≤n→J k→∀ q:Int→Prop,(k<n→J (k+1)→q ((k:Int)+1))→F k q):LoopP F 0:=by refine⟨fun d=>∃ k:Nat,d=k∧k≤n∧J k,fun d=>n-d.toNat,⟨0,rfl,Nat.zero_le _,h0⟩,fun d ⟨k,hd,hk,hJ⟩=>?_⟩;subst hd;refine hr k hk hJ _ fun ah nK=>⟨⟨k+1,by simp,ah,nK⟩,?_⟩;simp;omega
theorem LoopP.count2 {X:Type}{F:X×Int→(X×Int→Prop)→Prop}(n:Nat) (J:Nat→X→Prop) {x0:X}(h0:J 0 x0) (hr:∀ (k:Nat) (x:X),k≤n→J k x→∀ q:X×Int→Prop,(∀ x',k<n→J (k+1) x'→q (x',(k:Int)+1))→F (x,(k:Int)) q):LoopP F (x0,0):=by refine⟨fun d=>∃ k:Nat,d.2=k∧k≤n∧J k d.1,fun d=>n-d.2.toNat,⟨0,rfl,Nat.zero_le _,h0⟩,fun ⟨x,d⟩ ⟨k,hd,hk,hJ⟩=>?_⟩;simp only at hd hJ;subst hd;refine hr k x hk hJ _ fun x' ah nK=>⟨⟨k+1,by simp,ah,nK⟩,?_⟩;simp;omega
theorem QM {α:Type}{l:List α}{k:Nat}{d:α}(h:k<l.length):l.getD k d=l[k]:=by simp[List.getD_eq_getElem?_getD,List.getElem?_eq_getElem h]
theorem QX {α:Type}{l:List α}{k:Nat}(h:k<l.length):l.take (k+1)=l.take k++[l[k]]:=by rw[List.take_succ_eq_append_getElem h]
theorem SG (k:Nat):((k:Int)+1).toNat=k+1:=by omega
end Go.V
namespace Go.V
open Go
def Ev (agg:Bool) (sz:Nat):VCode :=
 .seq (.region [
  ⟨(some 4),.load false 1 (.tmp 1),none⟩,
  ⟨(some 5),.len (.tmp 4),none⟩,
  ⟨(some 6),.arith .sub (.tmp 5) (.const (.int .i64 (1))),none⟩,
  ⟨(some 3),.move (.tmp 6),none⟩])
 (.block 0 (.loop (.seq (.seq (.region [
    ⟨(some 7),.move (.tmp 3),none⟩,
    ⟨(some 8),.cmp .geq (.tmp 7) (.const (.int .i64 (0))),none⟩])
   (.cond (.tmp 8) (.skip)
    (.exit 0)))
   (.seq (.block 1 (.seq (.region [
     ⟨(some 11),.move (.tmp 0),none⟩,
     ⟨(some 12),.move (.tmp 3),none⟩,
     ⟨(some 13),.load false 1 (.tmp 1),none⟩,
     ⟨(some 14),.move (.tmp 3),none⟩,
     ⟨(some 15),.indexAddr sz (.tmp 13) (.tmp 14),none⟩,
     ⟨(some 16),.load agg sz (.tmp 15),none⟩,
     ⟨(some 17),.callV (.tmp 11) [.tmp 12,.tmp 16],none⟩,
     ⟨(some 18),.un .not (.tmp 17),none⟩])
    (.cond (.tmp 18) (.ret)
     (.skip))))
   (.region [
    ⟨(some 9),.move (.tmp 3),none⟩,
    ⟨(some 10),.arith .sub (.tmp 9) (.const (.int .i64 (1))),none⟩,
    ⟨(some 3),.move (.tmp 10),none⟩])))))
def Q1d (k:Kind):ISp:=fun args=>match args with
 |[.cp l 0]=>(match l with
  |[.val (.list _k') l]=>(match KN l k with
   |some l=>some (l.length<4611686018427387904,l.length,2,fun j=>[.val (.i .i64) ((l.length:Int)-1-j),Rc k (l.getD (l.length-1-j) k.dflt)])
   |none=>none)
  |_=>none)
 |_=>none
section
variable {P:Program}
theorem Ce:∀ (k:Kind) (x:k.T),(Rc k x).pure=true
 |.i _,_|.bo,_|.st,_|.list _,_=>rfl
 |.pair a b,x=>by
  have app:∀ l m:List SV,SVs.pure l=true→SVs.pure m=true→SVs.pure (l++m)=true:=by
   intro l m hl hm;induction l with
   |nil=>exact hm
   |cons s l ih =>simp only[SVs.pure,Bool.and_eq_true,List.cons_append] at hl ⊢;exact⟨hl.1,ih hl.2⟩
  have cells:∀ (k:Kind) (x:k.T),SVs.pure (Ka k x)=true:=by
   intro k;induction k with
   |pair a b er dG=>intro x;exact app _ _ (er x.1) (dG x.2)
   |_=>intro x;rfl
  simp only[Rc,SV.pure];exact cells (.pair a b) x
theorem st1 {S:VSpecs}{d:Nat}{op:VOp}{rest:List VOper}{env:Env}{σ:Heap}{K:Env→Heap→Prop}{v:Value}(hv:∀ K',vop S op env σ K'=QW (Q9 op (Q8 env) σ) fun p=>K' p.1 p.2) (h:Q9 op (Q8 env) σ=some (v,σ)) (hr:NJ S rest (env.set d v) σ K):NJ S (⟨some d,op,none⟩::rest) env σ K:=by show QW (some true) _;refine⟨fun _=>?_,fun e=>by cases e⟩;rw[hv,h];exact hr
theorem EW {B τ:Heap}(hle:B.Le τ) {k:Kind}{l:List k.T}{x:Value}(hs:SlRel B k.size (fun x c=>KC B k x c) l x) {n:Nat}(hn:n<l.length) :
  ∃ i o cap c e wr t w,x=.slice (some ⟨i,o,none⟩) l.length cap∧τ.get i=some (.cells c e wr t)∧Ju (!k.one) k.size c (o+n*k.size)=some w∧KV B k l[n] w:=by
 rcases hs with⟨rfl,_⟩|⟨i,o,cap,c,e,wr,t,h1,h2,h3,h4,h5,h6⟩
 ·simp at hn
 ·have hmul:n*k.size+k.size≤l.length*k.size:=by
   have:=Nat.mul_le_mul_right k.size (show n+1≤l.length from hn)
   rwa [Nat.add_mul,Nat.one_mul] at this
  have eG:=h6.at (n:=k.size) (fun x c hx=>KC.length hx) hn;have e1:(((c.drop o).take (l.length*k.size)).drop (n*k.size)).take k.size=(c.drop (o+n*k.size)).take k.size:=by rw[List.drop_take,List.drop_drop,List.take_take,Nat.min_eq_left (by omega)]
  rw[e1] at eG;have hlen:=KC.length eG;cases bp:k.one with
  |true =>
   have aB:=Kind.one_size bp;rw[aB] at eG hlen hmul h5 ⊢;have ah:o+n*1<c.length:=by omega
   refine⟨i,o,cap,c,e,wr,t,c[o+n*1],h1,hle.2 _ _ h3,?_,.inl ⟨bp,?_⟩⟩
   ·simp[Ju]
   ·have:(c.drop (o+n*1)).take 1=[c[o+n*1]]:=by
     rw[List.drop_eq_getElem_cons ah];rfl
    rw[this] at eG;exact eG
  |false =>refine⟨i,o,cap,c,e,wr,t,_,h1,hle.2 _ _ h3,?_,.inr ⟨bp,_,rfl,eG⟩⟩;simp only[Ju,Bool.not_false,if_true];rw[if_pos (by omega)]
theorem VYields.mono {i:Nat}{args:List Value}{σ:Heap}{R R':Value→Heap→Prop}(h:VYields P i args σ R) (hr:∀ v σ',R v σ'→R' v σ'):VYields P i args σ R':=by intro ρ w aw hH hL;obtain⟨p,h1,fn,tmps,dQ,body,h2,h3⟩:=h ρ w aw hH hL;exact⟨p,h1,fn,tmps,dQ,body,h2,h3.mono fun e w' ⟨c,he,hg⟩=>⟨c,he,hg.mono hr⟩⟩
set_option maxHeartbeats 4000000 in
theorem A8 {B τ:Heap}{k:Kind}{l1:List k.T}{x:Value}{i b j:Nat}{Y:Gx}{J:Nat→Heap→Prop}{E:Heap→Prop}(hY:WL P i Y)
  (oy:∀ (env:Env) (j:Nat),Q8 env (.tmp j)=.pointer (some ⟨b,0,none⟩)→Q9 (.load false 1 (.tmp j)) (Q8 env) τ=some (x,τ)) (eE:SlRel B k.size (fun x c=>KC B k x c) l1 x) (iW:B.Le τ) (lA:j≤l1.length) (hc:l1.length<4611686018427387904)
  (dz:j<l1.length→∀ us,SRs P B X7 Jm [.val (.i .i64) ((l1.length:Int)-1-j),Rc k (l1[l1.length-1-j]?.getD k.dflt)] us→Y us τ fun v τ'=>(v=.bool true∧J (j+1) τ')∨(v=.bool false∧E τ'))
  {Q:Exit→Env→Heap→Prop}(ui:J l1.length τ→∀ env,Q .normal env τ) (uj:∀ τ,E τ→∀ env,Q .ret env τ) (hJ:J j τ) {n:Nat}(dL:n=l1.length-j) (len:Nat) (hlen:len=19) :
  vwp (Q7 P) (.seq (.seq (.region [
    ⟨(some 7),.move (.tmp 3),none⟩,
    ⟨(some 8),.cmp .geq (.tmp 7) (.const (.int .i64 (0))),none⟩])
   (.cond (.tmp 8) (.skip)
    (.exit 0)))
   (.seq (.block 1 (.seq (.region [
     ⟨(some 11),.move (.tmp 0),none⟩,
     ⟨(some 12),.move (.tmp 3),none⟩,
     ⟨(some 13),.load false 1 (.tmp 1),none⟩,
     ⟨(some 14),.move (.tmp 3),none⟩,
     ⟨(some 15),.indexAddr k.size (.tmp 13) (.tmp 14),none⟩,
     ⟨(some 16),.load (!k.one) k.size (.tmp 15),none⟩,
     ⟨(some 17),.callV (.tmp 11) [.tmp 12,.tmp 16],none⟩,
     ⟨(some 18),.un .not (.tmp 17),none⟩])
    (.cond (.tmp 18) (.ret)
     (.skip))))
   (.region [
    ⟨(some 9),.move (.tmp 3),none⟩,
    ⟨(some 10),.arith .sub (.tmp 9) (.const (.int .i64 (1))),none⟩,
    ⟨(some 3),.move (.tmp 10),none⟩]))) none (fun e af aK=>match e with
   |.normal=>∃ n',n'<n∧∃ j,j≤l1.length∧n'=l1.length-j∧N6 [0,1,3] af=[.func (.yield i) #[] #[],.pointer (some ⟨b,0,none⟩),.int .i64 ((l1.length:Int)-1-j)]∧J j aK
   |e=>T6 0 Q e af aK) (Jv [0,1,3] [.func (.yield i) #[] #[],.pointer (some ⟨b,0,none⟩),.int .i64 ((l1.length:Int)-1-j)] (List.replicate len poison)) τ:=by
 subst hlen;show NJ _ _ [.func (.yield i) #[] #[],.pointer (some ⟨b,0,none⟩),poison,.int .i64 ((l1.length:Int)-1-j),poison,poison,poison,poison,poison,poison,poison,poison,poison,poison,poison,poison,poison,poison,poison] _ _;refine st1 (fun _=>rfl) rfl ?_;refine st1 (v:=.bool (decide ((0:Int)≤(l1.length:Int)-1-j))) (fun _=>rfl) rfl ?_;show PN (.bool _) _ _;refine⟨fun a7=>?_,fun ah=>?_⟩
 ·have a7:(0:Int)≤(l1.length:Int)-1-j:=by simpa using a7
  have ia:l1.length-1-j<l1.length:=by omega
  obtain⟨i',o',aq,c',e',ji,t',w,q1,q2,q3,q4⟩:=EW iW eE ia;show NJ _ _ _ _ _;refine st1 (fun _=>rfl) rfl ?_;refine st1 (fun _=>rfl) rfl ?_;refine st1 (fun _=>rfl) (oy _ _ rfl) ?_;refine st1 (fun _=>rfl) rfl ?_;refine st1 (v:=.pointer (some ⟨i',o'+(l1.length-1-j)*k.size,none⟩)) (fun _=>rfl) ?_ ?_
  ·rw[q1];show (if 0≤(l1.length:Int)-1-j∧(l1.length:Int)-1-j<l1.length then some (Value.pointer (some ⟨i',o'+((l1.length:Int)-1-j).toNat*k.size,none⟩),τ) else none)=_;rw[if_pos ⟨a7,by omega⟩];have:((l1.length:Int)-1-j).toNat=l1.length-1-j:=by omega
   rw[this]
  refine st1 (v:=w) (fun _=>rfl) ?_ ?_
  ·show (match τ.get i' with|some (.cells c _ _ _)=>(match Ju (!k.one) k.size c (o'+(l1.length-1-j)*k.size) with|some v=>some (v,τ)|none=>none)|_=>none)=_;rw[q2];simp only[q3]
  show QW (some true) _;refine⟨fun _=>?_,fun e=>by cases e⟩;show VYields P i [.int .i64 ((l1.length:Int)-1-j),w] τ _;refine VYields.mono (hY _ _ _ (dz (by omega) [.int .i64 ((l1.length:Int)-1-j),w] ?_)) ?_
  ·simp only[SRs];refine⟨_,_,rfl,rfl,w,[],rfl,?_,rfl⟩;rw[List.getElem?_eq_getElem ia];exact J0 q4
  ·rintro v τ' (⟨rfl,nK⟩|⟨rfl,hE⟩)
   ·show NJ _ _ _ _ _;refine st1 (v:=.bool false) (fun _=>rfl) rfl ?_;show PN (.bool false) _ _;refine⟨(fun e=>by cases e),fun _=>?_⟩;show NJ _ _ _ _ _;refine st1 (fun _=>rfl) rfl ?_;refine st1 (v:=.int .i64 ((l1.length:Int)-1-(j+1:Nat))) (fun _=>rfl) ?_ ?_
    ·show (if IntKind.i64=IntKind.i64 then some (Value.int .i64 (IntKind.i64.wrap ((l1.length:Int)-1-j-1)),τ') else none)=_;rw[if_pos rfl,Pk (by omega)];simp only[Option.some.injEq,Prod.mk.injEq,Value.int.injEq,true_and,and_true];omega
    refine st1 (fun _=>rfl) rfl ?_;exact⟨l1.length-(j+1),by omega,j+1,by omega,rfl,rfl,nK⟩
   ·show NJ _ _ _ _ _;refine st1 (v:=.bool true) (fun _=>rfl) rfl ?_;show PN (.bool true) _ _;refine⟨fun _=>?_,fun e=>by cases e⟩;exact uj _ hE _
 ·have ah:¬ (0:Int)≤(l1.length:Int)-1-j:=by simpa using ah
  have hj:j=l1.length:=by omega
  subst hj;exact ui hJ _
theorem Q3m {f:Nat}{k:Kind}(h:Fun P f (Ev (!k.one) k.size) [] 19) (hm:P.follows .mixedOrders=true):FV P f (Q1d k):=by
 refine⟨h.enterable,fun B args vs c m ar xs hs fN hc=>?_⟩;unfold Q1d at fN;split at fN
 ·rename_i l0;split at fN
  ·rename_i k' l1;split at fN
   ·rename_i l hl;unfold KN at hl;split at hl
    ·rename_i e;subst e;obtain rfl:=osj hl;obtain⟨rfl,rfl,rfl,rfl⟩:=(by simpa using fN:(l1.length<4611686018427387904)=c∧l1.length=m∧2=ar∧_=xs);refine⟨fun j=>⟨rfl,by simp only[SVs.pure,SV.pure,Ce];rfl⟩,fun i Y J E τ0 hY hle dz h0=>?_⟩;simp only[SRs,SR] at hs;obtain⟨cap,_,rfl,⟨b,cc,e,wr,t,hb,rfl,x,_,rfl,⟨y,hy,eE⟩,rfl⟩,rfl⟩:=hs;obtain rfl:x=y:=by simpa using hy
     have cell:∀ τ,B.Le τ→τ.get b=some (.cells [x] e wr t):=fun τ hτ=>hτ.2 _ _ hb;obtain⟨xa,uk,a9⟩:=SlRel.len eE;have fI:∀ (env:Env) (σ:Heap) (j:Nat),Q8 env (.tmp j)=x→Q9 (.len (.tmp j)) (Q8 env) σ=some (.int .i64 l1.length,σ):=fun env σ j hj=>by simp only[Q9,hj,a9]
     refine h.callsTo hm Pj ?_;have oy:∀ (env:Env) (σ:Heap) (j:Nat),B.Le σ→Q8 env (.tmp j)=.pointer (some ⟨b,0,none⟩)→Q9 (.load false 1 (.tmp j)) (Q8 env) σ=some (x,σ):=fun env σ j hσ hj=>by simp only[Q9,hj,cell σ hσ,Ju];rfl
     have p7:=hle 0 τ0 h0;show NJ _ _ _ _ _;refine st1 (fun _=>rfl) (oy _ _ _ p7 rfl) ?_;refine st1 (fun _=>rfl) (fI _ _ _ rfl) ?_;refine st1 (v:=.int .i64 ((l1.length:Int)-1)) (fun _=>rfl) ?_ ?_
     ·show (if IntKind.i64=IntKind.i64 then some (Value.int .i64 (IntKind.i64.wrap ((l1.length:Int)-1)),τ0) else none)=_;rw[if_pos rfl,Pk (by omega)]
     refine st1 (v:=.int .i64 ((l1.length:Int)-1)) (fun _=>rfl) rfl ?_;show OS _ _ _ _;refine⟨[0,1,3],fun n vs τ=>∃ j,j≤l1.length∧n=l1.length-j∧vs=[.func (.yield i) #[] #[],.pointer (some ⟨b,0,none⟩),.int .i64 ((l1.length:Int)-1-j)]∧J j τ,l1.length,⟨0,Nat.zero_le _,rfl,?_,h0⟩,fun n vs τ ⟨j,lA,dL,um,hJ⟩=>?_⟩
     ·simp[N6]
     ·subst um;have iW:=hle j τ hJ;refine A8 (J:=J) (E:=E) hY (fun env jj h=>oy _ _ _ iW h) eE iW lA hc (fun ah us eB=>dz j us τ ah hJ eB) ?_ ?_ hJ dL _ rfl
      ·exact fun hJ env=>⟨_,_,.refl _ _ _,.inl hJ⟩
      ·exact fun τ hE env=>⟨_,_,.refl _ _ _,.inr hE⟩
    ·cases hl
   ·cases fN
  ·cases fN
 ·cases fN
theorem YlOk.nil:∀ o y,Qs ([]:List (Nat×YSp)) o=some y→AH P o y:=fun o y h=>by cases h
theorem IysOk.nil:∀ f x,Qs ([]:List (Nat×OJ)) f=some x→Ol P f x:=fun f x h=>by cases h
theorem IysOk.cons {f:Nat}{x:OJ}{l:List (Nat×OJ)}(h:Ol P f x) (t:∀ g y,Qs l g=some y→Ol P g y):∀ g y,Qs ((f,x)::l) g=some y→Ol P g y:=fun g y hg=>by
 simp only[Qs] at hg;cases hb:Nat.beq f g with
 |true=>rw[hb] at hg;obtain rfl:=Nat.eq_of_beq_eq_true hb;obtain rfl:=osj hg;exact h
 |false=>rw[hb] at hg;exact t g y hg
theorem XsOk.nil:∀ f x,Qs ([]:List (Nat×XSp)) f=some x→XOk P f x:=fun f x h=>by cases h
theorem XsOk.cons {f:Nat}{x:XSp}{l:List (Nat×XSp)}(h:XOk P f x) (t:∀ g y,Qs l g=some y→XOk P g y):∀ g y,Qs ((f,x)::l) g=some y→XOk P g y:=fun g y hg=>by
 simp only[Qs] at hg;cases hb:Nat.beq f g with
 |true=>rw[hb] at hg;obtain rfl:=Nat.eq_of_beq_eq_true hb;obtain rfl:=osj hg;exact h
 |false=>rw[hb] at hg;exact t g y hg
theorem ItsOk.nil:∀ f x,Qs ([]:List (Nat×ISp)) f=some x→FV P f x:=fun f x h=>by cases h
theorem ItsOk.cons {f:Nat}{x:ISp}{l:List (Nat×ISp)}(h:FV P f x) (t:∀ g y,Qs l g=some y→FV P g y):∀ g y,Qs ((f,x)::l) g=some y→FV P g y:=fun g y hg=>by
 simp only[Qs] at hg;cases hb:Nat.beq f g with
 |true=>rw[hb] at hg;obtain rfl:=Nat.eq_of_beq_eq_true hb;obtain rfl:=osj hg;exact h
 |false=>rw[hb] at hg;exact t g y hg
end
end Go.V
namespace Go.Proofs.Tryz
open Go Go.V Go.Proofs
theorem AB:Fun Tryz.prog 107 (Ev true 2) [] 19:=⟨Tryz.f107,Tryz.func107,by kernel_rfl,by kernel_rfl,rfl,rfl⟩
end Go.Proofs.Tryz
namespace Go.V
open Go
section
variable {P:Program}
theorem XfOk.nil {xs:List (Nat×XSp)}:∀ f j,Qs ([]:List (Nat×Nat)) f=some j→∀ x,Qs xs f=some x→IU P f x j:=fun f j h=>by cases h
theorem XfOk.cons {xs:List (Nat×XSp)}{g k:Nat}{y:XSp}{l:List (Nat×Nat)}(hy:Qs xs g=some y) (h:IU P g y k) (t:∀ f j,Qs l f=some j→∀ x,Qs xs f=some x→IU P f x j):∀ f j,Qs ((g,k)::l) f=some j→∀ x,Qs xs f=some x→IU P f x j:=fun f j hf x hx=>by
 simp only[Qs] at hf;cases hb:Nat.beq g f with
 |true =>rw[hb] at hf;obtain rfl:=Nat.eq_of_beq_eq_true hb;obtain rfl:=osj hf;obtain rfl:=osj (hy.symm.trans hx);exact h
 |false=>rw[hb] at hf;exact t f j hf x hx
end
end Go.V
namespace Go.V
open Go
def callV (ap:Ap) (sp:CSp):XSp:=fun d args s K =>
 let s1:=(⟨s.env++args,s.own,s.nx⟩:St).frzs (NS args);let a1:=s1.env.drop s.env.length
 bif SVs.pure a1 then (match sp ap a1 with
  |some (c,v,bs)=>bif v.ret bs.length&&bs.all OB.isL then c∧K (v.ren d 500000) ((⟨s1.env.take s.env.length,s1.own,s1.nx⟩:St).makes d 500000 0 bs) else False
  |none=>False) else False
section
variable {P:Program}
theorem SRs.split {B:Heap}{pl:Nat→Value}{tb:Nat→Option Bool}:∀ {a:List SV}{u v:List Value},SRs P B pl tb a (u++v)→SRs P B pl tb (a.take u.length) u∧SRs P B pl tb (a.drop u.length) v
 |a,[],v,h=>⟨by simp[SRs],by simpa using h⟩
 |[],x::u,v,h=>by simp only[SRs] at h;cases h
 |s::a,x::u,v,h=>by simp only[SRs,List.cons_append] at h;obtain⟨y,ys,e,h1,h2⟩:=h;obtain⟨rfl,rfl⟩:=List.cons.inj e;obtain⟨h3,h4⟩:=SRs.split h2;simp only[List.length_cons,List.take_succ_cons,List.drop_succ_cons,SRs];exact⟨⟨_,_,rfl,h1,h3⟩,h4⟩
end
end Go.V
namespace Go.V
open Go
theorem L7 {x:Nat}(h:x<9223372036854775808):IntKind.wrap .i64 (x:Int)=x:=by
 have e:((x:Int) % (18446744073709551616:Int))=x:=by omega
 have:¬ ((x:Int)≥9223372036854775808):=by omega
 show (if (true&&decide ((x:Int) % (18446744073709551616:Int)≥9223372036854775808))=true then (x:Int) % (18446744073709551616:Int)-18446744073709551616 else (x:Int) % (18446744073709551616:Int))=x;simp only[e,this,decide_false,Bool.and_false,Bool.false_eq_true,if_false]
theorem Ad {x y:Nat}(h:x<9223372036854775808):x &&& y<9223372036854775808:=Nat.lt_of_le_of_lt Nat.and_le_left h
theorem CB (x:Nat):BitVec.ofInt 64 (x:Int)=BitVec.ofNat 64 x:=by apply BitVec.eq_of_toNat_eq;simp
theorem Gh {x:Nat}(h:x<9223372036854775808):(BitVec.ofInt 64 (x:Int)).toNat=x:=by rw[CB,BitVec.toNat_ofNat,Nat.mod_eq_of_lt (by omega)]
theorem HG {x y:Nat}(hx:x<9223372036854775808) (hy:y<9223372036854775808):YQ .and .i64 x y=((x &&& y:Nat):Int):=by
 have e:(BitVec.ofInt 64 (x:Int) &&& BitVec.ofInt 64 (y:Int)).toNat=x &&& y:=by rw[BitVec.toNat_and,Gh hx,Gh hy]
 show IntKind.wrap .i64 ((BitVec.ofInt 64 (x:Int) &&& BitVec.ofInt 64 (y:Int)).toNat:Int)=_;rw[e,L7 (Ad hx)]
theorem C3 {x i:Nat}(hi:i≤64):At .i64 x i=((x >>> i:Nat):Int):=by have:Nat.min i 64=i:=Nat.min_eq_left hi;simp only[At,Int.toNat_natCast,IntKind.bits,this];rw[Nat.shiftRight_eq_div_pow,Int.fdiv_eq_ediv_of_nonneg _ (Int.le_of_lt (Int.pow_pos (by omega)))];norm_cast
theorem Ft {x i:Nat}(hx:x<9223372036854775808) (hi:i≤64):(YQ .and .i64 (At .i64 x i) 1==1)=x.testBit i:=by have h1:x >>> i<9223372036854775808:=Nat.lt_of_le_of_lt (by rw[Nat.shiftRight_eq_div_pow];exact Nat.div_le_self _ _) hx;rw[C3 hi,show (1:Int)=((1:Nat):Int) from rfl,HG h1 (by omega),Nat.testBit];rw[Bool.eq_iff_iff];simp only[beq_iff_eq,bne_iff_ne,ne_eq];rw[Nat.and_comm,Nat.one_and_eq_mod_two];omega
end Go.V
set_option linter.unusedVariables false
namespace Go.Proofs.Tryz
open Go Go.V Go.Proofs
abbrev q4 {A B C D E:Type}(x:A×B×C×D×E):E:=x.2.2.2.2
def inI (n a b:Int):Bool:=decide (a≤n)&&decide (n≤b)
def Jx (hk:Int) (lw:List Int):Int:=if !inI hk 1 24 then 2 else if 96<lw.length then 5 else if lw.length=0 then 7 else if lw.any (fun x=>!inI x 0 (hk-1)) then 2 else 0
def A3 (l:List Int) (p:Int→Bool):Int:=match l.findIdx? p with|some i=>(i:Int)|none=>-1
def C4 {α:Type}(l:List α) (p:α→Bool):Int:=match l.findIdx? p with|some i=>(i:Int)|none=>-1
def u8s (l:List Int):Prop:=∀ x∈l,0≤x∧x≤255
def Q55 (l:List Int):Prop:=∀ x∈l,0≤x∧x≤65535
def bOk (h8:Int) (ws rs ds:List Int):Prop:=0≤h8∧h8≤255∧u8s ws∧Q55 rs∧u8s ds
def hkN (m h8:Int):Int:=1+Int.tmod h8 m
def QH (hk:Int) (cap:Nat) (ws:List Int):List Int:=if ws=[] then [0] else (ws.take cap).map fun x=>Int.tmod x hk
def Zg (hk:Int) (cap:Nat) (rs:List Int):List Int:=if rs=[] then [21 % 2 ^ hk.toNat] else (rs.take cap).map fun x=>x % 2 ^ hk.toNat
def Un (b:Bool):Int:=if b then 120 else 46
def ZM (lw:List Int) (row:Int):List UInt8:=lw.map fun k=>if row.toNat.testBit k.toNat then 120 else 46
def QU (hd:Int) (rows:List Int):Int:=if !inI hd 1 24 then 2 else if 60<rows.length then 5 else if rows.length=0 then 7 else if rows.any (fun x=>!inI x 0 (2 ^ hd.toNat-1)) then 2 else 0
def Zl (hk:Int) (lw:List Int) (hd:Int) (rows:List Int):Int:=if Jx hk lw≠0 then Jx hk lw else if QU hd rows≠0 then QU hd rows else if hd≠hk then 4 else 0
def Z2 (hk:Int) (lw:List Int) (hd:Int) (rows:List Int):List (List UInt8):=if Zl hk lw hd rows=0 then rows.map (ZM lw) else []
theorem TP {hk:Int}{lw:List Int}(h:Jx hk lw=0):1≤hk∧hk≤24∧lw.length≤96∧lw.length≠0∧∀ x∈lw,0≤x∧x<hk:=by
 unfold Jx at h;split at h
 ·cases h
 ·rename_i h1;split at h
  ·cases h
  ·rename_i h2;split at h
   ·cases h
   ·rename_i h3;split at h
    ·cases h
    ·rename_i h4;have h1:1≤hk∧hk≤24:=by simpa [inI] using h1
     refine⟨h1.1,h1.2,by omega,h3,fun x hx=>?_⟩;have h5:∀ x∈lw,inI x 0 (hk-1)=true:=by simpa using h4
     have:=h5 x hx;simp only[inI,Bool.and_eq_true,decide_eq_true_eq] at this;omega
theorem CA {α:Type}{l:List α}{p:α→Bool}{k:Nat}(hk:k<l.length) (h:p l[k]=true) (hJ:(l.take k).any p=false):C4 l p=k:=by
 have:l.findIdx? p=some k:=by rw[List.findIdx?_eq_some_iff_getElem];refine⟨hk,h,fun j hj=>?_⟩;have hn:=List.any_eq_false.1 hJ l[j] (List.mem_take_iff_getElem.2 ⟨j,by omega,rfl⟩);simpa using hn
 simp[C4,this]
theorem Tb {α:Type}{l:List α}{p:α→Bool}(hJ:l.any p=false):C4 l p=-1:=by
 have:l.findIdx? p=none:=by rw[List.findIdx?_eq_none_iff];intro x hx;have:=List.any_eq_false.1 hJ x hx;simpa using this
 simp[C4,this]
theorem AO {α:Type}(l:List α) (p:α→Bool):(decide (C4 l p≥0))=l.any p:=by
 cases h:l.any p with
 |false=>rw[Tb h];rfl
 |true =>
  have:(l.findIdx? p).isSome=true:=by rw[List.findIdx?_isSome,h]
  obtain⟨i,hi⟩:=Option.isSome_iff_exists.1 this;have e:C4 l p=(i:Int):=by simp[C4,hi]
  rw[e];exact decide_eq_true (Int.natCast_nonneg i)
def rowAt (rows:List Int) (p:Int):Nat:=(rows.getD (p.toNat % rows.length) 0).toNat
abbrev Sp:=Int×Int
abbrev En:=Int×Int
def Qe (s:Int) (x:En):Sp:=(Xe 0 (x.2-s),x.2+s)
def Uc (a b:Sp):Sp:=(Xe a.1 b.1,Wa a.2 b.2)
def LN:Sp:=(0,1099511627776)
def QO (s:Int) (p:Sp) (x:En):Sp:=if x.1=1 then Uc LN (p.1-(Qe s x).2,p.2-(Qe s x).1) else if x.1=2 then (p.1+(Qe s x).1,p.2+(Qe s x).2) else Uc p (Qe s x)
def Qr (s:Int) (p:Sp) (x:En):Sp:=if x.1=1 then (p.1+(Qe s x).1,p.2+(Qe s x).2) else if x.1=2 then Uc LN (p.1-(Qe s x).2,p.2-(Qe s x).1) else Uc p (Qe s x)
def stB (g s:Int) (l:List En) (k:Nat):Sp:=(l.take k).foldl (QO s) (g,g)
def F4 (g s:Int) (l:List En) (k:Nat):Bool:=decide ((stB g s l (k+1)).1 > (stB g s l (k+1)).2)
def O9 (g s:Int) (l:List En):Option Nat:=(List.range l.length).find? (F4 g s l)
def Xb (g s:Int) (l:List En):Int:=match O9 g s l with|some k=>(k:Int)|none=>-1
def Q2 (g s:Int) (l:List En):List Sp:=(List.range (match O9 g s l with|some k=>k+1|none=>l.length+1)).map (stB g s l)
def Fz (x:En):Prop:=1≤x.1∧x.1≤3∧0≤x.2∧x.2≤12000000
def Jc (g s:Int) (l:List En):Prop:=1≤g∧g≤1000000∧0≤s∧s≤1000∧l.length≤40∧∀ x∈l,Fz x
def Jp (g s:Int) (l:List En):Int:=if !inI g 1 1000000||!inI s 0 1000 then 2 else if 40<l.length then 5 else if l.any (fun x=>!inI x.1 1 3||!inI x.2 0 12000000) then 2 else 0
def Qn (g s:Int) (l:List En):Int:=if Jp g s l≠0 then Jp g s l else if Xb g s l≥0 then 90 else 0
def Z7 (g s:Int) (l:List En):Int:=if Jp g s l=0∧Xb g s l≥0 then Xb g s l else 0
def Qf (g s:Int) (l:List En):Sp:=if Qn g s l=0 then stB g s l l.length else (0,0)
def Kj (s:Int) (l:List En):Sp:=l.foldr (fun x r=>Qr s r x) LN
def Qk (g s:Int) (l:List En) (e:Int):Int:=if Qn g s l≠0 then Qn g s l else if !inI e 0 (l.length-1) then 7 else 0
def A5 (s:Int) (p r:Sp) (x:En):Sp:=Uc (if x.1=1 then (p.1-r.2,p.2-r.1) else if x.1=2 then (r.1-p.2,r.2-p.1) else Uc p r) (Qe s x)
def E9 (g s:Int) (l:List En) (k:Nat):Sp:=A5 s (stB g s l k) (Kj s (l.drop (k+1))) (l.getD k (0,0))
def Qc (g s:Int) (l:List En) (e:Int):Sp:=if Qk g s l e=0 then E9 g s l e.toNat else (0,0)
theorem nIb (n a b:Int):(!inI n a b)=(decide (n<a)||decide (b<n)):=by simp only[inI,Bool.not_and];by_cases h1:a≤n<;>by_cases h2:n≤b<;>simp[h1,h2]<;>omega
theorem Yk (a b:Int):Xe a b=max a b:=by unfold Xe;split<;>omega
theorem V1 (a b:Int):Wa a b=min a b:=by unfold Wa;split<;>omega
theorem RF (g s:Int) (l:List En):stB g s l 0=(g,g):=rfl
theorem MN {g s:Int}{l:List En}{k:Nat}(h:k<l.length):stB g s l (k+1)=QO s (stB g s l k) l[k]:=by unfold stB;rw[QX h,List.foldl_append];rfl
def Sub (a b:Sp):Prop:=b.1≤a.1∧a.2≤b.2
def Ne (a:Sp):Prop:=a.1≤a.2
theorem C7 {s:Int}{p:Sp}{x:En}{B:Int}(hs:0≤s∧s≤1000) (hx:Fz x) (hp:0≤p.1∧p.1≤B∧-100000000≤p.2∧p.2≤B):0≤(QO s p x).1∧(QO s p x).1≤B+12001000∧-100000000≤(QO s p x).2+12001000∧(QO s p x).2≤B+12001000:=by
 obtain⟨h1,h2,h3,h4⟩:=hx;unfold QO Uc Qe LN;simp only[Yk,V1];split
 ·dsimp only;omega
 ·split
  ·dsimp only;omega
  ·dsimp only;omega
theorem Sub.refl (a:Sp):Sub a a:=⟨Int.le_refl _,Int.le_refl _⟩
theorem Vo {g s:Int}{l:List En}:Xb g s l<0↔∀ k,k<l.length→Ne (stB g s l (k+1)):=by
 unfold Xb O9;cases h:(List.range l.length).find? (F4 g s l) with
 |none =>rw[List.find?_eq_none] at h;refine⟨fun _ k hk=>?_,fun _=>by simp⟩;have:=h k (List.mem_range.2 hk);simp only[F4,decide_eq_true_eq] at this;unfold Ne;omega
 |some k =>rw[List.find?_eq_some_iff_getElem] at h;obtain⟨h1,i,hi,hk,h2⟩:=h;simp only[List.length_range] at hi;simp only[List.getElem_range] at hk;subst hk;refine⟨fun h=>by simp at h;omega,fun h=>?_⟩;have:=h i hi;simp only[F4,decide_eq_true_eq] at h1;unfold Ne at this;omega
theorem GV {g s:Int}{l:List En}(h:Jp g s l=0):Jc g s l:=by
 unfold Jp at h;split at h
 ·cases h
 ·rename_i h1;split at h
  ·cases h
  ·rename_i h2;split at h
   ·cases h
   ·rename_i h3;simp only[Bool.or_eq_true,Bool.not_eq_true',inI,Bool.and_eq_false_iff,decide_eq_false_iff_not] at h1;refine⟨by omega,by omega,by omega,by omega,by omega,fun x hx=>?_⟩;have:=List.any_eq_false.1 (Bool.eq_false_iff.2 h3) x hx;simp only[Bool.or_eq_true,Bool.not_eq_true',inI,Bool.and_eq_false_iff,decide_eq_false_iff_not] at this;unfold Fz;omega
theorem A1 {g s:Int}{l:List En}(h:Jc g s l):Jp g s l=0:=by
 obtain⟨h1,h2,h3,h4,h5,h6⟩:=h;unfold Jp;rw[if_neg,if_neg (by omega),if_neg]
 ·rw[Bool.not_eq_true,List.any_eq_false];intro x hx;obtain⟨a,b,c,d⟩:=h6 x hx;simp only[Bool.or_eq_true,Bool.not_eq_true',inI,Bool.and_eq_false_iff,decide_eq_false_iff_not];omega
 ·simp only[Bool.or_eq_true,Bool.not_eq_true',inI,Bool.and_eq_false_iff,decide_eq_false_iff_not];omega
theorem S0 {g s:Int}{l:List En}(h:Jc g s l):∀ k,k≤l.length→(∀ j,j<k→j+1<k→Ne (stB g s l (j+1)))→0≤(stB g s l k).1∧(stB g s l k).1≤1000000+12001000*k∧-100000000≤(stB g s l k).2∧(stB g s l k).2≤1000000+12001000*k
 |0,_,_=>by obtain⟨h1,h2,_⟩:=h;simp only[RF];omega
 |k+1,hk,hn=>by
  have ih:=S0 h k (by omega) fun j h1 h2=>hn j (by omega) (by omega);obtain⟨h1,h2,h3,h4,h5,h6⟩:=h;have hx:=h6 _ (List.getElem_mem (show k<l.length by omega));have h0:0≤(stB g s l k).2:=by
   cases k with
   |zero=>simp only[RF];omega
   |succ j=>have:=hn j (by omega) (by omega);unfold Ne at this;omega
  have:=C7 (B:=1000000+12001000*k) (p:=stB g s l k) ⟨h3,h4⟩ hx (by omega);rw[MN (by omega)];have e:(12001000*((k+1:Nat):Int))=12001000*k+12001000:=by omega
  rw[e];refine⟨this.1,by omega,?_,by omega⟩;obtain⟨a,b,c,d⟩:=hx;unfold QO Uc Qe LN;simp only[Yk,V1];split
  ·dsimp only;omega
  ·split
   ·dsimp only;omega
   ·dsimp only;omega
def InB (p:Sp) (v:Int):Prop:=p.1≤v∧v≤p.2
def stepT (v:Int) (x:En) (t:Int):Int:=if x.1=1 then v-t else if x.1=2 then v+t else v
def okT (s v:Int) (x:En) (t:Int):Prop:=InB (Qe s x) t∧(x.1=1→t≤v)∧(x.1≠1→x.1≠2→t=v)
def vT (g:Int) (l:List En) (w:List Int):Nat→Int
 |0=>g
 |k+1=>stepT (vT g l w k) (l.getD k (0,0)) (w.getD k 0)
structure Truth (g s:Int) (l:List En) (w:List Int):Prop where
 wl:w.length=l.length
 v0:∀ k,k≤l.length→0≤vT g l w k∧vT g l w k≤1000000000
 ok:∀ k,k<l.length→okT s (vT g l w k) (l.getD k (0,0)) (w.getD k 0)
theorem Al {s v t:Int}{p:Sp}{x:En}(hv:InB p v) (h0:0≤stepT v x t∧stepT v x t≤1000000000) (ht:okT s v x t):InB (QO s p x) (stepT v x t):=by
 obtain⟨h1,h2,h3⟩:=ht;unfold InB at *
 unfold stepT QO Uc LN at *
 unfold Qe at *
 simp only[Yk,V1] at *
 split
 ·rename_i hx;have:=h2 hx;rw[if_pos hx] at h0;dsimp only at *;omega
 ·rename_i hx;rw[if_neg hx] at h0;split
  ·rename_i hy;rw[if_pos hy] at h0;dsimp only at *;omega
  ·rename_i hy;have:=h3 hx hy;dsimp only at *;omega
theorem Ch {s v t:Int}{r:Sp}{x:En}(hr:InB r (stepT v x t)) (h0:0≤v∧v≤1000000000) (ht:okT s v x t):InB (Qr s r x) v:=by
 obtain⟨h1,h2,h3⟩:=ht;unfold InB at *
 unfold stepT at hr;unfold Qr Uc LN at *
 unfold Qe at *
 simp only[Yk,V1] at *
 split
 ·rename_i hx;rw[if_pos hx] at hr;dsimp only at *;omega
 ·rename_i hx;rw[if_neg hx] at hr;split
  ·rename_i hy;rw[if_pos hy] at hr;dsimp only at *;omega
  ·rename_i hy;have:=h3 hx hy;rw[if_neg hy] at hr;dsimp only at *;omega
theorem MS {g s:Int}{l:List En}{w:List Int}(h:Truth g s l w):∀ k,k≤l.length→InB (stB g s l k) (vT g l w k)
 |0,_=>⟨Int.le_refl _,Int.le_refl _⟩
 |k+1,hk=>by have ah:k<l.length:=hk;rw[MN ah,←QM (d:=((0,0):En)) ah];exact Al (MS h k (by omega)) (h.v0 (k+1) hk) (h.ok k ah)
theorem BK {s:Int}{l:List En}{k:Nat}(h:k<l.length):Kj s (l.drop k)=Qr s (Kj s (l.drop (k+1))) (l.getD k (0,0)):=by rw[List.drop_eq_getElem_cons h,QM h];rfl
theorem BF {g s:Int}{l:List En}{w:List Int}(h:Truth g s l w):∀ n k,n+k=l.length→InB (Kj s (l.drop k)) (vT g l w k)
 |0,k,hk=>by have:=h.v0 k (by omega);rw[List.drop_eq_nil_of_le (by omega)];unfold InB Kj LN;simp only[List.foldr_nil];omega
 |n+1,k,hk=>by rw[BK (by omega)];exact Ch (BF h n (k+1) (by omega)) (h.v0 k (by omega)) (h.ok k (by omega))
theorem Q0b {s v t:Int}{p r:Sp}{x:En}(hp:InB p v) (hr:InB r (stepT v x t)) (ht:okT s v x t):InB (A5 s p r x) t:=by
 obtain⟨h1,h2,h3⟩:=ht;unfold InB at *
 unfold stepT at hr;unfold A5 Uc at *
 unfold Qe at *
 simp only[Yk,V1] at *
 split
 ·rename_i hx;rw[if_pos hx] at hr;dsimp only at *;omega
 ·rename_i hx;rw[if_neg hx] at hr;split
  ·rename_i hy;rw[if_pos hy] at hr;dsimp only at *;omega
  ·rename_i hy;have:=h3 hx hy;rw[if_neg hy] at hr;dsimp only at *;omega
theorem CT {g s:Int}{l:List En}{w:List Int}(h:Truth g s l w) {k:Nat}(hk:k<l.length):InB (E9 g s l k) (w.getD k 0) :=
 Q0b (MS h k (by omega)) (BF h (l.length-(k+1)) (k+1) (by omega)) (h.ok k hk)
theorem Tu {g s:Int}{l:List En}{w:List Int}(h:Truth g s l w):Xb g s l<0:=by rw[Vo];intro k hk;have:=MS h (k+1) (by omega);unfold InB at this;unfold Ne;omega
theorem AQ {g:Int}{l:List En}{w:List Int}(T:Nat→Int) (h0:T 0=g) (hs:∀ k,k<l.length→T (k+1)=stepT (T k) (l.getD k (0,0)) (w.getD k 0)):∀ k,k≤l.length→vT g l w k=T k
 |0,_=>h0.symm
 |k+1,hk=>by have:=AQ T h0 hs k (by omega);unfold vT;rw[this,hs k hk]
theorem AK {g s:Int}{l:List En}{w:List Int}(T:Nat→Int) (h0:T 0=g) (hl:w.length=l.length) (hs:∀ k,k<l.length→T (k+1)=stepT (T k) (l.getD k (0,0)) (w.getD k 0)) (hb:∀ k,k≤l.length→0≤T k∧T k≤1000000000) (ho:∀ k,k<l.length→okT s (T k) (l.getD k (0,0)) (w.getD k 0)):Truth g s l w where
 wl:=hl
 v0:=fun k hk=>by rw[AQ T h0 hs k hk];exact hb k hk
 ok:=fun k hk=>by rw[AQ T h0 hs k (by omega)];exact ho k hk
theorem NC {g s:Int}{l:List En}{w:List Int}(hb:Jc g s l) (h:Truth g s l w):Qn g s l=0∧Qf g s l=stB g s l l.length∧InB (Qf g s l) (vT g l w l.length)∧0≤(Qf g s l).1:=by
 have hr:=Tu h;have he:Qn g s l=0:=by unfold Qn;rw[A1 hb,if_neg (by omega),if_neg (by omega)]
 have ew:Qf g s l=stB g s l l.length:=by unfold Qf;rw[if_pos he]
 refine⟨he,ew,by rw[ew];exact MS h _ (Nat.le_refl _),?_⟩;rw[ew];exact(S0 hb _ (Nat.le_refl _) fun j h1 h2=>Vo.1 hr j (by omega)).1
theorem TW {g s:Int}{l:List En}{w:List Int}(hb:Jc g s l) (h:Truth g s l w) {i:Nat}(hi:i<l.length):Qk g s l i=0∧Qc g s l i=E9 g s l i∧InB (Qc g s l i) (w.getD i 0):=by
 have h1:=(NC hb h).1;have aL:inI (i:Int) 0 ((l.length:Int)-1)=true:=by simp only[inI,Bool.and_eq_true,decide_eq_true_eq];omega
 have he:Qk g s l i=0:=by unfold Qk;rw[if_neg (by omega),aL,if_neg (by simp)]
 have ew:Qc g s l i=E9 g s l i:=by unfold Qc;rw[if_pos he,Int.toNat_natCast]
 exact⟨he,ew,by rw[ew];exact CT h hi⟩
theorem Ry {g:Int}{l:List En}{w:List Int}(h:Truth g 0 l w):∀ k,k≤l.length→(∀ j,j<l.length→(l.getD j (0,0)).2=w.getD j 0)→(∀ j,j<l.length→0≤w.getD j 0)→stB g 0 l k=(vT g l w k,vT g l w k)
 |0,_,_,_=>rfl
 |k+1,hk,hw,h0=>by
  have ih:=Ry h k (by omega) hw h0;have ah:k<l.length:=hk;rw[MN ah,ih,←QM (d:=((0,0):En)) ah];obtain⟨o1,o2,o3⟩:=h.ok k ah;have e:=hw k ah;have p:=h0 k ah;have v:=h.v0 k (by omega);have v':=h.v0 (k+1) hk;have ev:vT g l w (k+1)=stepT (vT g l w k) (l.getD k (0,0)) (w.getD k 0):=rfl;rw[ev] at v' ⊢;generalize vT g l w k=a at *
  generalize l.getD k (0,0)=x at *
  generalize w.getD k 0=t at *
  unfold stepT at v' ⊢;unfold QO Uc Qe LN;simp only[Yk,V1];by_cases e1:x.1=1
  ·have:=o2 e1;rw[if_pos e1] at v' ⊢;rw[if_pos e1];simp only[Prod.mk.injEq];omega
  ·rw[if_neg e1] at v' ⊢;rw[if_neg e1];by_cases e2:x.1=2
   ·rw[if_pos e2] at v' ⊢;rw[if_pos e2];simp only[Prod.mk.injEq];omega
   ·have:=o3 e1 e2;rw[if_neg e2,if_neg e2];simp only[Prod.mk.injEq];omega
theorem Rt {α β:Type}{f:α→Option β}:∀ {L:List α}{ys:List β},L.mapM f=some ys→ys.length=L.length∧∀ (i:Nat) (h:i<L.length) (h2:i<ys.length),f L[i]=some ys[i]
 |[],ys,h=>by simp at h;subst h;simp
 |a::L,ys,h=>by
  simp only[List.mapM_cons,Option.bind_eq_bind,Option.bind_eq_some_iff,Option.pure_def,Option.some.injEq] at h;obtain⟨y,hy,zs,hz,rfl⟩:=h;obtain⟨e1,e2⟩:=Rt hz;refine⟨by simp[e1],fun i h1 h2=>?_⟩;cases i with
  |zero=>exact hy
  |succ i=>exact e2 i (by simpa using h1) (by simpa using h2)
theorem AS {H:Type}{enc:TypeId×Value→H}{P:Program}{w:World}{base:Nat}{sp:Nat→Bool}{held:Bool}{fuel:Nat}{t:TypeId}{k:IntKind}{c:Value}{y:DataW H×List MemPlace}
  (ht:P.underlying t=some (.int k)) (h:DataW.trod enc P w base sp held fuel t [c]=some y):∃ n,c=.int k n∧y=(.lit (.int k n),[]):=by
 cases fuel with
 |zero=>simp[DataW.trod] at h
 |succ fuel =>cases c<;>simp[DataW.trod,ht] at h;rename_i k' n;obtain⟨⟨rfl,_⟩,rfl⟩:=h;exact⟨n,rfl,rfl⟩
theorem A4 {H:Type}{enc:TypeId×Value→H}{P:Program}{w:World}{base:Nat}{sp:Nat→Bool}{held:Bool}{fuel:Nat}{t e:TypeId}{k:IntKind}{n:Nat}{l:List Value}{xs:List Int}{p:List MemPlace}
  (ht:P.underlying t=some (.array n e)) (he:P.underlying e=some (.int k)) (h1:P.cellsOf e=1) (hc:P.cellsOf t=n) (h:DataW.trod enc P w base sp held fuel t l=some (.agg (xs.map fun x=>.lit (.int k x)),p)):l=xs.map fun x=>.int k x:=by
 cases fuel with
 |zero=>simp[DataW.trod] at h
 |succ fuel =>
  simp only[DataW.trod,ht,h1,hc,Nat.mul_one] at h;split at h
  ·rename_i hl;simp only[Option.map_eq_some_iff,Prod.mk.injEq,DataW.agg.injEq] at h;obtain⟨ys,hm,hx,_⟩:=h;obtain⟨e1,e2⟩:=Rt hm;rw[List.length_range] at e1;have hlen:xs.length=ys.length:=by
    have:=congrArg List.length hx;simpa using this.symm
   refine List.ext_getElem (by rw[List.length_map];omega) fun i k1 k2=>?_;have hy:=e2 i (by rw[List.length_range];omega) (by omega);rw[List.getElem_range,List.drop_eq_getElem_cons k1] at hy;simp only[List.take_succ_cons,List.take_zero] at hy;obtain⟨m,kf,gg⟩:=AS he hy;rw[kf,List.getElem_map];have p8:(ys.map (·.1))[i]'(by rw[List.length_map];omega)=(xs.map fun x=>(DataW.lit (Lit.int k x):DataW H))[i]'(by rw[List.length_map];omega):=by
    simp only[hx]
   rw[List.getElem_map,List.getElem_map,gg] at p8;simp only[DataW.lit.injEq,Lit.int.injEq,true_and] at p8;rw[p8]
  ·cases h
theorem tab_heap {P:Program}{nm:String}{g G:Nat}{t e:TypeId}{k:IntKind}{n fuel:Nat}{cs:Array Value}{xs:List Int}{p:List MemPlace}{W:World}(hv:W.var? P nm=some cs) (hG:P.globalNamed nm=some G) (hg:P.globalNamed nm=some g) {T:TypeId}(hT:(P.globals[G]?).map (·.type)=some T) (l7:(P.globals[g]?).map (·.type)=some t)
  (ht:P.underlying T=some (.array n e)) (he:P.underlying e=some (.int k)) (h1:P.cellsOf e=1) (hc:P.cellsOf T=n) (hd:DataW.trod (fun _=>()) P W 0 (fun _=>true) false fuel t cs.toList=some (.agg (xs.map fun x=>.lit (.int k x)),p)):∃ e f,W.heap[G]?=some (.cells (xs.map fun x=>Value.int k x).toArray e f):=by
 obtain rfl:=osj (hG.symm.trans hg);obtain rfl:=osj (hT.symm.trans l7);have hl:=A4 ht he h1 hc hd;unfold World.var? at hv;rw[hG] at hv;simp only[Option.bind_some] at hv;split at hv
 ·rename_i cs' a b hh;obtain rfl:=osj hv;refine⟨a,b,?_⟩;rw[hh,←hl]
 ·cases hv
end Go.Proofs.Tryz
set_option linter.unusedVariables false
namespace Go.Proofs.Tryz
open Go Go.V Go.Proofs
def YF:AL (Int×Int×Int):=(.cons (.k (.i .i64)) (.cons (.ptr (.one (.k (.i .i64)))) (.one (.ptr (.one (.k (.i .i64)))))))
def UX (d:Int×Int×Int):Prop:=True
def Y9 (d:Int×Int×Int):SV:=.val .bo (decide (d.1<d.2.1)||decide (d.2.2<d.1))
def Yc (d:Int×Int×Int):List OB:=[]
def XR:CSp:=Y_ YF UX Y9 Yc
def Xt (n:Int) (a:Int) (b:Int):Prop :=
 (((decide (n<a))||(decide (n > b)))=(decide (n<a)||decide (b<n))∧(True))
def Yt:Cx:=⟨[],[],13,[],0,[],[],[],[],false,[],[],[],[]⟩
def NY (n:Int) (a:Int) (b:Int):List (Nat×LoopAnn):=[]
set_option maxRecDepth 100000 in
theorem ND (d:Int×Int×Int):gwp (Yt) (NY d.1 d.2.1 d.2.2) c98 0 (Ko [.tmp 4] (Y9 d) (Yc d)) (QS 13 (AL.can YF d))=Xt d.1 d.2.1 d.2.2:=by kernel_rfl
abbrev NU:Prop:=OkC Tryz.prog 98 XR
theorem NO (h:∀ (n:Int) (a:Int) (b:Int),(True)→Xt n a b):OkC Tryz.prog 98 XR :=
 Z8 IZ mixed (C:=Yt) (V:=fun (d:Int×Int×Int)=>Xt d.1 d.2.1 d.2.2) ⟨.nil,XsOk.nil,ItsOk.nil,YlOk.nil,IysOk.nil,XfOk.nil⟩ (ND) fun d hp=>h d.1 d.2.1 d.2.2 hp
theorem NM:NU:=NO fun n a b _=>by exact⟨rfl,trivial⟩
def Jl:AL (List Int×((Int→Prop)×(Int→Bool))):=(.cons (.k (.list (.i .i64))) (.one (.fn [(.i .i64)] .bo)))
def W0 (d:List Int×((Int→Prop)×(Int→Bool))):Prop:=d.1.length≤1000000∧∀ x∈d.1,d.2.1 x
def J6 (d:List Int×((Int→Prop)×(Int→Bool))):SV:=.val (.i .i64) (A3 d.1 d.2.2)
def J8 (d:List Int×((Int→Prop)×(Int→Bool))):List OB:=[]
def Zq:CSp:=Y_ Jl W0 J6 J8
def QQ (l:List Int) (p:(Int→Prop)×(Int→Bool)):Prop :=
 ∃ (e2:Unit) (d20:Int),((l=l∧(SV.pf [(.i .i64)] .bo p.1 p.2=SV.pf [(.i .i64)] .bo p.1 p.2)∧(lI l)=(lI l)∧(0:Int)=d20∧True)∧(True)) ∧
 LoopP (fun (d2:Int) (q2:(Int)→Prop) =>
  ((decide (d2<(lI l)))=true →
   (0≤d2)∧(d2<(List.length l))∧(p.1 (gD l d2 0))∧((p.2 (gD l d2 0))=true →
    (d2=(A3 l p.2)∧(True))) ∧
   ((p.2 (gD l d2 0))=false →
    (I64 (d2+(1:Int)))∧(∃ d3:Int,((l=l∧(SV.pf [(.i .i64)] .bo p.1 p.2=SV.pf [(.i .i64)] .bo p.1 p.2)∧(lI l)=(lI l)∧(d2+(1:Int))=d3∧True)∧(True))∧q2 d3))) ∧
  ((decide (d2<(lI l)))=false →
   ((-1:Int)=(A3 l p.2)∧(True)))) d20
def Jj:Cx:=⟨[],[],19,[],0,[],[],[],[],false,[],[],[],[]⟩
def Wn (l:List Int) (p:(Int→Prop)×(Int→Bool)):List (Nat×LoopAnn):=[(0,⟨Unit,Int,[0,1,7,8],fun e x=>[.val (.list (.i .i64)) l,.pf [(.i .i64)] .bo p.1 p.2,.val (.i .i64) (((List.length l):Nat):Int),.val (.i .i64) x],fun e x=>[]⟩)]
set_option maxRecDepth 100000 in
theorem WJ (d:List Int×((Int→Prop)×(Int→Bool))):gwp (Jj) (Wn d.1 d.2) Q0x 0 (Ko [.tmp 4] (J6 d) (J8 d)) (QS 19 (AL.can Jl d))=QQ d.1 d.2:=by kernel_rfl
abbrev WN:Prop:=OkC Tryz.prog 126 Zq
theorem Wp (h:∀ (l:List Int) (p:(Int→Prop)×(Int→Bool)),(l.length≤1000000∧∀ x∈l,p.1 x)→QQ l p):OkC Tryz.prog 126 Zq :=
 Z8 EJ mixed (C:=Jj) (V:=fun (d:List Int×((Int→Prop)×(Int→Bool)))=>QQ d.1 d.2) ⟨.nil,XsOk.nil,ItsOk.nil,YlOk.nil,IysOk.nil,XfOk.nil⟩ (WJ) fun d hp=>h d.1 d.2 hp
theorem Cz {l:List Int}{p:Int→Bool}{k:Nat}(hk:k<l.length) (h:p l[k]=true) (hJ:(l.take k).any p=false):A3 l p=k:=by
 have:l.findIdx? p=some k:=by rw[List.findIdx?_eq_some_iff_getElem];refine⟨hk,h,fun j hj=>?_⟩;have hn:=List.any_eq_false.1 hJ l[j] (List.mem_take_iff_getElem.2 ⟨j,by omega,rfl⟩);simpa using hn
 simp[A3,this]
theorem Ly {l:List Int}{p:Int→Bool}(hJ:l.any p=false):A3 l p=-1:=by
 have:l.findIdx? p=none:=by rw[List.findIdx?_eq_none_iff];intro x hx;have:=List.any_eq_false.1 hJ x hx;simpa using this
 simp[A3,this]
theorem TH (l:List Int) (p:Int→Bool):decide (A3 l p≥0)=l.any p:=by
 unfold A3;cases h:l.findIdx? p with
 |none =>
  have:=List.findIdx?_eq_none_iff.1 h;have:l.any p=false:=by rw[List.any_eq_false];intro x hx;simp[this x hx]
  rw[this];rfl
 |some i =>obtain⟨h1,h2,_⟩:=List.findIdx?_eq_some_iff_getElem.1 h;rw[List.any_eq_true.2 ⟨l[i],List.getElem_mem h1,h2⟩];simp
theorem Wx:WN:=Wp fun l p hp=>by
 unfold QQ;(try delta lI gD sT I64);simp only[true_and,and_true,exists_eq_left',exists_const,decide_eq_true_eq,decide_eq_false_iff_not];refine LoopP.count l.length (fun k=>(l.take k).any p.2=false) (by simp) fun k bb hJ q hq=>?_;simp only[Int.toNat_natCast,Int.ofNat_lt,Zs];refine⟨fun ah=>?_,fun a7=>?_⟩
 ·rw[QM ah];refine⟨by omega,ah,hp.2 _ (List.getElem_mem ah),fun hx=>?_,fun hx=>⟨by omega,hq ah ?_⟩⟩
  ·rw[Cz ah hx hJ]
  ·rw[QX ah,List.any_append,hJ];simp[hx]
 ·rw[List.take_of_length_le (by omega)] at hJ;rw[Ly hJ]
def ZO:AL (List Int×((Int→Prop)×(Int→Bool))):=(.cons (.k (.list (.i .i64))) (.one (.fn [(.i .i64)] .bo)))
def Xk (d:List Int×((Int→Prop)×(Int→Bool))):Prop:=d.1.length≤1000000∧∀ x∈d.1,d.2.1 x
def ZF (d:List Int×((Int→Prop)×(Int→Bool))):SV:=.val .bo (d.1.any d.2.2)
def ZH (d:List Int×((Int→Prop)×(Int→Bool))):List OB:=[]
def Qt:CSp:=Y_ ZO Xk ZF ZH
def QZ (l:List Int) (p:(Int→Prop)×(Int→Bool)):Prop :=
 (l.length≤1000000∧∀ x∈l,(fun (x1:Int)=>p.1 x1) x)∧((decide ((A3 l (fun (x1:Int)=>(p.2 x1)))≥(0:Int)))=(l.any p.2)∧(True))
def ZQ:Cx:=⟨[],[(126,Zq)],9,[],0,[],[],[],[],false,[],[],[],[]⟩
def XC (l:List Int) (p:(Int→Prop)×(Int→Bool)):List (Nat×LoopAnn):=[]
set_option maxRecDepth 100000 in
theorem XL (d:List Int×((Int→Prop)×(Int→Bool))):gwp (ZQ) (XC d.1 d.2) c97 0 (Ko [.tmp 4] (ZF d) (ZH d)) (QS 9 (AL.can ZO d))=QZ d.1 d.2:=by kernel_rfl
abbrev XK:Prop:=OkC Tryz.prog 97 Qt
theorem XD (h:∀ (l:List Int) (p:(Int→Prop)×(Int→Bool)),(l.length≤1000000∧∀ x∈l,p.1 x)→QZ l p):OkC Tryz.prog 97 Qt :=
 Z8 OU mixed (C:=ZQ) (V:=fun (d:List Int×((Int→Prop)×(Int→Bool)))=>QZ d.1 d.2) ⟨(.cons Wx .nil),XsOk.nil,ItsOk.nil,YlOk.nil,IysOk.nil,XfOk.nil⟩ (XL) fun d hp=>h d.1 d.2 hp
theorem QY:XK:=XD fun l p hp=>by exact⟨hp,TH l p.2,trivial⟩
def Ky:AL (Int×Int×List Int):=(.cons (.k (.i .i64)) (.cons (.k (.i .i64)) (.one (.k (.list (.i .i64))))))
def MG (d:Int×Int×List Int):Prop:=d.2.2.length≤1000000
def K9 (d:Int×Int×List Int):SV:=.val .bo (!(d.2.2.any fun n=>decide (n<d.1)||decide (d.2.1<n)))
def Kd (d:Int×Int×List Int):List OB:=[]
def J2:CSp:=Y_ Ky MG K9 Kd
def Wg (a:Int) (b:Int) (l:List Int):Prop :=
 (l.length≤1000000∧∀ x∈l,(fun (x1:Int)=>True) x)∧((!(l.any (fun (x1:Int)=>(decide (x1<a)||decide (b<x1)))))=(!(l.any fun n=>decide (n<a)||decide (b<n)))∧(True))
def KR:Cx:=⟨[],[(97,Qt),(98,XR)],11,[],0,[],[],[],[],false,[],[],[],[]⟩
def D9 (a:Int) (b:Int) (l:List Int):List (Nat×LoopAnn):=[]
set_option maxRecDepth 100000 in
theorem GK (d:Int×Int×List Int):gwp (KR) (D9 d.1 d.2.1 d.2.2) c58 0 (Ko [.tmp 6] (K9 d) (Kd d)) (QS 11 (AL.can Ky d))=Wg d.1 d.2.1 d.2.2:=by kernel_rfl
abbrev Dd:Prop:=OkC Tryz.prog 58 J2
theorem G_ (h:∀ (a:Int) (b:Int) (l:List Int),(l.length≤1000000)→Wg a b l):OkC Tryz.prog 58 J2 :=
 Z8 I3 mixed (C:=KR) (V:=fun (d:Int×Int×List Int)=>Wg d.1 d.2.1 d.2.2) ⟨(.cons QY (.cons NM .nil)),XsOk.nil,ItsOk.nil,YlOk.nil,IysOk.nil,XfOk.nil⟩ (GK) fun d hp=>h d.1 d.2.1 d.2.2 hp
theorem X2:Dd:=G_ fun a b l h=>by exact⟨⟨h,fun _ _=>trivial⟩,rfl,trivial⟩
def WY:AL (Int×Int):=(.one (.agg (.cons (.k (.i .i64)) (.one (.k (.i .i64))))))
def Uq (d:Int×Int):Prop:=True
def WC (d:Int×Int):SV:=.val .bo (!inI d.1 1 3||!inI d.2 0 12000000)
def Ws (d:Int×Int):List OB:=[]
def ZK:CSp:=Y_ WY Uq WC Ws
def J9 (k:Int) (x:Int):Prop :=
 ([k].length≤1000000)∧((!(!([k].any fun n=>decide (n<(1:Int))||decide ((3:Int)<n))))=false→True)∧((!(!([k].any fun n=>decide (n<(1:Int))||decide ((3:Int)<n))))=false→[x].length≤1000000)∧(((!(!([k].any fun n=>decide (n<(1:Int))||decide ((3:Int)<n))))||(!(!([x].any fun n=>decide (n<(0:Int))||decide ((12000000:Int)<n)))))=(!inI k 1 3||!inI x 0 12000000)∧(True))
def Yd:Cx:=⟨[(3,(.i .i64))],[(58,J2)],15,[],0,[],[],[],[],false,[],[],[],[]⟩
def Nv (k:Int) (x:Int):List (Nat×LoopAnn):=[]
set_option maxRecDepth 100000 in
theorem UK (d:Int×Int):gwp (Yd) (Nv d.1 d.2) Q3l 0 (Ko [.tmp 2] (WC d) (Ws d)) (QS 15 (AL.can WY d))=J9 d.1 d.2:=by kernel_rfl
abbrev UJ:Prop:=OkC Tryz.prog 104 ZK
theorem Na (h:∀ (k:Int) (x:Int),(True)→J9 k x):OkC Tryz.prog 104 ZK :=
 Z8 EH mixed (C:=Yd) (V:=fun (d:Int×Int)=>J9 d.1 d.2) ⟨(.cons X2 .nil),XsOk.nil,ItsOk.nil,YlOk.nil,IysOk.nil,XfOk.nil⟩ (UK) fun d hp=>h d.1 d.2 hp
theorem X8:UJ:=Na fun k x _=>by unfold J9;(try delta lI gD sT I64);simp only[List.any_cons,List.any_nil,Bool.or_false,Bool.not_not,←nIb,List.length_cons,List.length_nil];refine⟨by omega,fun _=>trivial,fun _=>by omega,?_⟩;and_intros<;>first|rfl|trivial
def QG:AL ((List (Int×Int))×((Int×Int→Prop)×(Int×Int→Bool))):=(.cons (.k (.list (.pair (.i .i64) (.i .i64)))) (.one (.fn [(.pair (.i .i64) (.i .i64))] .bo)))
def Zm (d:(List (Int×Int))×((Int×Int→Prop)×(Int×Int→Bool))):Prop:=d.1.length≤1000000∧∀ x∈d.1,d.2.1 x
def QD (d:(List (Int×Int))×((Int×Int→Prop)×(Int×Int→Bool))):SV:=.val (.i .i64) (C4 d.1 d.2.2)
def QE (d:(List (Int×Int))×((Int×Int→Prop)×(Int×Int→Bool))):List OB:=[]
def Qm:CSp:=Y_ QG Zm QD QE
def Qd (l:List (Int×Int)) (p:(Int×Int→Prop)×(Int×Int→Bool)):Prop :=
 ∃ (e2:Unit) (d20:Int),((l=l∧(SV.pf [(.pair (.i .i64) (.i .i64))] .bo p.1 p.2=SV.pf [(.pair (.i .i64) (.i .i64))] .bo p.1 p.2)∧(lI l)=(lI l)∧(0:Int)=d20∧True)∧(True)) ∧
 LoopP (fun (d2:Int) (q2:(Int)→Prop) =>
  ((decide (d2<(lI l)))=true →
   (0≤d2)∧(d2<(List.length l))∧(p.1 ((gD l d2 (0,0)).1,(gD l d2 (0,0)).2))∧((p.2 ((gD l d2 (0,0)).1,(gD l d2 (0,0)).2))=true →
    (d2=(C4 l p.2)∧(True))) ∧
   ((p.2 ((gD l d2 (0,0)).1,(gD l d2 (0,0)).2))=false →
    (I64 (d2+(1:Int)))∧(∃ d3:Int,((l=l∧(SV.pf [(.pair (.i .i64) (.i .i64))] .bo p.1 p.2=SV.pf [(.pair (.i .i64) (.i .i64))] .bo p.1 p.2)∧(lI l)=(lI l)∧(d2+(1:Int))=d3∧True)∧(True))∧q2 d3))) ∧
  ((decide (d2<(lI l)))=false →
   ((-1:Int)=(C4 l p.2)∧(True)))) d20
def QF:Cx:=⟨[],[],19,[],0,[],[],[],[],false,[],[],[],[]⟩
def Zv (l:List (Int×Int)) (p:(Int×Int→Prop)×(Int×Int→Bool)):List (Nat×LoopAnn):=[(0,⟨Unit,Int,[0,1,7,8],fun e x=>[.val (.list (.pair (.i .i64) (.i .i64))) l,.pf [(.pair (.i .i64) (.i .i64))] .bo p.1 p.2,.val (.i .i64) (((List.length l):Nat):Int),.val (.i .i64) x],fun e x=>[]⟩)]
set_option maxRecDepth 100000 in
theorem Zo (d:(List (Int×Int))×((Int×Int→Prop)×(Int×Int→Bool))):gwp (QF) (Zv d.1 d.2) Q37 0 (Ko [.tmp 4] (QD d) (QE d)) (QS 19 (AL.can QG d))=Qd d.1 d.2:=by kernel_rfl
abbrev Zu:Prop:=OkC Tryz.prog 129 Qm
theorem Zr (h:∀ (l:List (Int×Int)) (p:(Int×Int→Prop)×(Int×Int→Bool)),(l.length≤1000000∧∀ x∈l,p.1 x)→Qd l p):OkC Tryz.prog 129 Qm :=
 Z8 Ei mixed (C:=QF) (V:=fun (d:(List (Int×Int))×((Int×Int→Prop)×(Int×Int→Bool)))=>Qd d.1 d.2) ⟨.nil,XsOk.nil,ItsOk.nil,YlOk.nil,IysOk.nil,XfOk.nil⟩ (Zo) fun d hp=>h d.1 d.2 hp
theorem Zp:Zu:=Zr fun l p hp=>by
 unfold Qd;(try delta lI gD sT I64);simp only[true_and,and_true,exists_eq_left',exists_const,decide_eq_true_eq,decide_eq_false_iff_not];refine LoopP.count l.length (fun k=>(l.take k).any p.2=false) (by simp) fun k bb hJ q hq=>?_;simp only[Int.toNat_natCast,Int.ofNat_lt,Zs];refine⟨fun ah=>?_,fun a7=>?_⟩
 ·have ah:k<l.length:=by omega
  rw[QM ah];refine⟨by omega,by omega,hp.2 _ (List.getElem_mem ah),fun hx=>?_,fun hx=>⟨by omega,hq ah ?_⟩⟩
  ·rw[CA ah hx hJ]
  ·rw[QX ah,List.any_append,hJ];simp[hx]
 ·rw[List.take_of_length_le (by omega)] at hJ;rw[Tb hJ]
def QB:AL ((List (Int×Int))×((Int×Int→Prop)×(Int×Int→Bool))):=(.cons (.k (.list (.pair (.i .i64) (.i .i64)))) (.one (.fn [(.pair (.i .i64) (.i .i64))] .bo)))
def Z5 (d:(List (Int×Int))×((Int×Int→Prop)×(Int×Int→Bool))):Prop:=d.1.length≤1000000∧∀ x∈d.1,d.2.1 x
def Qy (d:(List (Int×Int))×((Int×Int→Prop)×(Int×Int→Bool))):SV:=.val .bo (d.1.any d.2.2)
def Qw (d:(List (Int×Int))×((Int×Int→Prop)×(Int×Int→Bool))):List OB:=[]
def Qa:CSp:=Y_ QB Z5 Qy Qw
def Qb (l:List (Int×Int)) (p:(Int×Int→Prop)×(Int×Int→Bool)):Prop :=
 (l.length≤1000000∧∀ x∈l,(fun (x1:Int×Int)=>p.1 (x1.1,x1.2)) x)∧((decide ((C4 l (fun (x1:Int×Int)=>(p.2 (x1.1,x1.2))))≥(0:Int)))=(l.any p.2)∧(True))
def QC:Cx:=⟨[],[(129,Qm)],9,[],0,[],[],[],[],false,[],[],[],[]⟩
def Zc (l:List (Int×Int)) (p:(Int×Int→Prop)×(Int×Int→Bool)):List (Nat×LoopAnn):=[]
set_option maxRecDepth 100000 in
theorem Ze (d:(List (Int×Int))×((Int×Int→Prop)×(Int×Int→Bool))):gwp (QC) (Zc d.1 d.2) Q1t 0 (Ko [.tmp 4] (Qy d) (Qw d)) (QS 9 (AL.can QB d))=Qb d.1 d.2:=by kernel_rfl
abbrev Z9:Prop:=OkC Tryz.prog 105 Qa
theorem Zb (h:∀ (l:List (Int×Int)) (p:(Int×Int→Prop)×(Int×Int→Bool)),(l.length≤1000000∧∀ x∈l,p.1 x)→Qb l p):OkC Tryz.prog 105 Qa :=
 Z8 Et mixed (C:=QC) (V:=fun (d:(List (Int×Int))×((Int×Int→Prop)×(Int×Int→Bool)))=>Qb d.1 d.2) ⟨(.cons Zp .nil),XsOk.nil,ItsOk.nil,YlOk.nil,IysOk.nil,XfOk.nil⟩ (Ze) fun d hp=>h d.1 d.2 hp
theorem Qj:Z9:=Zb fun l p hp=>by simp only[Qb];exact⟨hp,AO l p.2,trivial⟩
def UR:AL ((Int×Int)×Int×Int):=(.cons (.agg (.cons (.k (.i .i64)) (.one (.k (.i .i64))))) (.one (.agg (.cons (.k (.i .i64)) (.one (.k (.i .i64)))))))
def Dx (d:(Int×Int)×Int×Int):Prop:=True
def VN (d:(Int×Int)×Int×Int):SV:=.agg [.val (.i .i64) (Xe d.1.1 d.2.1),.val (.i .i64) (Wa d.1.2 d.2.2)]
def VO (d:(Int×Int)×Int×Int):List OB:=[]
def XF:CSp:=Y_ UR Dx VN VO
def YP (a:Int) (b:Int) (c:Int) (d:Int):Prop :=
 (((Xe a c)=(Xe a c)∧(Wa b d)=(Wa b d)∧(([]:List SV)=[]))∧(True))
def UM:Cx:=⟨[],[],16,[],0,[],[],[],[],false,[],[],[],[]⟩
def BV (a:Int) (b:Int) (c:Int) (d:Int):List (Nat×LoopAnn):=[]
set_option maxRecDepth 100000 in
theorem H0 (d:(Int×Int)×Int×Int):gwp (UM) (BV d.1.1 d.1.2 d.2.1 d.2.2) c67 0 (Ko [.cell 4 true 2] (VN d) (VO d)) (QS 16 (AL.can UR d))=YP d.1.1 d.1.2 d.2.1 d.2.2:=by kernel_rfl
abbrev HV:Prop:=OkC Tryz.prog 67 XF
theorem Hx (h:∀ (a:Int) (b:Int) (c:Int) (d:Int),(True)→YP a b c d):OkC Tryz.prog 67 XF :=
 Z8 O_ mixed (C:=UM) (V:=fun (d:(Int×Int)×Int×Int)=>YP d.1.1 d.1.2 d.2.1 d.2.2) ⟨.nil,XsOk.nil,ItsOk.nil,YlOk.nil,IysOk.nil,XfOk.nil⟩ (H0) fun d hp=>h d.1.1 d.1.2 d.2.1 d.2.2 hp
theorem YM:HV:=Hx fun a b c d _=>(by and_intros<;>first|rfl|trivial|simp)
def Yr:AL (Unit):=.nil
def N2 (d:Unit):Prop:=True
def Y4 (d:Unit):SV:=.agg [.val (.i .i64) (0:Int),.val (.i .i64) (1099511627776:Int)]
def WU (d:Unit):List OB:=[]
def ZZ:CSp:=Y_ Yr N2 Y4 WU
def Xs :Prop :=
 (((0:Int)=(0:Int)∧(1099511627776:Int)=(1099511627776:Int)∧(([]:List SV)=[]))∧(True))
def YD:Cx:=⟨[],[],2,[],0,[],[],[],[],false,[],[],[],[]⟩
def NF :List (Nat×LoopAnn):=[]
set_option maxRecDepth 100000 in
theorem NK (d:Unit):gwp (YD) (NF ) c64 0 (Ko [.cell 0 true 2] (Y4 d) (WU d)) (QS 2 (AL.can Yr d))=Xs :=by kernel_rfl
abbrev NP:Prop:=OkC Tryz.prog 64 ZZ
theorem NW (h:(True)→Xs ):OkC Tryz.prog 64 ZZ :=
 Z8 OZ mixed (C:=YD) (V:=fun (d:Unit)=>Xs ) ⟨.nil,XsOk.nil,ItsOk.nil,YlOk.nil,IysOk.nil,XfOk.nil⟩ (NK) fun d hp=>h  hp
theorem Xl:NP:=NW fun _=>(by and_intros<;>first|rfl|trivial|simp)
def Y3:AL ((Int×Int×List (Int×Int))×Int×Int):=(.cons (.agg (.cons (.k (.i .i64)) (.cons (.k (.i .i64)) (.one (.k (.list (.pair (.i .i64) (.i .i64)))))))) (.one (.agg (.cons (.k (.i .i64)) (.one (.k (.i .i64)))))))
def Ub (d:(Int×Int×List (Int×Int))×Int×Int):Prop:=0≤d.1.2.1∧d.1.2.1≤1000∧0≤d.2.2∧d.2.2≤12000000
def WQ (d:(Int×Int×List (Int×Int))×Int×Int):SV:=.agg [.val (.i .i64) ((Qe d.1.2.1 (d.2.1,d.2.2)).1),.val (.i .i64) ((Qe d.1.2.1 (d.2.1,d.2.2)).2)]
def Wj (d:(Int×Int×List (Int×Int))×Int×Int):List OB:=[]
def ZG:CSp:=Y_ Y3 Ub WQ Wj
def Ja (g:Int) (s:Int) (l:List (Int×Int)) (k:Int) (x:Int):Prop :=
 (I64 (x-s))∧(I64 (x+s))∧(((Xe (0:Int) (x-s))=((Qe s (k,x)).1)∧(x+s)=((Qe s (k,x)).2)∧(([]:List SV)=[]))∧(True))
def WZ:Cx:=⟨[],[],17,[],0,[],[],[],[],false,[],[],[],[]⟩
def UH (g:Int) (s:Int) (l:List (Int×Int)) (k:Int) (x:Int):List (Nat×LoopAnn):=[]
set_option maxRecDepth 100000 in
theorem N0 (d:(Int×Int×List (Int×Int))×Int×Int):gwp (WZ) (UH d.1.1 d.1.2.1 d.1.2.2 d.2.1 d.2.2) c68 0 (Ko [.cell 4 true 2] (WQ d) (Wj d)) (QS 17 (AL.can Y3 d))=Ja d.1.1 d.1.2.1 d.1.2.2 d.2.1 d.2.2:=by kernel_rfl
abbrev UL:Prop:=OkC Tryz.prog 68 ZG
theorem Nm (h:∀ (g:Int) (s:Int) (l:List (Int×Int)) (k:Int) (x:Int),(0≤s∧s≤1000∧0≤x∧x≤12000000)→Ja g s l k x):OkC Tryz.prog 68 ZG :=
 Z8 Ii mixed (C:=WZ) (V:=fun (d:(Int×Int×List (Int×Int))×Int×Int)=>Ja d.1.1 d.1.2.1 d.1.2.2 d.2.1 d.2.2) ⟨.nil,XsOk.nil,ItsOk.nil,YlOk.nil,IysOk.nil,XfOk.nil⟩ (N0) fun d hp=>h d.1.1 d.1.2.1 d.1.2.2 d.2.1 d.2.2 hp
theorem X5:UL:=Nm fun g s l k x h=>by obtain⟨h1,h2,h3,h4⟩:=h;unfold Ja;(try delta lI gD sT I64);refine⟨by rw[Zs];omega,by rw[Zs];omega,(by and_intros<;>first|rfl|trivial|simp)⟩
def WI:AL ((Int×Int×List (Int×Int))×(Int×Int)×Int×Int):=(.cons (.agg (.cons (.k (.i .i64)) (.cons (.k (.i .i64)) (.one (.k (.list (.pair (.i .i64) (.i .i64)))))))) (.cons (.agg (.cons (.k (.i .i64)) (.one (.k (.i .i64))))) (.one (.agg (.cons (.k (.i .i64)) (.one (.k (.i .i64))))))))
def Vw (d:(Int×Int×List (Int×Int))×(Int×Int)×Int×Int):Prop:=0≤d.1.2.1∧d.1.2.1≤1000∧0≤d.2.2.2∧d.2.2.2≤12000000∧-2000000000000≤d.2.1.1∧d.2.1.1≤2000000000000∧-2000000000000≤d.2.1.2∧d.2.1.2≤2000000000000
def X_ (d:(Int×Int×List (Int×Int))×(Int×Int)×Int×Int):SV:=.agg [.val (.i .i64) ((QO d.1.2.1 (d.2.1.1,d.2.1.2) (d.2.2.1,d.2.2.2)).1),.val (.i .i64) ((QO d.1.2.1 (d.2.1.1,d.2.1.2) (d.2.2.1,d.2.2.2)).2)]
def XV (d:(Int×Int×List (Int×Int))×(Int×Int)×Int×Int):List OB:=[]
def JW:CSp:=Y_ WI Vw X_ XV
def ZV (g:Int) (s:Int) (l:List (Int×Int)) (p:Int) (q:Int) (k:Int) (x:Int):Prop :=
 (0≤s∧s≤1000∧0≤x∧x≤12000000)∧((k==(1:Int))=true →
  (True)∧(I64 (p-((Qe s (k,x)).2)))∧(I64 (q-((Qe s (k,x)).1)))∧(True)∧(((Xe (0:Int) (p-((Qe s (k,x)).2)))=((QO s (p,q) (k,x)).1)∧(Wa (1099511627776:Int) (q-((Qe s (k,x)).1)))=((QO s (p,q) (k,x)).2)∧(([]:List SV)=[]))∧(True))) ∧
 ((k==(1:Int))=false →
  ((k==(2:Int))=true →
   (I64 (p+((Qe s (k,x)).1)))∧(I64 (q+((Qe s (k,x)).2)))∧(((p+((Qe s (k,x)).1))=((QO s (p,q) (k,x)).1)∧(q+((Qe s (k,x)).2))=((QO s (p,q) (k,x)).2)∧(([]:List SV)=[]))∧(True))) ∧
  ((k==(2:Int))=false →
   (True)∧(((Xe p ((Qe s (k,x)).1))=((QO s (p,q) (k,x)).1)∧(Wa q ((Qe s (k,x)).2))=((QO s (p,q) (k,x)).2)∧(([]:List SV)=[]))∧(True))))
def WE:Cx:=⟨[],[(68,ZG),(64,ZZ),(67,XF)],44,[],0,[],[],[],[],false,[],[],[],[]⟩
def UA (g:Int) (s:Int) (l:List (Int×Int)) (p:Int) (q:Int) (k:Int) (x:Int):List (Nat×LoopAnn):=[]
set_option maxRecDepth 100000 in
theorem U8 (d:(Int×Int×List (Int×Int))×(Int×Int)×Int×Int):gwp (WE) (UA d.1.1 d.1.2.1 d.1.2.2 d.2.1.1 d.2.1.2 d.2.2.1 d.2.2.2) Q2v 0 (Ko [.cell 6 true 2] (X_ d) (XV d)) (QS 44 (AL.can WI d))=ZV d.1.1 d.1.2.1 d.1.2.2 d.2.1.1 d.2.1.2 d.2.2.1 d.2.2.2:=by kernel_rfl
abbrev Ur:Prop:=OkC Tryz.prog 106 JW
theorem Uj (h:∀ (g:Int) (s:Int) (l:List (Int×Int)) (p:Int) (q:Int) (k:Int) (x:Int),(0≤s∧s≤1000∧0≤x∧x≤12000000∧-2000000000000≤p∧p≤2000000000000∧-2000000000000≤q∧q≤2000000000000)→ZV g s l p q k x):OkC Tryz.prog 106 JW :=
 Z8 Eu mixed (C:=WE) (V:=fun (d:(Int×Int×List (Int×Int))×(Int×Int)×Int×Int)=>ZV d.1.1 d.1.2.1 d.1.2.2 d.2.1.1 d.2.1.2 d.2.2.1 d.2.2.2) ⟨(.cons X5 (.cons Xl (.cons YM .nil))),XsOk.nil,ItsOk.nil,YlOk.nil,IysOk.nil,XfOk.nil⟩ (U8) fun d hp=>h d.1.1 d.1.2.1 d.1.2.2 d.2.1.1 d.2.1.2 d.2.2.1 d.2.2.2 hp
theorem LO {s k x:Int}(h1:0≤s) (h2:s≤1000) (h3:0≤x) (h4:x≤12000000):0≤(Qe s (k,x)).1∧(Qe s (k,x)).1≤12000000∧0≤(Qe s (k,x)).2∧(Qe s (k,x)).2≤12001000:=by unfold Qe;rw[Yk];dsimp only;omega
theorem Ug:Ur:=Uj fun g s l p q k x h=>by
 obtain⟨h1,h2,h3,h4,h5,h6,h7,h8⟩:=h;unfold ZV;(try delta lI gD sT I64);simp only[beq_iff_eq,beq_eq_false_iff_ne,ne_eq];have hr:=LO (k:=k) h1 h2 h3 h4;refine⟨⟨h1,h2,h3,h4⟩,fun e=>?_,fun e=>⟨fun e2=>?_,fun e2=>?_⟩⟩
 ·have ea:QO s (p,q) (k,x)=(Xe 0 (p-(Qe s (k,x)).2),Wa 1099511627776 (q-(Qe s (k,x)).1)):=by unfold QO;rw[if_pos e];rfl
  simp only[ea,Zs];and_intros<;>first|rfl|trivial|omega
 ·have ea:QO s (p,q) (k,x)=(p+(Qe s (k,x)).1,q+(Qe s (k,x)).2):=by unfold QO;rw[if_neg e,if_pos e2]
  simp only[ea,Zs];and_intros<;>first|rfl|trivial|omega
 ·have ea:QO s (p,q) (k,x)=(Xe p (Qe s (k,x)).1,Wa q (Qe s (k,x)).2):=by unfold QO;rw[if_neg e,if_neg e2];rfl
  simp only[ea];and_intros<;>first|rfl|trivial|omega
def XY:AL ((Int×Int×List (Int×Int))×(Int×Int)×Int×Int):=(.cons (.agg (.cons (.k (.i .i64)) (.cons (.k (.i .i64)) (.one (.k (.list (.pair (.i .i64) (.i .i64)))))))) (.cons (.agg (.cons (.k (.i .i64)) (.one (.k (.i .i64))))) (.one (.agg (.cons (.k (.i .i64)) (.one (.k (.i .i64))))))))
def KS (d:(Int×Int×List (Int×Int))×(Int×Int)×Int×Int):Prop:=0≤d.1.2.1∧d.1.2.1≤1000∧0≤d.2.2.2∧d.2.2.2≤12000000∧-2000000000000≤d.2.1.1∧d.2.1.1≤2000000000000∧-2000000000000≤d.2.1.2∧d.2.1.2≤2000000000000
def XA (d:(Int×Int×List (Int×Int))×(Int×Int)×Int×Int):SV:=.agg [.val (.i .i64) ((Qr d.1.2.1 (d.2.1.1,d.2.1.2) (d.2.2.1,d.2.2.2)).1),.val (.i .i64) ((Qr d.1.2.1 (d.2.1.1,d.2.1.2) (d.2.2.1,d.2.2.2)).2)]
def Xz (d:(Int×Int×List (Int×Int))×(Int×Int)×Int×Int):List OB:=[]
def JG:CSp:=Y_ XY KS XA Xz
def ZE (g:Int) (s:Int) (l:List (Int×Int)) (p:Int) (q:Int) (k:Int) (x:Int):Prop :=
 (0≤s∧s≤1000∧0≤x∧x≤12000000)∧((k==(1:Int))=true →
  (I64 (p+((Qe s (k,x)).1)))∧(I64 (q+((Qe s (k,x)).2)))∧(((p+((Qe s (k,x)).1))=((Qr s (p,q) (k,x)).1)∧(q+((Qe s (k,x)).2))=((Qr s (p,q) (k,x)).2)∧(([]:List SV)=[]))∧(True))) ∧
 ((k==(1:Int))=false →
  ((k==(2:Int))=true →
   (True)∧(I64 (p-((Qe s (k,x)).2)))∧(I64 (q-((Qe s (k,x)).1)))∧(True)∧(((Xe (0:Int) (p-((Qe s (k,x)).2)))=((Qr s (p,q) (k,x)).1)∧(Wa (1099511627776:Int) (q-((Qe s (k,x)).1)))=((Qr s (p,q) (k,x)).2)∧(([]:List SV)=[]))∧(True))) ∧
  ((k==(2:Int))=false →
   (True)∧(((Xe p ((Qe s (k,x)).1))=((Qr s (p,q) (k,x)).1)∧(Wa q ((Qe s (k,x)).2))=((Qr s (p,q) (k,x)).2)∧(([]:List SV)=[]))∧(True))))
def XW:Cx:=⟨[],[(68,ZG),(64,ZZ),(67,XF)],44,[],0,[],[],[],[],false,[],[],[],[]⟩
def Vv (g:Int) (s:Int) (l:List (Int×Int)) (p:Int) (q:Int) (k:Int) (x:Int):List (Nat×LoopAnn):=[]
set_option maxRecDepth 100000 in
theorem Vy (d:(Int×Int×List (Int×Int))×(Int×Int)×Int×Int):gwp (XW) (Vv d.1.1 d.1.2.1 d.1.2.2 d.2.1.1 d.2.1.2 d.2.2.1 d.2.2.2) c66 0 (Ko [.cell 6 true 2] (XA d) (Xz d)) (QS 44 (AL.can XY d))=ZE d.1.1 d.1.2.1 d.1.2.2 d.2.1.1 d.2.1.2 d.2.2.1 d.2.2.2:=by kernel_rfl
abbrev VA:Prop:=OkC Tryz.prog 66 JG
theorem Vx (h:∀ (g:Int) (s:Int) (l:List (Int×Int)) (p:Int) (q:Int) (k:Int) (x:Int),(0≤s∧s≤1000∧0≤x∧x≤12000000∧-2000000000000≤p∧p≤2000000000000∧-2000000000000≤q∧q≤2000000000000)→ZE g s l p q k x):OkC Tryz.prog 66 JG :=
 Z8 Oi mixed (C:=XW) (V:=fun (d:(Int×Int×List (Int×Int))×(Int×Int)×Int×Int)=>ZE d.1.1 d.1.2.1 d.1.2.2 d.2.1.1 d.2.1.2 d.2.2.1 d.2.2.2) ⟨(.cons X5 (.cons Xl (.cons YM .nil))),XsOk.nil,ItsOk.nil,YlOk.nil,IysOk.nil,XfOk.nil⟩ (Vy) fun d hp=>h d.1.1 d.1.2.1 d.1.2.2 d.2.1.1 d.2.1.2 d.2.2.1 d.2.2.2 hp
theorem Vt:VA:=Vx fun g s l p q k x h=>by
 obtain⟨h1,h2,h3,h4,h5,h6,h7,h8⟩:=h;unfold ZE;(try delta lI gD sT I64);simp only[beq_iff_eq,beq_eq_false_iff_ne,ne_eq];have hr:=LO (k:=k) h1 h2 h3 h4;refine⟨⟨h1,h2,h3,h4⟩,fun e=>?_,fun e=>⟨fun e2=>?_,fun e2=>?_⟩⟩
 ·have ea:Qr s (p,q) (k,x)=(p+(Qe s (k,x)).1,q+(Qe s (k,x)).2):=by unfold Qr;rw[if_pos e]
  simp only[ea,Zs];and_intros<;>first|rfl|trivial|omega
 ·have ea:Qr s (p,q) (k,x)=(Xe 0 (p-(Qe s (k,x)).2),Wa 1099511627776 (q-(Qe s (k,x)).1)):=by unfold Qr;rw[if_neg e,if_pos e2];rfl
  simp only[ea,Zs];and_intros<;>first|rfl|trivial|omega
 ·have ea:Qr s (p,q) (k,x)=(Xe p (Qe s (k,x)).1,Wa q (Qe s (k,x)).2):=by unfold Qr;rw[if_neg e,if_neg e2];rfl
  simp only[ea];and_intros<;>first|rfl|trivial|omega
def WM:AL (Int×Int×List (Int×Int)):=(.one (.agg (.cons (.k (.i .i64)) (.cons (.k (.i .i64)) (.one (.k (.list (.pair (.i .i64) (.i .i64)))))))))
def Vz (d:Int×Int×List (Int×Int)):Prop:=Jc d.1 d.2.1 d.2.2
def XS (d:Int×Int×List (Int×Int)):SV:=.tup [.lst 0,.val (.i .i64) (Xb d.1 d.2.1 d.2.2)]
def XZ (d:Int×Int×List (Int×Int)):List OB:=[.lst 62 (.pair (.i .i64) (.i .i64)) (Q2 d.1 d.2.1 d.2.2) false]
def Jb:CSp:=Y_ WM Vz XS XZ
def ZS (g:Int) (s:Int) (l:List (Int×Int)):Prop :=
 ∃ (e3:Unit) (d30:(List (Int×Int))×Int),((True∧True∧l=l∧(lI l)=(lI l)∧(0:Int)=d30.2∧True)∧((g=g∧s=s∧l=l∧(([]:List SV)=[]))∧([(g,g)]=d30.1∧false=false)∧True)) ∧
 LoopP (fun (d3:(List (Int×Int))×Int) (q3:((List (Int×Int))×Int)→Prop) =>
  ((decide (d3.2<(lI l)))=true →
   (0≤d3.2)∧(d3.2<(List.length l))∧(0≤d3.2)∧(d3.2<(List.length d3.1))∧(0≤s∧s≤1000∧0≤((gD l d3.2 (0,0)).2)∧((gD l d3.2 (0,0)).2)≤12000000∧-2000000000000≤((gD d3.1 d3.2 (0,0)).1)∧((gD d3.1 d3.2 (0,0)).1)≤2000000000000∧-2000000000000≤((gD d3.1 d3.2 (0,0)).2)∧((gD d3.1 d3.2 (0,0)).2)≤2000000000000)∧((True∧True∧d3.2=d3.2∧True∧l=l∧(lI l)=(lI l)∧d3.2=d3.2∧(((QO s (((gD d3.1 d3.2 (0,0)).1),((gD d3.1 d3.2 (0,0)).2)) (((gD l d3.2 (0,0)).1),((gD l d3.2 (0,0)).2))).1)=((QO s (((gD d3.1 d3.2 (0,0)).1),((gD d3.1 d3.2 (0,0)).2)) (((gD l d3.2 (0,0)).1),((gD l d3.2 (0,0)).2))).1)∧((QO s (((gD d3.1 d3.2 (0,0)).1),((gD d3.1 d3.2 (0,0)).2)) (((gD l d3.2 (0,0)).1),((gD l d3.2 (0,0)).2))).2)=((QO s (((gD d3.1 d3.2 (0,0)).1),((gD d3.1 d3.2 (0,0)).2)) (((gD l d3.2 (0,0)).1),((gD l d3.2 (0,0)).2))).2)∧(([]:List SV)=[]))∧True)∧((g=g∧s=s∧l=l∧(([]:List SV)=[]))∧((gD l d3.2 (0,0)).1=(gD l d3.2 (0,0)).1∧(gD l d3.2 (0,0)).2=(gD l d3.2 (0,0)).2∧(([]:List SV)=[]))∧((0:Int)=(0:Int)∧(0:Int)=(0:Int)∧(([]:List SV)=[]))∧(d3.1=d3.1∧false=false)∧True))∧((0≤d3.2)∧(d3.2<(List.length d3.1))∧(0≤s∧s≤1000∧0≤((gD l d3.2 (0,0)).2)∧((gD l d3.2 (0,0)).2)≤12000000∧-2000000000000≤((gD d3.1 d3.2 (0,0)).1)∧((gD d3.1 d3.2 (0,0)).1)≤2000000000000∧-2000000000000≤((gD d3.1 d3.2 (0,0)).2)∧((gD d3.1 d3.2 (0,0)).2)≤2000000000000)∧((True∧True∧d3.2=d3.2∧True∧l=l∧(lI l)=(lI l)∧d3.2=d3.2∧(((QO s (((gD d3.1 d3.2 (0,0)).1),((gD d3.1 d3.2 (0,0)).2)) (((gD l d3.2 (0,0)).1),((gD l d3.2 (0,0)).2))).1)=((QO s (((gD d3.1 d3.2 (0,0)).1),((gD d3.1 d3.2 (0,0)).2)) (((gD l d3.2 (0,0)).1),((gD l d3.2 (0,0)).2))).1)∧((QO s (((gD d3.1 d3.2 (0,0)).1),((gD d3.1 d3.2 (0,0)).2)) (((gD l d3.2 (0,0)).1),((gD l d3.2 (0,0)).2))).2)=((QO s (((gD d3.1 d3.2 (0,0)).1),((gD d3.1 d3.2 (0,0)).2)) (((gD l d3.2 (0,0)).1),((gD l d3.2 (0,0)).2))).2)∧(([]:List SV)=[]))∧True)∧((g=g∧s=s∧l=l∧(([]:List SV)=[]))∧((gD l d3.2 (0,0)).1=(gD l d3.2 (0,0)).1∧(gD l d3.2 (0,0)).2=(gD l d3.2 (0,0)).2∧(([]:List SV)=[]))∧((0:Int)=(0:Int)∧(0:Int)=(0:Int)∧(([]:List SV)=[]))∧(d3.1=d3.1∧false=false)∧True)))∧((decide (((QO s (((gD d3.1 d3.2 (0,0)).1),((gD d3.1 d3.2 (0,0)).2)) (((gD l d3.2 (0,0)).1),((gD l d3.2 (0,0)).2))).1) > ((QO s (((gD d3.1 d3.2 (0,0)).1),((gD d3.1 d3.2 (0,0)).2)) (((gD l d3.2 (0,0)).1),((gD l d3.2 (0,0)).2))).2)))=true →
    ((True∧d3.2=(Xb g s l)∧(([]:List SV)=[]))∧((d3.1=(Q2 g s l)∧false=false)∧True))) ∧
   ((decide (((QO s (((gD d3.1 d3.2 (0,0)).1),((gD d3.1 d3.2 (0,0)).2)) (((gD l d3.2 (0,0)).1),((gD l d3.2 (0,0)).2))).1) > ((QO s (((gD d3.1 d3.2 (0,0)).1),((gD d3.1 d3.2 (0,0)).2)) (((gD l d3.2 (0,0)).1),((gD l d3.2 (0,0)).2))).2)))=false →
    (((List.length d3.1)+(List.length [(((QO s (((gD d3.1 d3.2 (0,0)).1),((gD d3.1 d3.2 (0,0)).2)) (((gD l d3.2 (0,0)).1),((gD l d3.2 (0,0)).2))).1),((QO s (((gD d3.1 d3.2 (0,0)).1),((gD d3.1 d3.2 (0,0)).2)) (((gD l d3.2 (0,0)).1),((gD l d3.2 (0,0)).2))).2))]))*16≤70368744177664)∧(I64 (d3.2+(1:Int)))∧(∃ d4:(List (Int×Int))×Int,((True∧True∧l=l∧(lI l)=(lI l)∧(d3.2+(1:Int))=d4.2∧True)∧((g=g∧s=s∧l=l∧(([]:List SV)=[]))∧((d3.1++[(((QO s (((gD d3.1 d3.2 (0,0)).1),((gD d3.1 d3.2 (0,0)).2)) (((gD l d3.2 (0,0)).1),((gD l d3.2 (0,0)).2))).1),((QO s (((gD d3.1 d3.2 (0,0)).1),((gD d3.1 d3.2 (0,0)).2)) (((gD l d3.2 (0,0)).1),((gD l d3.2 (0,0)).2))).2))])=d4.1∧false=false)∧True))∧q3 d4))) ∧
  ((decide (d3.2<(lI l)))=false →
   ((True∧(-1:Int)=(Xb g s l)∧(([]:List SV)=[]))∧((d3.1=(Q2 g s l)∧false=false)∧True)))) d30
def WK:Cx:=⟨[(62,(.pair (.i .i64) (.i .i64)))],[(106,JW)],41,[],0,[],[],[],[1,2,4,6,14,15,16,27],false,[],[],[],[]⟩
def Ud (g:Int) (s:Int) (l:List (Int×Int)):List (Nat×LoopAnn):=[(0,⟨Unit,(List (Int×Int))×Int,[1,2,14,15,16],fun e x=>[.box 1 0,.lst 12,.val (.list (.pair (.i .i64) (.i .i64))) l,.val (.i .i64) (((List.length l):Nat):Int),.val (.i .i64) x.2],fun e x=>[(1,.slot 1,.cells [.val (.i .i64) g,.val (.i .i64) s,.val (.list (.pair (.i .i64) (.i .i64))) l] (some 130)),(12,.slot 2,.lst 62 (.pair (.i .i64) (.i .i64)) x.1 false)]⟩)]
set_option maxRecDepth 100000 in
theorem Uw (d:Int×Int×List (Int×Int)):gwp (WK) (Ud d.1 d.2.1 d.2.2) c63 0 (Ko [.tmp 2,.tmp 3] (XS d) (XZ d)) (QS 41 (AL.can WM d))=ZS d.1 d.2.1 d.2.2:=by kernel_rfl
abbrev Ul:Prop:=OkC Tryz.prog 63 Jb
theorem Uf (h:∀ (g:Int) (s:Int) (l:List (Int×Int)),(Jc g s l)→ZS g s l):OkC Tryz.prog 63 Jb :=
 Z8 I8 mixed (C:=WK) (V:=fun (d:Int×Int×List (Int×Int))=>ZS d.1 d.2.1 d.2.2) ⟨(.cons Ug .nil),XsOk.nil,ItsOk.nil,YlOk.nil,IysOk.nil,XfOk.nil⟩ (Uw) fun d hp=>h d.1 d.2.1 d.2.2 hp
theorem TI {g s:Int}{l:List En}{k:Nat}(hk:k<l.length) (hn:∀ j,j<k→Ne (stB g s l (j+1))) (hb:(stB g s l (k+1)).1 > (stB g s l (k+1)).2):O9 g s l=some k :=
 List.find?_range_eq_some.2 ⟨by simpa [F4] using hb,by simpa using hk,fun j hj=>by have:=hn j hj;unfold Ne at this;simp[F4];omega⟩
theorem Tc {g s:Int}{l:List En}(hn:∀ j,j<l.length→Ne (stB g s l (j+1))):O9 g s l=none :=
 List.find?_range_eq_none.2 fun j hj=>by have:=hn j hj;unfold Ne at this;simp[F4];omega
theorem CE {g s:Int}{l:List En}{n k:Nat}(h:k<n):((List.range n).map (stB g s l)).getD k (0,0)=stB g s l k:=by rw[QM (by simpa using h)];simp
theorem Wz:Ul:=Uf fun g s l hb=>by
 have bU:=hb;obtain⟨b1,b2,b3,b4,b5,b6⟩:=bU;unfold ZS;(try delta lI gD sT I64)
 (try simp only[decide_eq_true_eq,decide_eq_false_iff_not])
 refine⟨(),([(g,g)],0),(by and_intros<;>first|rfl|trivial|simp),?_⟩;refine LoopP.count2 l.length (fun k sp=>sp=(List.range (k+1)).map (stB g s l)∧∀ j,j<k→Ne (stB g s l (j+1))) ⟨rfl,fun j hj=>by omega⟩ fun k sp hk hI q hq=>?_;obtain⟨i1,i2⟩:=hI;subst i1;dsimp only;refine⟨fun ah=>?_,fun a7=>?_⟩
 ·have aZ:k<l.length:=by omega
  have ph:=S0 hb k (by omega) fun j h1 h2=>i2 j (by omega);have hx:=b6 _ (List.getElem_mem aZ);obtain⟨x1,x2,x3,x4⟩:=hx;have uo:=MN (g:=g) (s:=s) aZ;have hlen:((List.range (k+1)).map (stB g s l)).length=k+1:=by simp
  have hp:∀ y:Int×Int,(y.1,y.2)=y:=fun _=>rfl;have uq:-100000000≤(stB g s l k).2:=by omega
  simp only[Int.toNat_natCast,CE (show k<k+1 by omega),QM (d:=((0,0):Int×Int)) aZ,hp,←uo,hlen,true_and,and_true,List.length_cons,List.length_nil];have hT:∀ P:Prop,P→P:=fun _ h=>h;refine⟨by omega,by omega,by omega,by omega,⟨b3,b4,by omega,by omega,by omega,by omega,by omega,by omega⟩,⟨by omega,by omega,b3,b4,by omega,by omega,by omega,by omega,by omega,by omega⟩,fun p9=>?_,fun aj=>⟨by omega,by rw[Zs];omega,((List.range (k+1)).map (stB g s l)++[stB g s l (k+1)],(k:Int)+1),(by and_intros<;>first|rfl|trivial|simp),hq _ aZ ⟨by rw[List.range_succ (n:=k+1),List.map_append];rfl,fun j hj=>?_⟩⟩⟩
  ·have hw:=TI aZ i2 p9;have p_:Xb g s l=k:=by unfold Xb;rw[hw]
   have nL:Q2 g s l=(List.range (k+1)).map (stB g s l):=by unfold Q2;rw[hw]
   rw[p_,nL];exact⟨rfl,rfl⟩
  ·rcases Nat.lt_succ_iff_lt_or_eq.1 hj with hj|rfl
   ·exact i2 j hj
   ·unfold Ne;omega
 ·have:k=l.length:=by omega
  subst this;have hn:=Tc i2;have p_:Xb g s l=-1:=by unfold Xb;rw[hn]
  have nL:Q2 g s l=(List.range (l.length+1)).map (stB g s l):=by unfold Q2;rw[hn]
  rw[p_,nL];and_intros<;>first|rfl|trivial
def K8:Cx:=⟨[(3,(.i .i64))],[(104,ZK),(58,J2),(105,Qa)],33,[],0,[],[],[],[],false,[],[],[],[]⟩
def WA:XSp:=FO K8 (fun _=>[]) c62 [.cell 6 true 3,.tmp 7] 33
theorem YE:XOk Tryz.prog 62 WA:=MZ OQ mixed (C:=K8) ⟨(.cons X8 (.cons X2 (.cons Qj .nil))),XsOk.nil,ItsOk.nil,YlOk.nil,IysOk.nil,XfOk.nil⟩ _
end Go.Proofs.Tryz
set_option linter.unusedVariables false
namespace Go.Proofs.Tryz
open Go Go.V Go.Proofs
def Nx:AL (Int×Int×List (Int×Int)):=(.cons (.k (.i .i64)) (.cons (.k (.i .i64)) (.one (.k (.list (.pair (.i .i64) (.i .i64)))))))
def DF (d:Int×Int×List (Int×Int)):Prop:=d.2.2.length≤1000
def VE (d:Int×Int×List (Int×Int)):SV:=.tup [.agg [.val (.i .i64) ((Qf d.1 d.2.1 d.2.2).1),.val (.i .i64) ((Qf d.1 d.2.1 d.2.2).2)],.val (.i .i64) (Z7 d.1 d.2.1 d.2.2),.val (.i .i64) (Qn d.1 d.2.1 d.2.2)]
def VD (d:Int×Int×List (Int×Int)):List OB:=[]
def Kv:CSp:=Y_ Nx DF VE VD
def W2 (g:Int) (s:Int) (l:List (Int×Int)):Prop :=
 ∀ w1:List Value,([g].length≤1000000)∧((!(!([g].any fun n=>decide (n<(1:Int))||decide ((1000000:Int)<n))))=true →
  ((!(!([g].any fun n=>decide (n<(1:Int))||decide ((1000000:Int)<n))))=true →
   w1=w1∧(((2:Int) != (0:Int))=true →
    ((((0:Int)=((Qf g s l).1)∧(0:Int)=((Qf g s l).2)∧(([]:List SV)=[]))∧(0:Int)=(Z7 g s l)∧(2:Int)=(Qn g s l)∧(([]:List SV)=[]))∧(True))) ∧
   (((2:Int) != (0:Int))=false →
    (Jc (0:Int) (0:Int) ([]:List (Int×Int)))∧((decide ((Xb (0:Int) (0:Int) ([]:List (Int×Int)))≥(0:Int)))=true →
     ((((0:Int)=((Qf g s l).1)∧(0:Int)=((Qf g s l).2)∧(([]:List SV)=[]))∧(Xb (0:Int) (0:Int) ([]:List (Int×Int)))=(Z7 g s l)∧(90:Int)=(Qn g s l)∧(([]:List SV)=[]))∧(True))) ∧
    ((decide ((Xb (0:Int) (0:Int) ([]:List (Int×Int)))≥(0:Int)))=false →
     (0≤(lI l))∧((lI l)<(List.length (Q2 (0:Int) (0:Int) ([]:List (Int×Int)))))∧((((gD (Q2 (0:Int) (0:Int) ([]:List (Int×Int))) (lI l) (0,0)).1=((Qf g s l).1)∧(gD (Q2 (0:Int) (0:Int) ([]:List (Int×Int))) (lI l) (0,0)).2=((Qf g s l).2)∧(([]:List SV)=[]))∧(0:Int)=(Z7 g s l)∧(0:Int)=(Qn g s l)∧(([]:List SV)=[]))∧(True))))) ∧
  ((!(!([g].any fun n=>decide (n<(1:Int))||decide ((1000000:Int)<n))))=false →
   ((decide ((lI l) > (40:Int)))=true →
    w1=w1∧(((5:Int) != (0:Int))=true →
     ((((0:Int)=((Qf g s l).1)∧(0:Int)=((Qf g s l).2)∧(([]:List SV)=[]))∧(0:Int)=(Z7 g s l)∧(5:Int)=(Qn g s l)∧(([]:List SV)=[]))∧(True))) ∧
    (((5:Int) != (0:Int))=false →
     (Jc (0:Int) (0:Int) ([]:List (Int×Int)))∧((decide ((Xb (0:Int) (0:Int) ([]:List (Int×Int)))≥(0:Int)))=true →
      ((((0:Int)=((Qf g s l).1)∧(0:Int)=((Qf g s l).2)∧(([]:List SV)=[]))∧(Xb (0:Int) (0:Int) ([]:List (Int×Int)))=(Z7 g s l)∧(90:Int)=(Qn g s l)∧(([]:List SV)=[]))∧(True))) ∧
     ((decide ((Xb (0:Int) (0:Int) ([]:List (Int×Int)))≥(0:Int)))=false →
      (0≤(lI l))∧((lI l)<(List.length (Q2 (0:Int) (0:Int) ([]:List (Int×Int)))))∧((((gD (Q2 (0:Int) (0:Int) ([]:List (Int×Int))) (lI l) (0,0)).1=((Qf g s l).1)∧(gD (Q2 (0:Int) (0:Int) ([]:List (Int×Int))) (lI l) (0,0)).2=((Qf g s l).2)∧(([]:List SV)=[]))∧(0:Int)=(Z7 g s l)∧(0:Int)=(Qn g s l)∧(([]:List SV)=[]))∧(True))))) ∧
   ((decide ((lI l) > (40:Int)))=false →
    (l.length≤1000000∧∀ x∈l,(fun (x1:Int×Int)=>True) x)∧((l.any (fun (x1:Int×Int)=>(!inI x1.1 1 3||!inI x1.2 0 12000000)))=true →
     w1=w1∧(((2:Int) != (0:Int))=true →
      ((((0:Int)=((Qf g s l).1)∧(0:Int)=((Qf g s l).2)∧(([]:List SV)=[]))∧(0:Int)=(Z7 g s l)∧(2:Int)=(Qn g s l)∧(([]:List SV)=[]))∧(True))) ∧
     (((2:Int) != (0:Int))=false →
      (Jc (0:Int) (0:Int) ([]:List (Int×Int)))∧((decide ((Xb (0:Int) (0:Int) ([]:List (Int×Int)))≥(0:Int)))=true →
       ((((0:Int)=((Qf g s l).1)∧(0:Int)=((Qf g s l).2)∧(([]:List SV)=[]))∧(Xb (0:Int) (0:Int) ([]:List (Int×Int)))=(Z7 g s l)∧(90:Int)=(Qn g s l)∧(([]:List SV)=[]))∧(True))) ∧
      ((decide ((Xb (0:Int) (0:Int) ([]:List (Int×Int)))≥(0:Int)))=false →
       (0≤(lI l))∧((lI l)<(List.length (Q2 (0:Int) (0:Int) ([]:List (Int×Int)))))∧((((gD (Q2 (0:Int) (0:Int) ([]:List (Int×Int))) (lI l) (0,0)).1=((Qf g s l).1)∧(gD (Q2 (0:Int) (0:Int) ([]:List (Int×Int))) (lI l) (0,0)).2=((Qf g s l).2)∧(([]:List SV)=[]))∧(0:Int)=(Z7 g s l)∧(0:Int)=(Qn g s l)∧(([]:List SV)=[]))∧(True))))) ∧
    ((l.any (fun (x1:Int×Int)=>(!inI x1.1 1 3||!inI x1.2 0 12000000)))=false →
     w1=w1∧(((0:Int) != (0:Int))=true →
      ((((0:Int)=((Qf g s l).1)∧(0:Int)=((Qf g s l).2)∧(([]:List SV)=[]))∧(0:Int)=(Z7 g s l)∧(0:Int)=(Qn g s l)∧(([]:List SV)=[]))∧(True))) ∧
     (((0:Int) != (0:Int))=false →
      (Jc g s l)∧((decide ((Xb g s l)≥(0:Int)))=true →
       ((((0:Int)=((Qf g s l).1)∧(0:Int)=((Qf g s l).2)∧(([]:List SV)=[]))∧(Xb g s l)=(Z7 g s l)∧(90:Int)=(Qn g s l)∧(([]:List SV)=[]))∧(True))) ∧
      ((decide ((Xb g s l)≥(0:Int)))=false →
       (0≤(lI l))∧((lI l)<(List.length (Q2 g s l)))∧((((gD (Q2 g s l) (lI l) (0,0)).1=((Qf g s l).1)∧(gD (Q2 g s l) (lI l) (0,0)).2=((Qf g s l).2)∧(([]:List SV)=[]))∧(0:Int)=(Z7 g s l)∧(0:Int)=(Qn g s l)∧(([]:List SV)=[]))∧(True)))))))) ∧
 ((!(!([g].any fun n=>decide (n<(1:Int))||decide ((1000000:Int)<n))))=false →
  ([s].length≤1000000)∧((!(!([s].any fun n=>decide (n<(0:Int))||decide ((1000:Int)<n))))=true →
   w1=w1∧(((2:Int) != (0:Int))=true →
    ((((0:Int)=((Qf g s l).1)∧(0:Int)=((Qf g s l).2)∧(([]:List SV)=[]))∧(0:Int)=(Z7 g s l)∧(2:Int)=(Qn g s l)∧(([]:List SV)=[]))∧(True))) ∧
   (((2:Int) != (0:Int))=false →
    (Jc (0:Int) (0:Int) ([]:List (Int×Int)))∧((decide ((Xb (0:Int) (0:Int) ([]:List (Int×Int)))≥(0:Int)))=true →
     ((((0:Int)=((Qf g s l).1)∧(0:Int)=((Qf g s l).2)∧(([]:List SV)=[]))∧(Xb (0:Int) (0:Int) ([]:List (Int×Int)))=(Z7 g s l)∧(90:Int)=(Qn g s l)∧(([]:List SV)=[]))∧(True))) ∧
    ((decide ((Xb (0:Int) (0:Int) ([]:List (Int×Int)))≥(0:Int)))=false →
     (0≤(lI l))∧((lI l)<(List.length (Q2 (0:Int) (0:Int) ([]:List (Int×Int)))))∧((((gD (Q2 (0:Int) (0:Int) ([]:List (Int×Int))) (lI l) (0,0)).1=((Qf g s l).1)∧(gD (Q2 (0:Int) (0:Int) ([]:List (Int×Int))) (lI l) (0,0)).2=((Qf g s l).2)∧(([]:List SV)=[]))∧(0:Int)=(Z7 g s l)∧(0:Int)=(Qn g s l)∧(([]:List SV)=[]))∧(True))))) ∧
  ((!(!([s].any fun n=>decide (n<(0:Int))||decide ((1000:Int)<n))))=false →
   ((decide ((lI l) > (40:Int)))=true →
    w1=w1∧(((5:Int) != (0:Int))=true →
     ((((0:Int)=((Qf g s l).1)∧(0:Int)=((Qf g s l).2)∧(([]:List SV)=[]))∧(0:Int)=(Z7 g s l)∧(5:Int)=(Qn g s l)∧(([]:List SV)=[]))∧(True))) ∧
    (((5:Int) != (0:Int))=false →
     (Jc (0:Int) (0:Int) ([]:List (Int×Int)))∧((decide ((Xb (0:Int) (0:Int) ([]:List (Int×Int)))≥(0:Int)))=true →
      ((((0:Int)=((Qf g s l).1)∧(0:Int)=((Qf g s l).2)∧(([]:List SV)=[]))∧(Xb (0:Int) (0:Int) ([]:List (Int×Int)))=(Z7 g s l)∧(90:Int)=(Qn g s l)∧(([]:List SV)=[]))∧(True))) ∧
     ((decide ((Xb (0:Int) (0:Int) ([]:List (Int×Int)))≥(0:Int)))=false →
      (0≤(lI l))∧((lI l)<(List.length (Q2 (0:Int) (0:Int) ([]:List (Int×Int)))))∧((((gD (Q2 (0:Int) (0:Int) ([]:List (Int×Int))) (lI l) (0,0)).1=((Qf g s l).1)∧(gD (Q2 (0:Int) (0:Int) ([]:List (Int×Int))) (lI l) (0,0)).2=((Qf g s l).2)∧(([]:List SV)=[]))∧(0:Int)=(Z7 g s l)∧(0:Int)=(Qn g s l)∧(([]:List SV)=[]))∧(True))))) ∧
   ((decide ((lI l) > (40:Int)))=false →
    (l.length≤1000000∧∀ x∈l,(fun (x2:Int×Int)=>True) x)∧((l.any (fun (x2:Int×Int)=>(!inI x2.1 1 3||!inI x2.2 0 12000000)))=true →
     w1=w1∧(((2:Int) != (0:Int))=true →
      ((((0:Int)=((Qf g s l).1)∧(0:Int)=((Qf g s l).2)∧(([]:List SV)=[]))∧(0:Int)=(Z7 g s l)∧(2:Int)=(Qn g s l)∧(([]:List SV)=[]))∧(True))) ∧
     (((2:Int) != (0:Int))=false →
      (Jc (0:Int) (0:Int) ([]:List (Int×Int)))∧((decide ((Xb (0:Int) (0:Int) ([]:List (Int×Int)))≥(0:Int)))=true →
       ((((0:Int)=((Qf g s l).1)∧(0:Int)=((Qf g s l).2)∧(([]:List SV)=[]))∧(Xb (0:Int) (0:Int) ([]:List (Int×Int)))=(Z7 g s l)∧(90:Int)=(Qn g s l)∧(([]:List SV)=[]))∧(True))) ∧
      ((decide ((Xb (0:Int) (0:Int) ([]:List (Int×Int)))≥(0:Int)))=false →
       (0≤(lI l))∧((lI l)<(List.length (Q2 (0:Int) (0:Int) ([]:List (Int×Int)))))∧((((gD (Q2 (0:Int) (0:Int) ([]:List (Int×Int))) (lI l) (0,0)).1=((Qf g s l).1)∧(gD (Q2 (0:Int) (0:Int) ([]:List (Int×Int))) (lI l) (0,0)).2=((Qf g s l).2)∧(([]:List SV)=[]))∧(0:Int)=(Z7 g s l)∧(0:Int)=(Qn g s l)∧(([]:List SV)=[]))∧(True))))) ∧
    ((l.any (fun (x2:Int×Int)=>(!inI x2.1 1 3||!inI x2.2 0 12000000)))=false →
     w1=w1∧(((0:Int) != (0:Int))=true →
      ((((0:Int)=((Qf g s l).1)∧(0:Int)=((Qf g s l).2)∧(([]:List SV)=[]))∧(0:Int)=(Z7 g s l)∧(0:Int)=(Qn g s l)∧(([]:List SV)=[]))∧(True))) ∧
     (((0:Int) != (0:Int))=false →
      (Jc g s l)∧((decide ((Xb g s l)≥(0:Int)))=true →
       ((((0:Int)=((Qf g s l).1)∧(0:Int)=((Qf g s l).2)∧(([]:List SV)=[]))∧(Xb g s l)=(Z7 g s l)∧(90:Int)=(Qn g s l)∧(([]:List SV)=[]))∧(True))) ∧
      ((decide ((Xb g s l)≥(0:Int)))=false →
       (0≤(lI l))∧((lI l)<(List.length (Q2 g s l)))∧((((gD (Q2 g s l) (lI l) (0,0)).1=((Qf g s l).1)∧(gD (Q2 g s l) (lI l) (0,0)).2=((Qf g s l).2)∧(([]:List SV)=[]))∧(0:Int)=(Z7 g s l)∧(0:Int)=(Qn g s l)∧(([]:List SV)=[]))∧(True))))))))
def Nj:Cx:=⟨[(3,(.i .i64))],[(58,J2),(63,Jb),(105,Qa),(104,ZK)],37,[],0,[(62,WA)],[],[],[],false,[],[],[],[]⟩
def BU (g:Int) (s:Int) (l:List (Int×Int)):List (Nat×LoopAnn):=[]
set_option maxRecDepth 100000 in
theorem HA (d:Int×Int×List (Int×Int)):gwp (Nj) (BU d.1 d.2.1 d.2.2) c27 0 (Ko [.cell 6 true 2,.tmp 7,.tmp 8] (VE d) (VD d)) (QS 37 (AL.can Nx d))=W2 d.1 d.2.1 d.2.2:=by kernel_rfl
abbrev BW:Prop:=OkC Tryz.prog 27 Kv
theorem HB (h:∀ (g:Int) (s:Int) (l:List (Int×Int)),(l.length≤1000)→W2 g s l):OkC Tryz.prog 27 Kv :=
 Z8 Ib mixed (C:=Nj) (V:=fun (d:Int×Int×List (Int×Int))=>W2 d.1 d.2.1 d.2.2) ⟨(.cons X2 (.cons Wz (.cons Qj (.cons X8 .nil)))),(XsOk.cons YE XsOk.nil),ItsOk.nil,YlOk.nil,IysOk.nil,XfOk.nil⟩ (HA) fun d hp=>h d.1 d.2.1 d.2.2 hp
theorem OW:((2:Int) != 0)=true:=rfl
theorem Q06:((5:Int) != 0)=true:=rfl
theorem Q0e:((0:Int) != 0)=false:=rfl
theorem OX {g s:Int}{l:List En}(h:inI g 1 1000000=false):Jp g s l=2:=by unfold Jp;rw[h];rfl
theorem Ir {g s:Int}{l:List En}(h:inI s 0 1000=false):Jp g s l=2:=by unfold Jp;rw[h,Bool.not_false,Bool.or_true,if_pos rfl]
theorem Q3r {g s:Int}{l:List En}(h1:inI g 1 1000000=true) (h2:inI s 0 1000=true) (h:40<(l.length:Int)):Jp g s l=5:=by unfold Jp;rw[h1,h2,if_neg (by decide),if_pos (by omega)]
theorem IW {g s:Int}{l:List En}(h1:inI g 1 1000000=true) (h2:inI s 0 1000=true) (h3:¬ 40<(l.length:Int)) (h:(l.any fun x=>!inI x.1 1 3||!inI x.2 0 12000000)=true):Jp g s l=2:=by unfold Jp;rw[h1,h2,if_neg (by decide),if_neg (by omega),if_pos h]
theorem Q4m {g s:Int}{l:List En}(h1:inI g 1 1000000=true) (h2:inI s 0 1000=true) (h3:¬ 40<(l.length:Int)) (h:(l.any fun x=>!inI x.1 1 3||!inI x.2 0 12000000)=false):Jp g s l=0:=by unfold Jp;rw[h1,h2,if_neg (by decide),if_neg (by omega),if_neg (by rw[h];decide)]
theorem Sb {g s e:Int}{l:List En}(he:Jp g s l=e) (h0:e≠0):Qn g s l=e∧Z7 g s l=0∧Qf g s l=(0,0):=by
 have h1:Qn g s l=e:=by unfold Qn;rw[he,if_pos h0]
 refine⟨h1,?_,?_⟩
 ·unfold Z7;rw[he,if_neg (fun h=>h0 h.1)]
 ·unfold Qf;rw[h1,if_neg h0]
theorem RP {g s:Int}{l:List En}(he:Jp g s l=0) (hw:0≤Xb g s l):Qn g s l=90∧Z7 g s l=Xb g s l∧Qf g s l=(0,0):=by
 have h1:Qn g s l=90:=by unfold Qn;rw[he,if_neg (by decide),if_pos hw]
 refine⟨h1,?_,?_⟩
 ·unfold Z7;rw[if_pos ⟨he,hw⟩]
 ·unfold Qf;rw[h1,if_neg (by decide)]
theorem Nq {g s:Int}{l:List En}(he:Jp g s l=0) (hw:¬ 0≤Xb g s l):Qn g s l=0∧Z7 g s l=0∧Qf g s l=stB g s l l.length∧Q2 g s l=(List.range (l.length+1)).map (stB g s l):=by
 have h1:Qn g s l=0:=by unfold Qn;rw[he,if_neg (by decide),if_neg hw]
 refine⟨h1,?_,?_,?_⟩
 ·unfold Z7;rw[if_neg (fun h=>hw h.2)]
 ·unfold Qf;rw[if_pos h1]
 ·unfold Q2;rw[Tc (Vo.1 (by omega))]
theorem Hr:BW:=HB fun g s l hl=>by
 unfold W2;(try delta lI gD sT I64);simp only[List.any_cons,List.any_nil,Bool.or_false,Bool.not_not,←nIb,List.length_cons,List.length_nil,OW,Q06,Q0e,Bool.true_eq_false,true_and,and_true,decide_eq_true_eq,decide_eq_false_iff_not,Bool.not_eq_true',Bool.not_eq_false',Int.toNat_natCast,Int.ofNat_lt,gt_iff_lt,ge_iff_le,false_implies,Bool.false_eq_true,Bool.or_false,implies_true,forall_const];have R0:∀ {e:Int},Jp g s l=e→e≠0→(0=(Qf g s l).1∧0=(Qf g s l).2)∧0=Z7 g s l∧e=Qn g s l:=fun he h0=>by obtain⟨a,b,c⟩:=Sb he h0;rw[a,b,c];exact⟨⟨rfl,rfl⟩,rfl,rfl⟩
 refine⟨by omega,fun h1=>⟨fun _=>R0 (OX h1) (by decide),fun h=>by rw[h1] at h;cases h⟩,fun h1=>⟨by omega,fun h2=>R0 (Ir h2) (by decide),fun h2=>⟨fun h3=>R0 (Q3r h1 h2 h3) (by decide),fun h3=>⟨by omega,fun h4=>R0 (IW h1 h2 h3 h4) (by decide),fun h4=>?_⟩⟩⟩⟩;have he:=Q4m h1 h2 h3 h4;refine⟨GV he,fun hw=>?_,fun hw=>?_⟩
 ·obtain⟨a,b,c⟩:=RP he hw;rw[a,b,c];exact⟨⟨rfl,rfl⟩,rfl,rfl⟩
 ·obtain⟨a,b,c,d⟩:=Nq he hw;rw[a,b,c,d,CE (by omega)];exact⟨by omega,by simp,⟨rfl,rfl⟩,rfl,rfl⟩
def QI:Cx:=⟨[],[],4,[],0,[],[],[],[],false,[],[],[],[]⟩
def QL:XSp:=FO QI (fun _=>[]) c65 [.tmp 2] 4
theorem Zt:XOk Tryz.prog 65 QL:=MZ IE mixed (C:=QI) ⟨.nil,XsOk.nil,ItsOk.nil,YlOk.nil,IysOk.nil,XfOk.nil⟩ _
end Go.Proofs.Tryz
set_option linter.unusedVariables false
namespace Go.Proofs.Tryz
open Go Go.V Go.Proofs
def Mk:AL (Int×Int×(List (Int×Int))×Int):=(.cons (.k (.i .i64)) (.cons (.k (.i .i64)) (.cons (.k (.list (.pair (.i .i64) (.i .i64)))) (.one (.k (.i .i64))))))
def Hd (d:Int×Int×(List (Int×Int))×Int):Prop:=d.2.2.1.length≤1000
def N4 (d:Int×Int×(List (Int×Int))×Int):SV:=.tup [.agg [.val (.i .i64) ((Qc d.1 d.2.1 d.2.2.1 d.2.2.2).1),.val (.i .i64) ((Qc d.1 d.2.1 d.2.2.1 d.2.2.2).2)],.val (.i .i64) (Qk d.1 d.2.1 d.2.2.1 d.2.2.2)]
def UC (d:Int×Int×(List (Int×Int))×Int):List OB:=[]
def Um:CSp:=Y_ Mk Hd N4 UC
def Y0 (g:Int) (s:Int) (l:List (Int×Int)) (ei:Int):Prop :=
 ∀ w1:List Value,([g].length≤1000000)∧((!(!([g].any fun n=>decide (n<(1:Int))||decide ((1000000:Int)<n))))=true →
  ((!(!([g].any fun n=>decide (n<(1:Int))||decide ((1000000:Int)<n))))=true →
   w1=w1∧(((2:Int) != (0:Int))=true →
    ((((0:Int)=((Qc g s l ei).1)∧(0:Int)=((Qc g s l ei).2)∧(([]:List SV)=[]))∧(2:Int)=(Qk g s l ei)∧(([]:List SV)=[]))∧(True))) ∧
   (((2:Int) != (0:Int))=false →
    (Jc (0:Int) (0:Int) ([]:List (Int×Int)))∧((decide ((Xb (0:Int) (0:Int) ([]:List (Int×Int)))≥(0:Int)))=true →
     ((((0:Int)=((Qc g s l ei).1)∧(0:Int)=((Qc g s l ei).2)∧(([]:List SV)=[]))∧(90:Int)=(Qk g s l ei)∧(([]:List SV)=[]))∧(True))) ∧
    ((decide ((Xb (0:Int) (0:Int) ([]:List (Int×Int)))≥(0:Int)))=false →
     (I64 ((lI l)-(1:Int)))∧([ei].length≤1000000)∧((!(!([ei].any fun n=>decide (n<(0:Int))||decide (((lI l)-(1:Int))<n))))=true →
      ((((0:Int)=((Qc g s l ei).1)∧(0:Int)=((Qc g s l ei).2)∧(([]:List SV)=[]))∧(7:Int)=(Qk g s l ei)∧(([]:List SV)=[]))∧(True))) ∧
     ((!(!([ei].any fun n=>decide (n<(0:Int))||decide (((lI l)-(1:Int))<n))))=false →
      (True)∧(I64 (ei+(1:Int)))∧(0≤(ei+(1:Int)))∧((ei+(1:Int))≤(lI l))∧((lI l)≤(List.length l))∧∀ w2:List Value,w2=w2∧(List.length (List.take (Int.toNat ((lI l)-(ei+(1:Int)))) (List.drop (Int.toNat (ei+(1:Int))) l))<4611686018427387904)∧∃ (e3:Unit) (d30:Int×Int),((l=l∧ei=ei∧True∧True∧True∧True∧True)∧(((0:Int)=(0:Int)∧(0:Int)=(0:Int)∧(([]:List SV)=[]))∧((0:Int)=g∧(0:Int)=s∧l=[]∧(([]:List SV)=[]))∧((Q2 (0:Int) (0:Int) ([]:List (Int×Int)))=(Q2 g s l)∧false=false)∧((0:Int)=d30.1∧(1099511627776:Int)=d30.2∧(([]:List SV)=[]))∧True)) ∧
      Nf (List.length (List.take (Int.toNat ((lI l)-(ei+(1:Int)))) (List.drop (Int.toNat (ei+(1:Int))) l))) (fun (k3:Nat) (d3:Int×Int) (q3:(Int×Int)→Prop)=>∀ w3:List Value,
       (0≤s∧s≤1000∧0≤((List.getD (List.take (Int.toNat ((lI l)-(ei+(1:Int)))) (List.drop (Int.toNat (ei+(1:Int))) l)) (List.length (List.take (Int.toNat ((lI l)-(ei+(1:Int)))) (List.drop (Int.toNat (ei+(1:Int))) l))-1-k3) (0,0)).2)∧((List.getD (List.take (Int.toNat ((lI l)-(ei+(1:Int)))) (List.drop (Int.toNat (ei+(1:Int))) l)) (List.length (List.take (Int.toNat ((lI l)-(ei+(1:Int)))) (List.drop (Int.toNat (ei+(1:Int))) l))-1-k3) (0,0)).2)≤12000000∧-2000000000000≤d3.1∧d3.1≤2000000000000∧-2000000000000≤d3.2∧d3.2≤2000000000000)∧w3=w3∧(∃ d4:Int×Int,((l=l∧ei=ei∧True∧True∧True∧True∧True)∧(((0:Int)=(0:Int)∧(0:Int)=(0:Int)∧(([]:List SV)=[]))∧(g=g∧s=s∧l=l∧(([]:List SV)=[]))∧((Q2 g s l)=(Q2 g s l)∧false=false)∧(((Qr s (d3.1,d3.2) (((List.getD (List.take (Int.toNat ((lI l)-(ei+(1:Int)))) (List.drop (Int.toNat (ei+(1:Int))) l)) (List.length (List.take (Int.toNat ((lI l)-(ei+(1:Int)))) (List.drop (Int.toNat (ei+(1:Int))) l))-1-k3) (0,0)).1),((List.getD (List.take (Int.toNat ((lI l)-(ei+(1:Int)))) (List.drop (Int.toNat (ei+(1:Int))) l)) (List.length (List.take (Int.toNat ((lI l)-(ei+(1:Int)))) (List.drop (Int.toNat (ei+(1:Int))) l))-1-k3) (0,0)).2))).1)=d4.1∧((Qr s (d3.1,d3.2) (((List.getD (List.take (Int.toNat ((lI l)-(ei+(1:Int)))) (List.drop (Int.toNat (ei+(1:Int))) l)) (List.length (List.take (Int.toNat ((lI l)-(ei+(1:Int)))) (List.drop (Int.toNat (ei+(1:Int))) l))-1-k3) (0,0)).1),((List.getD (List.take (Int.toNat ((lI l)-(ei+(1:Int)))) (List.drop (Int.toNat (ei+(1:Int))) l)) (List.length (List.take (Int.toNat ((lI l)-(ei+(1:Int)))) (List.drop (Int.toNat (ei+(1:Int))) l))-1-k3) (0,0)).2))).2)=d4.2∧(([]:List SV)=[]))∧True))∧q3 d4))
      (fun (d5:Int×Int) =>
       (0≤ei)∧(ei<(List.length (Q2 g s l)))∧(0≤ei)∧(ei<(List.length l))∧((True∧True∧True∧True∧True∧((gD l ei (0,0)).1=(gD l ei (0,0)).1∧(gD l ei (0,0)).2=(gD l ei (0,0)).2∧(([]:List SV)=[]))∧True)∧(((0:Int)=(0:Int)∧(0:Int)=(0:Int)∧(([]:List SV)=[]))∧(g=g∧s=s∧l=l∧(([]:List SV)=[]))∧(d5.1=d5.1∧d5.2=d5.2∧(([]:List SV)=[]))∧((gD (Q2 g s l) ei (0,0)).1=(gD (Q2 g s l) ei (0,0)).1∧(gD (Q2 g s l) ei (0,0)).2=(gD (Q2 g s l) ei (0,0)).2∧(([]:List SV)=[]))∧((0:Int)=(0:Int)∧(0:Int)=(0:Int)∧(([]:List SV)=[]))∧((Q2 g s l)=(Q2 g s l)∧false=false)∧True))∧((0≤ei)∧(ei<(List.length (Q2 g s l)))∧(0≤ei)∧(ei<(List.length l))∧((True∧True∧True∧True∧True∧((gD l ei (0,0)).1=(gD l ei (0,0)).1∧(gD l ei (0,0)).2=(gD l ei (0,0)).2∧(([]:List SV)=[]))∧True)∧(((0:Int)=(0:Int)∧(0:Int)=(0:Int)∧(([]:List SV)=[]))∧(g=g∧s=s∧l=l∧(([]:List SV)=[]))∧(d5.1=d5.1∧d5.2=d5.2∧(([]:List SV)=[]))∧((gD (Q2 g s l) ei (0,0)).1=(gD (Q2 g s l) ei (0,0)).1∧(gD (Q2 g s l) ei (0,0)).2=(gD (Q2 g s l) ei (0,0)).2∧(([]:List SV)=[]))∧((0:Int)=(0:Int)∧(0:Int)=(0:Int)∧(([]:List SV)=[]))∧((Q2 g s l)=(Q2 g s l)∧false=false)∧True)))∧(((gD l ei (0,0)).1==(1:Int))=true →
        (I64 ((gD (Q2 g s l) ei (0,0)).1-d5.2))∧(I64 ((gD (Q2 g s l) ei (0,0)).2-d5.1))∧(0≤s∧s≤1000∧0≤((gD l ei (0,0)).2)∧((gD l ei (0,0)).2)≤12000000)∧(True)∧((((Xe ((gD (Q2 g s l) ei (0,0)).1-d5.2) ((Qe s (((gD l ei (0,0)).1),((gD l ei (0,0)).2))).1))=((Qc g s l ei).1)∧(Wa ((gD (Q2 g s l) ei (0,0)).2-d5.1) ((Qe s (((gD l ei (0,0)).1),((gD l ei (0,0)).2))).2))=((Qc g s l ei).2)∧(([]:List SV)=[]))∧(0:Int)=(Qk g s l ei)∧(([]:List SV)=[]))∧(True))) ∧
       (((gD l ei (0,0)).1==(1:Int))=false →
        (((gD l ei (0,0)).1==(2:Int))=true →
         (I64 (d5.1-(gD (Q2 g s l) ei (0,0)).2))∧(I64 (d5.2-(gD (Q2 g s l) ei (0,0)).1))∧(0≤s∧s≤1000∧0≤((gD l ei (0,0)).2)∧((gD l ei (0,0)).2)≤12000000)∧(True)∧((((Xe (d5.1-(gD (Q2 g s l) ei (0,0)).2) ((Qe s (((gD l ei (0,0)).1),((gD l ei (0,0)).2))).1))=((Qc g s l ei).1)∧(Wa (d5.2-(gD (Q2 g s l) ei (0,0)).1) ((Qe s (((gD l ei (0,0)).1),((gD l ei (0,0)).2))).2))=((Qc g s l ei).2)∧(([]:List SV)=[]))∧(0:Int)=(Qk g s l ei)∧(([]:List SV)=[]))∧(True))) ∧
        (((gD l ei (0,0)).1==(2:Int))=false →
         (True)∧(0≤s∧s≤1000∧0≤((gD l ei (0,0)).2)∧((gD l ei (0,0)).2)≤12000000)∧(True)∧((((Xe (Xe ((gD (Q2 g s l) ei (0,0)).1) d5.1) ((Qe s (((gD l ei (0,0)).1),((gD l ei (0,0)).2))).1))=((Qc g s l ei).1)∧(Wa (Wa ((gD (Q2 g s l) ei (0,0)).2) d5.2) ((Qe s (((gD l ei (0,0)).1),((gD l ei (0,0)).2))).2))=((Qc g s l ei).2)∧(([]:List SV)=[]))∧(0:Int)=(Qk g s l ei)∧(([]:List SV)=[]))∧(True))))) d30)))) ∧
  ((!(!([g].any fun n=>decide (n<(1:Int))||decide ((1000000:Int)<n))))=false →
   ((decide ((lI l) > (40:Int)))=true →
    w1=w1∧(((5:Int) != (0:Int))=true →
     ((((0:Int)=((Qc g s l ei).1)∧(0:Int)=((Qc g s l ei).2)∧(([]:List SV)=[]))∧(5:Int)=(Qk g s l ei)∧(([]:List SV)=[]))∧(True))) ∧
    (((5:Int) != (0:Int))=false →
     (Jc (0:Int) (0:Int) ([]:List (Int×Int)))∧((decide ((Xb (0:Int) (0:Int) ([]:List (Int×Int)))≥(0:Int)))=true →
      ((((0:Int)=((Qc g s l ei).1)∧(0:Int)=((Qc g s l ei).2)∧(([]:List SV)=[]))∧(90:Int)=(Qk g s l ei)∧(([]:List SV)=[]))∧(True))) ∧
     ((decide ((Xb (0:Int) (0:Int) ([]:List (Int×Int)))≥(0:Int)))=false →
      (I64 ((lI l)-(1:Int)))∧([ei].length≤1000000)∧((!(!([ei].any fun n=>decide (n<(0:Int))||decide (((lI l)-(1:Int))<n))))=true →
       ((((0:Int)=((Qc g s l ei).1)∧(0:Int)=((Qc g s l ei).2)∧(([]:List SV)=[]))∧(7:Int)=(Qk g s l ei)∧(([]:List SV)=[]))∧(True))) ∧
      ((!(!([ei].any fun n=>decide (n<(0:Int))||decide (((lI l)-(1:Int))<n))))=false →
       (True)∧(I64 (ei+(1:Int)))∧(0≤(ei+(1:Int)))∧((ei+(1:Int))≤(lI l))∧((lI l)≤(List.length l))∧∀ w6:List Value,w6=w6∧(List.length (List.take (Int.toNat ((lI l)-(ei+(1:Int)))) (List.drop (Int.toNat (ei+(1:Int))) l))<4611686018427387904)∧∃ (e7:Unit) (d70:Int×Int),((l=l∧ei=ei∧True∧True∧True∧True∧True)∧(((0:Int)=(0:Int)∧(0:Int)=(0:Int)∧(([]:List SV)=[]))∧((0:Int)=g∧(0:Int)=s∧l=[]∧(([]:List SV)=[]))∧((Q2 (0:Int) (0:Int) ([]:List (Int×Int)))=(Q2 g s l)∧false=false)∧((0:Int)=d70.1∧(1099511627776:Int)=d70.2∧(([]:List SV)=[]))∧True)) ∧
       Nf (List.length (List.take (Int.toNat ((lI l)-(ei+(1:Int)))) (List.drop (Int.toNat (ei+(1:Int))) l))) (fun (k7:Nat) (d7:Int×Int) (q7:(Int×Int)→Prop)=>∀ w7:List Value,
        (0≤s∧s≤1000∧0≤((List.getD (List.take (Int.toNat ((lI l)-(ei+(1:Int)))) (List.drop (Int.toNat (ei+(1:Int))) l)) (List.length (List.take (Int.toNat ((lI l)-(ei+(1:Int)))) (List.drop (Int.toNat (ei+(1:Int))) l))-1-k7) (0,0)).2)∧((List.getD (List.take (Int.toNat ((lI l)-(ei+(1:Int)))) (List.drop (Int.toNat (ei+(1:Int))) l)) (List.length (List.take (Int.toNat ((lI l)-(ei+(1:Int)))) (List.drop (Int.toNat (ei+(1:Int))) l))-1-k7) (0,0)).2)≤12000000∧-2000000000000≤d7.1∧d7.1≤2000000000000∧-2000000000000≤d7.2∧d7.2≤2000000000000)∧w7=w7∧(∃ d8:Int×Int,((l=l∧ei=ei∧True∧True∧True∧True∧True)∧(((0:Int)=(0:Int)∧(0:Int)=(0:Int)∧(([]:List SV)=[]))∧(g=g∧s=s∧l=l∧(([]:List SV)=[]))∧((Q2 g s l)=(Q2 g s l)∧false=false)∧(((Qr s (d7.1,d7.2) (((List.getD (List.take (Int.toNat ((lI l)-(ei+(1:Int)))) (List.drop (Int.toNat (ei+(1:Int))) l)) (List.length (List.take (Int.toNat ((lI l)-(ei+(1:Int)))) (List.drop (Int.toNat (ei+(1:Int))) l))-1-k7) (0,0)).1),((List.getD (List.take (Int.toNat ((lI l)-(ei+(1:Int)))) (List.drop (Int.toNat (ei+(1:Int))) l)) (List.length (List.take (Int.toNat ((lI l)-(ei+(1:Int)))) (List.drop (Int.toNat (ei+(1:Int))) l))-1-k7) (0,0)).2))).1)=d8.1∧((Qr s (d7.1,d7.2) (((List.getD (List.take (Int.toNat ((lI l)-(ei+(1:Int)))) (List.drop (Int.toNat (ei+(1:Int))) l)) (List.length (List.take (Int.toNat ((lI l)-(ei+(1:Int)))) (List.drop (Int.toNat (ei+(1:Int))) l))-1-k7) (0,0)).1),((List.getD (List.take (Int.toNat ((lI l)-(ei+(1:Int)))) (List.drop (Int.toNat (ei+(1:Int))) l)) (List.length (List.take (Int.toNat ((lI l)-(ei+(1:Int)))) (List.drop (Int.toNat (ei+(1:Int))) l))-1-k7) (0,0)).2))).2)=d8.2∧(([]:List SV)=[]))∧True))∧q7 d8))
       (fun (d9:Int×Int) =>
        (0≤ei)∧(ei<(List.length (Q2 g s l)))∧(0≤ei)∧(ei<(List.length l))∧((True∧True∧True∧True∧True∧((gD l ei (0,0)).1=(gD l ei (0,0)).1∧(gD l ei (0,0)).2=(gD l ei (0,0)).2∧(([]:List SV)=[]))∧True)∧(((0:Int)=(0:Int)∧(0:Int)=(0:Int)∧(([]:List SV)=[]))∧(g=g∧s=s∧l=l∧(([]:List SV)=[]))∧(d9.1=d9.1∧d9.2=d9.2∧(([]:List SV)=[]))∧((gD (Q2 g s l) ei (0,0)).1=(gD (Q2 g s l) ei (0,0)).1∧(gD (Q2 g s l) ei (0,0)).2=(gD (Q2 g s l) ei (0,0)).2∧(([]:List SV)=[]))∧((0:Int)=(0:Int)∧(0:Int)=(0:Int)∧(([]:List SV)=[]))∧((Q2 g s l)=(Q2 g s l)∧false=false)∧True))∧((0≤ei)∧(ei<(List.length (Q2 g s l)))∧(0≤ei)∧(ei<(List.length l))∧((True∧True∧True∧True∧True∧((gD l ei (0,0)).1=(gD l ei (0,0)).1∧(gD l ei (0,0)).2=(gD l ei (0,0)).2∧(([]:List SV)=[]))∧True)∧(((0:Int)=(0:Int)∧(0:Int)=(0:Int)∧(([]:List SV)=[]))∧(g=g∧s=s∧l=l∧(([]:List SV)=[]))∧(d9.1=d9.1∧d9.2=d9.2∧(([]:List SV)=[]))∧((gD (Q2 g s l) ei (0,0)).1=(gD (Q2 g s l) ei (0,0)).1∧(gD (Q2 g s l) ei (0,0)).2=(gD (Q2 g s l) ei (0,0)).2∧(([]:List SV)=[]))∧((0:Int)=(0:Int)∧(0:Int)=(0:Int)∧(([]:List SV)=[]))∧((Q2 g s l)=(Q2 g s l)∧false=false)∧True)))∧(((gD l ei (0,0)).1==(1:Int))=true →
         (I64 ((gD (Q2 g s l) ei (0,0)).1-d9.2))∧(I64 ((gD (Q2 g s l) ei (0,0)).2-d9.1))∧(0≤s∧s≤1000∧0≤((gD l ei (0,0)).2)∧((gD l ei (0,0)).2)≤12000000)∧(True)∧((((Xe ((gD (Q2 g s l) ei (0,0)).1-d9.2) ((Qe s (((gD l ei (0,0)).1),((gD l ei (0,0)).2))).1))=((Qc g s l ei).1)∧(Wa ((gD (Q2 g s l) ei (0,0)).2-d9.1) ((Qe s (((gD l ei (0,0)).1),((gD l ei (0,0)).2))).2))=((Qc g s l ei).2)∧(([]:List SV)=[]))∧(0:Int)=(Qk g s l ei)∧(([]:List SV)=[]))∧(True))) ∧
        (((gD l ei (0,0)).1==(1:Int))=false →
         (((gD l ei (0,0)).1==(2:Int))=true →
          (I64 (d9.1-(gD (Q2 g s l) ei (0,0)).2))∧(I64 (d9.2-(gD (Q2 g s l) ei (0,0)).1))∧(0≤s∧s≤1000∧0≤((gD l ei (0,0)).2)∧((gD l ei (0,0)).2)≤12000000)∧(True)∧((((Xe (d9.1-(gD (Q2 g s l) ei (0,0)).2) ((Qe s (((gD l ei (0,0)).1),((gD l ei (0,0)).2))).1))=((Qc g s l ei).1)∧(Wa (d9.2-(gD (Q2 g s l) ei (0,0)).1) ((Qe s (((gD l ei (0,0)).1),((gD l ei (0,0)).2))).2))=((Qc g s l ei).2)∧(([]:List SV)=[]))∧(0:Int)=(Qk g s l ei)∧(([]:List SV)=[]))∧(True))) ∧
         (((gD l ei (0,0)).1==(2:Int))=false →
          (True)∧(0≤s∧s≤1000∧0≤((gD l ei (0,0)).2)∧((gD l ei (0,0)).2)≤12000000)∧(True)∧((((Xe (Xe ((gD (Q2 g s l) ei (0,0)).1) d9.1) ((Qe s (((gD l ei (0,0)).1),((gD l ei (0,0)).2))).1))=((Qc g s l ei).1)∧(Wa (Wa ((gD (Q2 g s l) ei (0,0)).2) d9.2) ((Qe s (((gD l ei (0,0)).1),((gD l ei (0,0)).2))).2))=((Qc g s l ei).2)∧(([]:List SV)=[]))∧(0:Int)=(Qk g s l ei)∧(([]:List SV)=[]))∧(True))))) d70)))) ∧
   ((decide ((lI l) > (40:Int)))=false →
    (l.length≤1000000∧∀ x∈l,(fun (x1:Int×Int)=>True) x)∧((l.any (fun (x1:Int×Int)=>(!inI x1.1 1 3||!inI x1.2 0 12000000)))=true →
     w1=w1∧(((2:Int) != (0:Int))=true →
      ((((0:Int)=((Qc g s l ei).1)∧(0:Int)=((Qc g s l ei).2)∧(([]:List SV)=[]))∧(2:Int)=(Qk g s l ei)∧(([]:List SV)=[]))∧(True))) ∧
     (((2:Int) != (0:Int))=false →
      (Jc (0:Int) (0:Int) ([]:List (Int×Int)))∧((decide ((Xb (0:Int) (0:Int) ([]:List (Int×Int)))≥(0:Int)))=true →
       ((((0:Int)=((Qc g s l ei).1)∧(0:Int)=((Qc g s l ei).2)∧(([]:List SV)=[]))∧(90:Int)=(Qk g s l ei)∧(([]:List SV)=[]))∧(True))) ∧
      ((decide ((Xb (0:Int) (0:Int) ([]:List (Int×Int)))≥(0:Int)))=false →
       (I64 ((lI l)-(1:Int)))∧([ei].length≤1000000)∧((!(!([ei].any fun n=>decide (n<(0:Int))||decide (((lI l)-(1:Int))<n))))=true →
        ((((0:Int)=((Qc g s l ei).1)∧(0:Int)=((Qc g s l ei).2)∧(([]:List SV)=[]))∧(7:Int)=(Qk g s l ei)∧(([]:List SV)=[]))∧(True))) ∧
       ((!(!([ei].any fun n=>decide (n<(0:Int))||decide (((lI l)-(1:Int))<n))))=false →
        (True)∧(I64 (ei+(1:Int)))∧(0≤(ei+(1:Int)))∧((ei+(1:Int))≤(lI l))∧((lI l)≤(List.length l))∧∀ ry:List Value,ry=ry∧(List.length (List.take (Int.toNat ((lI l)-(ei+(1:Int)))) (List.drop (Int.toNat (ei+(1:Int))) l))<4611686018427387904)∧∃ (vh:Unit) (d110:Int×Int),((l=l∧ei=ei∧True∧True∧True∧True∧True)∧(((0:Int)=(0:Int)∧(0:Int)=(0:Int)∧(([]:List SV)=[]))∧((0:Int)=g∧(0:Int)=s∧l=[]∧(([]:List SV)=[]))∧((Q2 (0:Int) (0:Int) ([]:List (Int×Int)))=(Q2 g s l)∧false=false)∧((0:Int)=d110.1∧(1099511627776:Int)=d110.2∧(([]:List SV)=[]))∧True)) ∧
        Nf (List.length (List.take (Int.toNat ((lI l)-(ei+(1:Int)))) (List.drop (Int.toNat (ei+(1:Int))) l))) (fun (lJ:Nat) (d11:Int×Int) (ur:(Int×Int)→Prop)=>∀ rz:List Value,
         (0≤s∧s≤1000∧0≤((List.getD (List.take (Int.toNat ((lI l)-(ei+(1:Int)))) (List.drop (Int.toNat (ei+(1:Int))) l)) (List.length (List.take (Int.toNat ((lI l)-(ei+(1:Int)))) (List.drop (Int.toNat (ei+(1:Int))) l))-1-lJ) (0,0)).2)∧((List.getD (List.take (Int.toNat ((lI l)-(ei+(1:Int)))) (List.drop (Int.toNat (ei+(1:Int))) l)) (List.length (List.take (Int.toNat ((lI l)-(ei+(1:Int)))) (List.drop (Int.toNat (ei+(1:Int))) l))-1-lJ) (0,0)).2)≤12000000∧-2000000000000≤d11.1∧d11.1≤2000000000000∧-2000000000000≤d11.2∧d11.2≤2000000000000)∧rz=rz∧(∃ d12:Int×Int,((l=l∧ei=ei∧True∧True∧True∧True∧True)∧(((0:Int)=(0:Int)∧(0:Int)=(0:Int)∧(([]:List SV)=[]))∧(g=g∧s=s∧l=l∧(([]:List SV)=[]))∧((Q2 g s l)=(Q2 g s l)∧false=false)∧(((Qr s (d11.1,d11.2) (((List.getD (List.take (Int.toNat ((lI l)-(ei+(1:Int)))) (List.drop (Int.toNat (ei+(1:Int))) l)) (List.length (List.take (Int.toNat ((lI l)-(ei+(1:Int)))) (List.drop (Int.toNat (ei+(1:Int))) l))-1-lJ) (0,0)).1),((List.getD (List.take (Int.toNat ((lI l)-(ei+(1:Int)))) (List.drop (Int.toNat (ei+(1:Int))) l)) (List.length (List.take (Int.toNat ((lI l)-(ei+(1:Int)))) (List.drop (Int.toNat (ei+(1:Int))) l))-1-lJ) (0,0)).2))).1)=d12.1∧((Qr s (d11.1,d11.2) (((List.getD (List.take (Int.toNat ((lI l)-(ei+(1:Int)))) (List.drop (Int.toNat (ei+(1:Int))) l)) (List.length (List.take (Int.toNat ((lI l)-(ei+(1:Int)))) (List.drop (Int.toNat (ei+(1:Int))) l))-1-lJ) (0,0)).1),((List.getD (List.take (Int.toNat ((lI l)-(ei+(1:Int)))) (List.drop (Int.toNat (ei+(1:Int))) l)) (List.length (List.take (Int.toNat ((lI l)-(ei+(1:Int)))) (List.drop (Int.toNat (ei+(1:Int))) l))-1-lJ) (0,0)).2))).2)=d12.2∧(([]:List SV)=[]))∧True))∧ur d12))
        (fun (d13:Int×Int) =>
         (0≤ei)∧(ei<(List.length (Q2 g s l)))∧(0≤ei)∧(ei<(List.length l))∧((True∧True∧True∧True∧True∧((gD l ei (0,0)).1=(gD l ei (0,0)).1∧(gD l ei (0,0)).2=(gD l ei (0,0)).2∧(([]:List SV)=[]))∧True)∧(((0:Int)=(0:Int)∧(0:Int)=(0:Int)∧(([]:List SV)=[]))∧(g=g∧s=s∧l=l∧(([]:List SV)=[]))∧(d13.1=d13.1∧d13.2=d13.2∧(([]:List SV)=[]))∧((gD (Q2 g s l) ei (0,0)).1=(gD (Q2 g s l) ei (0,0)).1∧(gD (Q2 g s l) ei (0,0)).2=(gD (Q2 g s l) ei (0,0)).2∧(([]:List SV)=[]))∧((0:Int)=(0:Int)∧(0:Int)=(0:Int)∧(([]:List SV)=[]))∧((Q2 g s l)=(Q2 g s l)∧false=false)∧True))∧((0≤ei)∧(ei<(List.length (Q2 g s l)))∧(0≤ei)∧(ei<(List.length l))∧((True∧True∧True∧True∧True∧((gD l ei (0,0)).1=(gD l ei (0,0)).1∧(gD l ei (0,0)).2=(gD l ei (0,0)).2∧(([]:List SV)=[]))∧True)∧(((0:Int)=(0:Int)∧(0:Int)=(0:Int)∧(([]:List SV)=[]))∧(g=g∧s=s∧l=l∧(([]:List SV)=[]))∧(d13.1=d13.1∧d13.2=d13.2∧(([]:List SV)=[]))∧((gD (Q2 g s l) ei (0,0)).1=(gD (Q2 g s l) ei (0,0)).1∧(gD (Q2 g s l) ei (0,0)).2=(gD (Q2 g s l) ei (0,0)).2∧(([]:List SV)=[]))∧((0:Int)=(0:Int)∧(0:Int)=(0:Int)∧(([]:List SV)=[]))∧((Q2 g s l)=(Q2 g s l)∧false=false)∧True)))∧(((gD l ei (0,0)).1==(1:Int))=true →
          (I64 ((gD (Q2 g s l) ei (0,0)).1-d13.2))∧(I64 ((gD (Q2 g s l) ei (0,0)).2-d13.1))∧(0≤s∧s≤1000∧0≤((gD l ei (0,0)).2)∧((gD l ei (0,0)).2)≤12000000)∧(True)∧((((Xe ((gD (Q2 g s l) ei (0,0)).1-d13.2) ((Qe s (((gD l ei (0,0)).1),((gD l ei (0,0)).2))).1))=((Qc g s l ei).1)∧(Wa ((gD (Q2 g s l) ei (0,0)).2-d13.1) ((Qe s (((gD l ei (0,0)).1),((gD l ei (0,0)).2))).2))=((Qc g s l ei).2)∧(([]:List SV)=[]))∧(0:Int)=(Qk g s l ei)∧(([]:List SV)=[]))∧(True))) ∧
         (((gD l ei (0,0)).1==(1:Int))=false →
          (((gD l ei (0,0)).1==(2:Int))=true →
           (I64 (d13.1-(gD (Q2 g s l) ei (0,0)).2))∧(I64 (d13.2-(gD (Q2 g s l) ei (0,0)).1))∧(0≤s∧s≤1000∧0≤((gD l ei (0,0)).2)∧((gD l ei (0,0)).2)≤12000000)∧(True)∧((((Xe (d13.1-(gD (Q2 g s l) ei (0,0)).2) ((Qe s (((gD l ei (0,0)).1),((gD l ei (0,0)).2))).1))=((Qc g s l ei).1)∧(Wa (d13.2-(gD (Q2 g s l) ei (0,0)).1) ((Qe s (((gD l ei (0,0)).1),((gD l ei (0,0)).2))).2))=((Qc g s l ei).2)∧(([]:List SV)=[]))∧(0:Int)=(Qk g s l ei)∧(([]:List SV)=[]))∧(True))) ∧
          (((gD l ei (0,0)).1==(2:Int))=false →
           (True)∧(0≤s∧s≤1000∧0≤((gD l ei (0,0)).2)∧((gD l ei (0,0)).2)≤12000000)∧(True)∧((((Xe (Xe ((gD (Q2 g s l) ei (0,0)).1) d13.1) ((Qe s (((gD l ei (0,0)).1),((gD l ei (0,0)).2))).1))=((Qc g s l ei).1)∧(Wa (Wa ((gD (Q2 g s l) ei (0,0)).2) d13.2) ((Qe s (((gD l ei (0,0)).1),((gD l ei (0,0)).2))).2))=((Qc g s l ei).2)∧(([]:List SV)=[]))∧(0:Int)=(Qk g s l ei)∧(([]:List SV)=[]))∧(True))))) d110)))) ∧
    ((l.any (fun (x1:Int×Int)=>(!inI x1.1 1 3||!inI x1.2 0 12000000)))=false →
     w1=w1∧(((0:Int) != (0:Int))=true →
      ((((0:Int)=((Qc g s l ei).1)∧(0:Int)=((Qc g s l ei).2)∧(([]:List SV)=[]))∧(0:Int)=(Qk g s l ei)∧(([]:List SV)=[]))∧(True))) ∧
     (((0:Int) != (0:Int))=false →
      (Jc g s l)∧((decide ((Xb g s l)≥(0:Int)))=true →
       ((((0:Int)=((Qc g s l ei).1)∧(0:Int)=((Qc g s l ei).2)∧(([]:List SV)=[]))∧(90:Int)=(Qk g s l ei)∧(([]:List SV)=[]))∧(True))) ∧
      ((decide ((Xb g s l)≥(0:Int)))=false →
       (I64 ((lI l)-(1:Int)))∧([ei].length≤1000000)∧((!(!([ei].any fun n=>decide (n<(0:Int))||decide (((lI l)-(1:Int))<n))))=true →
        ((((0:Int)=((Qc g s l ei).1)∧(0:Int)=((Qc g s l ei).2)∧(([]:List SV)=[]))∧(7:Int)=(Qk g s l ei)∧(([]:List SV)=[]))∧(True))) ∧
       ((!(!([ei].any fun n=>decide (n<(0:Int))||decide (((lI l)-(1:Int))<n))))=false →
        (True)∧(I64 (ei+(1:Int)))∧(0≤(ei+(1:Int)))∧((ei+(1:Int))≤(lI l))∧((lI l)≤(List.length l))∧∀ rA:List Value,rA=rA∧(List.length (List.take (Int.toNat ((lI l)-(ei+(1:Int)))) (List.drop (Int.toNat (ei+(1:Int))) l))<4611686018427387904)∧∃ (vi:Unit) (d170:Int×Int),((l=l∧ei=ei∧True∧True∧True∧True∧True)∧(((0:Int)=(0:Int)∧(0:Int)=(0:Int)∧(([]:List SV)=[]))∧(g=g∧s=s∧l=l∧(([]:List SV)=[]))∧((Q2 g s l)=(Q2 g s l)∧false=false)∧((0:Int)=d170.1∧(1099511627776:Int)=d170.2∧(([]:List SV)=[]))∧True)) ∧
        Nf (List.length (List.take (Int.toNat ((lI l)-(ei+(1:Int)))) (List.drop (Int.toNat (ei+(1:Int))) l))) (fun (lK:Nat) (d17:Int×Int) (uu:(Int×Int)→Prop)=>∀ rB:List Value,
         (0≤s∧s≤1000∧0≤((List.getD (List.take (Int.toNat ((lI l)-(ei+(1:Int)))) (List.drop (Int.toNat (ei+(1:Int))) l)) (List.length (List.take (Int.toNat ((lI l)-(ei+(1:Int)))) (List.drop (Int.toNat (ei+(1:Int))) l))-1-lK) (0,0)).2)∧((List.getD (List.take (Int.toNat ((lI l)-(ei+(1:Int)))) (List.drop (Int.toNat (ei+(1:Int))) l)) (List.length (List.take (Int.toNat ((lI l)-(ei+(1:Int)))) (List.drop (Int.toNat (ei+(1:Int))) l))-1-lK) (0,0)).2)≤12000000∧-2000000000000≤d17.1∧d17.1≤2000000000000∧-2000000000000≤d17.2∧d17.2≤2000000000000)∧rB=rB∧(∃ d18:Int×Int,((l=l∧ei=ei∧True∧True∧True∧True∧True)∧(((0:Int)=(0:Int)∧(0:Int)=(0:Int)∧(([]:List SV)=[]))∧(g=g∧s=s∧l=l∧(([]:List SV)=[]))∧((Q2 g s l)=(Q2 g s l)∧false=false)∧(((Qr s (d17.1,d17.2) (((List.getD (List.take (Int.toNat ((lI l)-(ei+(1:Int)))) (List.drop (Int.toNat (ei+(1:Int))) l)) (List.length (List.take (Int.toNat ((lI l)-(ei+(1:Int)))) (List.drop (Int.toNat (ei+(1:Int))) l))-1-lK) (0,0)).1),((List.getD (List.take (Int.toNat ((lI l)-(ei+(1:Int)))) (List.drop (Int.toNat (ei+(1:Int))) l)) (List.length (List.take (Int.toNat ((lI l)-(ei+(1:Int)))) (List.drop (Int.toNat (ei+(1:Int))) l))-1-lK) (0,0)).2))).1)=d18.1∧((Qr s (d17.1,d17.2) (((List.getD (List.take (Int.toNat ((lI l)-(ei+(1:Int)))) (List.drop (Int.toNat (ei+(1:Int))) l)) (List.length (List.take (Int.toNat ((lI l)-(ei+(1:Int)))) (List.drop (Int.toNat (ei+(1:Int))) l))-1-lK) (0,0)).1),((List.getD (List.take (Int.toNat ((lI l)-(ei+(1:Int)))) (List.drop (Int.toNat (ei+(1:Int))) l)) (List.length (List.take (Int.toNat ((lI l)-(ei+(1:Int)))) (List.drop (Int.toNat (ei+(1:Int))) l))-1-lK) (0,0)).2))).2)=d18.2∧(([]:List SV)=[]))∧True))∧uu d18))
        (fun (d19:Int×Int) =>
         (0≤ei)∧(ei<(List.length (Q2 g s l)))∧(0≤ei)∧(ei<(List.length l))∧((True∧True∧True∧True∧True∧((gD l ei (0,0)).1=(gD l ei (0,0)).1∧(gD l ei (0,0)).2=(gD l ei (0,0)).2∧(([]:List SV)=[]))∧True)∧(((0:Int)=(0:Int)∧(0:Int)=(0:Int)∧(([]:List SV)=[]))∧(g=g∧s=s∧l=l∧(([]:List SV)=[]))∧(d19.1=d19.1∧d19.2=d19.2∧(([]:List SV)=[]))∧((gD (Q2 g s l) ei (0,0)).1=(gD (Q2 g s l) ei (0,0)).1∧(gD (Q2 g s l) ei (0,0)).2=(gD (Q2 g s l) ei (0,0)).2∧(([]:List SV)=[]))∧((0:Int)=(0:Int)∧(0:Int)=(0:Int)∧(([]:List SV)=[]))∧((Q2 g s l)=(Q2 g s l)∧false=false)∧True))∧((0≤ei)∧(ei<(List.length (Q2 g s l)))∧(0≤ei)∧(ei<(List.length l))∧((True∧True∧True∧True∧True∧((gD l ei (0,0)).1=(gD l ei (0,0)).1∧(gD l ei (0,0)).2=(gD l ei (0,0)).2∧(([]:List SV)=[]))∧True)∧(((0:Int)=(0:Int)∧(0:Int)=(0:Int)∧(([]:List SV)=[]))∧(g=g∧s=s∧l=l∧(([]:List SV)=[]))∧(d19.1=d19.1∧d19.2=d19.2∧(([]:List SV)=[]))∧((gD (Q2 g s l) ei (0,0)).1=(gD (Q2 g s l) ei (0,0)).1∧(gD (Q2 g s l) ei (0,0)).2=(gD (Q2 g s l) ei (0,0)).2∧(([]:List SV)=[]))∧((0:Int)=(0:Int)∧(0:Int)=(0:Int)∧(([]:List SV)=[]))∧((Q2 g s l)=(Q2 g s l)∧false=false)∧True)))∧(((gD l ei (0,0)).1==(1:Int))=true →
          (I64 ((gD (Q2 g s l) ei (0,0)).1-d19.2))∧(I64 ((gD (Q2 g s l) ei (0,0)).2-d19.1))∧(0≤s∧s≤1000∧0≤((gD l ei (0,0)).2)∧((gD l ei (0,0)).2)≤12000000)∧(True)∧((((Xe ((gD (Q2 g s l) ei (0,0)).1-d19.2) ((Qe s (((gD l ei (0,0)).1),((gD l ei (0,0)).2))).1))=((Qc g s l ei).1)∧(Wa ((gD (Q2 g s l) ei (0,0)).2-d19.1) ((Qe s (((gD l ei (0,0)).1),((gD l ei (0,0)).2))).2))=((Qc g s l ei).2)∧(([]:List SV)=[]))∧(0:Int)=(Qk g s l ei)∧(([]:List SV)=[]))∧(True))) ∧
         (((gD l ei (0,0)).1==(1:Int))=false →
          (((gD l ei (0,0)).1==(2:Int))=true →
           (I64 (d19.1-(gD (Q2 g s l) ei (0,0)).2))∧(I64 (d19.2-(gD (Q2 g s l) ei (0,0)).1))∧(0≤s∧s≤1000∧0≤((gD l ei (0,0)).2)∧((gD l ei (0,0)).2)≤12000000)∧(True)∧((((Xe (d19.1-(gD (Q2 g s l) ei (0,0)).2) ((Qe s (((gD l ei (0,0)).1),((gD l ei (0,0)).2))).1))=((Qc g s l ei).1)∧(Wa (d19.2-(gD (Q2 g s l) ei (0,0)).1) ((Qe s (((gD l ei (0,0)).1),((gD l ei (0,0)).2))).2))=((Qc g s l ei).2)∧(([]:List SV)=[]))∧(0:Int)=(Qk g s l ei)∧(([]:List SV)=[]))∧(True))) ∧
          (((gD l ei (0,0)).1==(2:Int))=false →
           (True)∧(0≤s∧s≤1000∧0≤((gD l ei (0,0)).2)∧((gD l ei (0,0)).2)≤12000000)∧(True)∧((((Xe (Xe ((gD (Q2 g s l) ei (0,0)).1) d19.1) ((Qe s (((gD l ei (0,0)).1),((gD l ei (0,0)).2))).1))=((Qc g s l ei).1)∧(Wa (Wa ((gD (Q2 g s l) ei (0,0)).2) d19.2) ((Qe s (((gD l ei (0,0)).1),((gD l ei (0,0)).2))).2))=((Qc g s l ei).2)∧(([]:List SV)=[]))∧(0:Int)=(Qk g s l ei)∧(([]:List SV)=[]))∧(True))))) d170))))))) ∧
 ((!(!([g].any fun n=>decide (n<(1:Int))||decide ((1000000:Int)<n))))=false →
  ([s].length≤1000000)∧((!(!([s].any fun n=>decide (n<(0:Int))||decide ((1000:Int)<n))))=true →
   w1=w1∧(((2:Int) != (0:Int))=true →
    ((((0:Int)=((Qc g s l ei).1)∧(0:Int)=((Qc g s l ei).2)∧(([]:List SV)=[]))∧(2:Int)=(Qk g s l ei)∧(([]:List SV)=[]))∧(True))) ∧
   (((2:Int) != (0:Int))=false →
    (Jc (0:Int) (0:Int) ([]:List (Int×Int)))∧((decide ((Xb (0:Int) (0:Int) ([]:List (Int×Int)))≥(0:Int)))=true →
     ((((0:Int)=((Qc g s l ei).1)∧(0:Int)=((Qc g s l ei).2)∧(([]:List SV)=[]))∧(90:Int)=(Qk g s l ei)∧(([]:List SV)=[]))∧(True))) ∧
    ((decide ((Xb (0:Int) (0:Int) ([]:List (Int×Int)))≥(0:Int)))=false →
     (I64 ((lI l)-(1:Int)))∧([ei].length≤1000000)∧((!(!([ei].any fun n=>decide (n<(0:Int))||decide (((lI l)-(1:Int))<n))))=true →
      ((((0:Int)=((Qc g s l ei).1)∧(0:Int)=((Qc g s l ei).2)∧(([]:List SV)=[]))∧(7:Int)=(Qk g s l ei)∧(([]:List SV)=[]))∧(True))) ∧
     ((!(!([ei].any fun n=>decide (n<(0:Int))||decide (((lI l)-(1:Int))<n))))=false →
      (True)∧(I64 (ei+(1:Int)))∧(0≤(ei+(1:Int)))∧((ei+(1:Int))≤(lI l))∧((lI l)≤(List.length l))∧∀ rC:List Value,rC=rC∧(List.length (List.take (Int.toNat ((lI l)-(ei+(1:Int)))) (List.drop (Int.toNat (ei+(1:Int))) l))<4611686018427387904)∧∃ (vj:Unit) (kS:Int×Int),((l=l∧ei=ei∧True∧True∧True∧True∧True)∧(((0:Int)=(0:Int)∧(0:Int)=(0:Int)∧(([]:List SV)=[]))∧((0:Int)=g∧(0:Int)=s∧l=[]∧(([]:List SV)=[]))∧((Q2 (0:Int) (0:Int) ([]:List (Int×Int)))=(Q2 g s l)∧false=false)∧((0:Int)=kS.1∧(1099511627776:Int)=kS.2∧(([]:List SV)=[]))∧True)) ∧
      Nf (List.length (List.take (Int.toNat ((lI l)-(ei+(1:Int)))) (List.drop (Int.toNat (ei+(1:Int))) l))) (fun (lL:Nat) (d21:Int×Int) (uv:(Int×Int)→Prop)=>∀ rD:List Value,
       (0≤s∧s≤1000∧0≤((List.getD (List.take (Int.toNat ((lI l)-(ei+(1:Int)))) (List.drop (Int.toNat (ei+(1:Int))) l)) (List.length (List.take (Int.toNat ((lI l)-(ei+(1:Int)))) (List.drop (Int.toNat (ei+(1:Int))) l))-1-lL) (0,0)).2)∧((List.getD (List.take (Int.toNat ((lI l)-(ei+(1:Int)))) (List.drop (Int.toNat (ei+(1:Int))) l)) (List.length (List.take (Int.toNat ((lI l)-(ei+(1:Int)))) (List.drop (Int.toNat (ei+(1:Int))) l))-1-lL) (0,0)).2)≤12000000∧-2000000000000≤d21.1∧d21.1≤2000000000000∧-2000000000000≤d21.2∧d21.2≤2000000000000)∧rD=rD∧(∃ d22:Int×Int,((l=l∧ei=ei∧True∧True∧True∧True∧True)∧(((0:Int)=(0:Int)∧(0:Int)=(0:Int)∧(([]:List SV)=[]))∧(g=g∧s=s∧l=l∧(([]:List SV)=[]))∧((Q2 g s l)=(Q2 g s l)∧false=false)∧(((Qr s (d21.1,d21.2) (((List.getD (List.take (Int.toNat ((lI l)-(ei+(1:Int)))) (List.drop (Int.toNat (ei+(1:Int))) l)) (List.length (List.take (Int.toNat ((lI l)-(ei+(1:Int)))) (List.drop (Int.toNat (ei+(1:Int))) l))-1-lL) (0,0)).1),((List.getD (List.take (Int.toNat ((lI l)-(ei+(1:Int)))) (List.drop (Int.toNat (ei+(1:Int))) l)) (List.length (List.take (Int.toNat ((lI l)-(ei+(1:Int)))) (List.drop (Int.toNat (ei+(1:Int))) l))-1-lL) (0,0)).2))).1)=d22.1∧((Qr s (d21.1,d21.2) (((List.getD (List.take (Int.toNat ((lI l)-(ei+(1:Int)))) (List.drop (Int.toNat (ei+(1:Int))) l)) (List.length (List.take (Int.toNat ((lI l)-(ei+(1:Int)))) (List.drop (Int.toNat (ei+(1:Int))) l))-1-lL) (0,0)).1),((List.getD (List.take (Int.toNat ((lI l)-(ei+(1:Int)))) (List.drop (Int.toNat (ei+(1:Int))) l)) (List.length (List.take (Int.toNat ((lI l)-(ei+(1:Int)))) (List.drop (Int.toNat (ei+(1:Int))) l))-1-lL) (0,0)).2))).2)=d22.2∧(([]:List SV)=[]))∧True))∧uv d22))
      (fun (d23:Int×Int) =>
       (0≤ei)∧(ei<(List.length (Q2 g s l)))∧(0≤ei)∧(ei<(List.length l))∧((True∧True∧True∧True∧True∧((gD l ei (0,0)).1=(gD l ei (0,0)).1∧(gD l ei (0,0)).2=(gD l ei (0,0)).2∧(([]:List SV)=[]))∧True)∧(((0:Int)=(0:Int)∧(0:Int)=(0:Int)∧(([]:List SV)=[]))∧(g=g∧s=s∧l=l∧(([]:List SV)=[]))∧(d23.1=d23.1∧d23.2=d23.2∧(([]:List SV)=[]))∧((gD (Q2 g s l) ei (0,0)).1=(gD (Q2 g s l) ei (0,0)).1∧(gD (Q2 g s l) ei (0,0)).2=(gD (Q2 g s l) ei (0,0)).2∧(([]:List SV)=[]))∧((0:Int)=(0:Int)∧(0:Int)=(0:Int)∧(([]:List SV)=[]))∧((Q2 g s l)=(Q2 g s l)∧false=false)∧True))∧((0≤ei)∧(ei<(List.length (Q2 g s l)))∧(0≤ei)∧(ei<(List.length l))∧((True∧True∧True∧True∧True∧((gD l ei (0,0)).1=(gD l ei (0,0)).1∧(gD l ei (0,0)).2=(gD l ei (0,0)).2∧(([]:List SV)=[]))∧True)∧(((0:Int)=(0:Int)∧(0:Int)=(0:Int)∧(([]:List SV)=[]))∧(g=g∧s=s∧l=l∧(([]:List SV)=[]))∧(d23.1=d23.1∧d23.2=d23.2∧(([]:List SV)=[]))∧((gD (Q2 g s l) ei (0,0)).1=(gD (Q2 g s l) ei (0,0)).1∧(gD (Q2 g s l) ei (0,0)).2=(gD (Q2 g s l) ei (0,0)).2∧(([]:List SV)=[]))∧((0:Int)=(0:Int)∧(0:Int)=(0:Int)∧(([]:List SV)=[]))∧((Q2 g s l)=(Q2 g s l)∧false=false)∧True)))∧(((gD l ei (0,0)).1==(1:Int))=true →
        (I64 ((gD (Q2 g s l) ei (0,0)).1-d23.2))∧(I64 ((gD (Q2 g s l) ei (0,0)).2-d23.1))∧(0≤s∧s≤1000∧0≤((gD l ei (0,0)).2)∧((gD l ei (0,0)).2)≤12000000)∧(True)∧((((Xe ((gD (Q2 g s l) ei (0,0)).1-d23.2) ((Qe s (((gD l ei (0,0)).1),((gD l ei (0,0)).2))).1))=((Qc g s l ei).1)∧(Wa ((gD (Q2 g s l) ei (0,0)).2-d23.1) ((Qe s (((gD l ei (0,0)).1),((gD l ei (0,0)).2))).2))=((Qc g s l ei).2)∧(([]:List SV)=[]))∧(0:Int)=(Qk g s l ei)∧(([]:List SV)=[]))∧(True))) ∧
       (((gD l ei (0,0)).1==(1:Int))=false →
        (((gD l ei (0,0)).1==(2:Int))=true →
         (I64 (d23.1-(gD (Q2 g s l) ei (0,0)).2))∧(I64 (d23.2-(gD (Q2 g s l) ei (0,0)).1))∧(0≤s∧s≤1000∧0≤((gD l ei (0,0)).2)∧((gD l ei (0,0)).2)≤12000000)∧(True)∧((((Xe (d23.1-(gD (Q2 g s l) ei (0,0)).2) ((Qe s (((gD l ei (0,0)).1),((gD l ei (0,0)).2))).1))=((Qc g s l ei).1)∧(Wa (d23.2-(gD (Q2 g s l) ei (0,0)).1) ((Qe s (((gD l ei (0,0)).1),((gD l ei (0,0)).2))).2))=((Qc g s l ei).2)∧(([]:List SV)=[]))∧(0:Int)=(Qk g s l ei)∧(([]:List SV)=[]))∧(True))) ∧
        (((gD l ei (0,0)).1==(2:Int))=false →
         (True)∧(0≤s∧s≤1000∧0≤((gD l ei (0,0)).2)∧((gD l ei (0,0)).2)≤12000000)∧(True)∧((((Xe (Xe ((gD (Q2 g s l) ei (0,0)).1) d23.1) ((Qe s (((gD l ei (0,0)).1),((gD l ei (0,0)).2))).1))=((Qc g s l ei).1)∧(Wa (Wa ((gD (Q2 g s l) ei (0,0)).2) d23.2) ((Qe s (((gD l ei (0,0)).1),((gD l ei (0,0)).2))).2))=((Qc g s l ei).2)∧(([]:List SV)=[]))∧(0:Int)=(Qk g s l ei)∧(([]:List SV)=[]))∧(True))))) kS)))) ∧
  ((!(!([s].any fun n=>decide (n<(0:Int))||decide ((1000:Int)<n))))=false →
   ((decide ((lI l) > (40:Int)))=true →
    w1=w1∧(((5:Int) != (0:Int))=true →
     ((((0:Int)=((Qc g s l ei).1)∧(0:Int)=((Qc g s l ei).2)∧(([]:List SV)=[]))∧(5:Int)=(Qk g s l ei)∧(([]:List SV)=[]))∧(True))) ∧
    (((5:Int) != (0:Int))=false →
     (Jc (0:Int) (0:Int) ([]:List (Int×Int)))∧((decide ((Xb (0:Int) (0:Int) ([]:List (Int×Int)))≥(0:Int)))=true →
      ((((0:Int)=((Qc g s l ei).1)∧(0:Int)=((Qc g s l ei).2)∧(([]:List SV)=[]))∧(90:Int)=(Qk g s l ei)∧(([]:List SV)=[]))∧(True))) ∧
     ((decide ((Xb (0:Int) (0:Int) ([]:List (Int×Int)))≥(0:Int)))=false →
      (I64 ((lI l)-(1:Int)))∧([ei].length≤1000000)∧((!(!([ei].any fun n=>decide (n<(0:Int))||decide (((lI l)-(1:Int))<n))))=true →
       ((((0:Int)=((Qc g s l ei).1)∧(0:Int)=((Qc g s l ei).2)∧(([]:List SV)=[]))∧(7:Int)=(Qk g s l ei)∧(([]:List SV)=[]))∧(True))) ∧
      ((!(!([ei].any fun n=>decide (n<(0:Int))||decide (((lI l)-(1:Int))<n))))=false →
       (True)∧(I64 (ei+(1:Int)))∧(0≤(ei+(1:Int)))∧((ei+(1:Int))≤(lI l))∧((lI l)≤(List.length l))∧∀ rE:List Value,rE=rE∧(List.length (List.take (Int.toNat ((lI l)-(ei+(1:Int)))) (List.drop (Int.toNat (ei+(1:Int))) l))<4611686018427387904)∧∃ (vl:Unit) (kU:Int×Int),((l=l∧ei=ei∧True∧True∧True∧True∧True)∧(((0:Int)=(0:Int)∧(0:Int)=(0:Int)∧(([]:List SV)=[]))∧((0:Int)=g∧(0:Int)=s∧l=[]∧(([]:List SV)=[]))∧((Q2 (0:Int) (0:Int) ([]:List (Int×Int)))=(Q2 g s l)∧false=false)∧((0:Int)=kU.1∧(1099511627776:Int)=kU.2∧(([]:List SV)=[]))∧True)) ∧
       Nf (List.length (List.take (Int.toNat ((lI l)-(ei+(1:Int)))) (List.drop (Int.toNat (ei+(1:Int))) l))) (fun (lM:Nat) (d25:Int×Int) (uw:(Int×Int)→Prop)=>∀ rF:List Value,
        (0≤s∧s≤1000∧0≤((List.getD (List.take (Int.toNat ((lI l)-(ei+(1:Int)))) (List.drop (Int.toNat (ei+(1:Int))) l)) (List.length (List.take (Int.toNat ((lI l)-(ei+(1:Int)))) (List.drop (Int.toNat (ei+(1:Int))) l))-1-lM) (0,0)).2)∧((List.getD (List.take (Int.toNat ((lI l)-(ei+(1:Int)))) (List.drop (Int.toNat (ei+(1:Int))) l)) (List.length (List.take (Int.toNat ((lI l)-(ei+(1:Int)))) (List.drop (Int.toNat (ei+(1:Int))) l))-1-lM) (0,0)).2)≤12000000∧-2000000000000≤d25.1∧d25.1≤2000000000000∧-2000000000000≤d25.2∧d25.2≤2000000000000)∧rF=rF∧(∃ d26:Int×Int,((l=l∧ei=ei∧True∧True∧True∧True∧True)∧(((0:Int)=(0:Int)∧(0:Int)=(0:Int)∧(([]:List SV)=[]))∧(g=g∧s=s∧l=l∧(([]:List SV)=[]))∧((Q2 g s l)=(Q2 g s l)∧false=false)∧(((Qr s (d25.1,d25.2) (((List.getD (List.take (Int.toNat ((lI l)-(ei+(1:Int)))) (List.drop (Int.toNat (ei+(1:Int))) l)) (List.length (List.take (Int.toNat ((lI l)-(ei+(1:Int)))) (List.drop (Int.toNat (ei+(1:Int))) l))-1-lM) (0,0)).1),((List.getD (List.take (Int.toNat ((lI l)-(ei+(1:Int)))) (List.drop (Int.toNat (ei+(1:Int))) l)) (List.length (List.take (Int.toNat ((lI l)-(ei+(1:Int)))) (List.drop (Int.toNat (ei+(1:Int))) l))-1-lM) (0,0)).2))).1)=d26.1∧((Qr s (d25.1,d25.2) (((List.getD (List.take (Int.toNat ((lI l)-(ei+(1:Int)))) (List.drop (Int.toNat (ei+(1:Int))) l)) (List.length (List.take (Int.toNat ((lI l)-(ei+(1:Int)))) (List.drop (Int.toNat (ei+(1:Int))) l))-1-lM) (0,0)).1),((List.getD (List.take (Int.toNat ((lI l)-(ei+(1:Int)))) (List.drop (Int.toNat (ei+(1:Int))) l)) (List.length (List.take (Int.toNat ((lI l)-(ei+(1:Int)))) (List.drop (Int.toNat (ei+(1:Int))) l))-1-lM) (0,0)).2))).2)=d26.2∧(([]:List SV)=[]))∧True))∧uw d26))
       (fun (d27:Int×Int) =>
        (0≤ei)∧(ei<(List.length (Q2 g s l)))∧(0≤ei)∧(ei<(List.length l))∧((True∧True∧True∧True∧True∧((gD l ei (0,0)).1=(gD l ei (0,0)).1∧(gD l ei (0,0)).2=(gD l ei (0,0)).2∧(([]:List SV)=[]))∧True)∧(((0:Int)=(0:Int)∧(0:Int)=(0:Int)∧(([]:List SV)=[]))∧(g=g∧s=s∧l=l∧(([]:List SV)=[]))∧(d27.1=d27.1∧d27.2=d27.2∧(([]:List SV)=[]))∧((gD (Q2 g s l) ei (0,0)).1=(gD (Q2 g s l) ei (0,0)).1∧(gD (Q2 g s l) ei (0,0)).2=(gD (Q2 g s l) ei (0,0)).2∧(([]:List SV)=[]))∧((0:Int)=(0:Int)∧(0:Int)=(0:Int)∧(([]:List SV)=[]))∧((Q2 g s l)=(Q2 g s l)∧false=false)∧True))∧((0≤ei)∧(ei<(List.length (Q2 g s l)))∧(0≤ei)∧(ei<(List.length l))∧((True∧True∧True∧True∧True∧((gD l ei (0,0)).1=(gD l ei (0,0)).1∧(gD l ei (0,0)).2=(gD l ei (0,0)).2∧(([]:List SV)=[]))∧True)∧(((0:Int)=(0:Int)∧(0:Int)=(0:Int)∧(([]:List SV)=[]))∧(g=g∧s=s∧l=l∧(([]:List SV)=[]))∧(d27.1=d27.1∧d27.2=d27.2∧(([]:List SV)=[]))∧((gD (Q2 g s l) ei (0,0)).1=(gD (Q2 g s l) ei (0,0)).1∧(gD (Q2 g s l) ei (0,0)).2=(gD (Q2 g s l) ei (0,0)).2∧(([]:List SV)=[]))∧((0:Int)=(0:Int)∧(0:Int)=(0:Int)∧(([]:List SV)=[]))∧((Q2 g s l)=(Q2 g s l)∧false=false)∧True)))∧(((gD l ei (0,0)).1==(1:Int))=true →
         (I64 ((gD (Q2 g s l) ei (0,0)).1-d27.2))∧(I64 ((gD (Q2 g s l) ei (0,0)).2-d27.1))∧(0≤s∧s≤1000∧0≤((gD l ei (0,0)).2)∧((gD l ei (0,0)).2)≤12000000)∧(True)∧((((Xe ((gD (Q2 g s l) ei (0,0)).1-d27.2) ((Qe s (((gD l ei (0,0)).1),((gD l ei (0,0)).2))).1))=((Qc g s l ei).1)∧(Wa ((gD (Q2 g s l) ei (0,0)).2-d27.1) ((Qe s (((gD l ei (0,0)).1),((gD l ei (0,0)).2))).2))=((Qc g s l ei).2)∧(([]:List SV)=[]))∧(0:Int)=(Qk g s l ei)∧(([]:List SV)=[]))∧(True))) ∧
        (((gD l ei (0,0)).1==(1:Int))=false →
         (((gD l ei (0,0)).1==(2:Int))=true →
          (I64 (d27.1-(gD (Q2 g s l) ei (0,0)).2))∧(I64 (d27.2-(gD (Q2 g s l) ei (0,0)).1))∧(0≤s∧s≤1000∧0≤((gD l ei (0,0)).2)∧((gD l ei (0,0)).2)≤12000000)∧(True)∧((((Xe (d27.1-(gD (Q2 g s l) ei (0,0)).2) ((Qe s (((gD l ei (0,0)).1),((gD l ei (0,0)).2))).1))=((Qc g s l ei).1)∧(Wa (d27.2-(gD (Q2 g s l) ei (0,0)).1) ((Qe s (((gD l ei (0,0)).1),((gD l ei (0,0)).2))).2))=((Qc g s l ei).2)∧(([]:List SV)=[]))∧(0:Int)=(Qk g s l ei)∧(([]:List SV)=[]))∧(True))) ∧
         (((gD l ei (0,0)).1==(2:Int))=false →
          (True)∧(0≤s∧s≤1000∧0≤((gD l ei (0,0)).2)∧((gD l ei (0,0)).2)≤12000000)∧(True)∧((((Xe (Xe ((gD (Q2 g s l) ei (0,0)).1) d27.1) ((Qe s (((gD l ei (0,0)).1),((gD l ei (0,0)).2))).1))=((Qc g s l ei).1)∧(Wa (Wa ((gD (Q2 g s l) ei (0,0)).2) d27.2) ((Qe s (((gD l ei (0,0)).1),((gD l ei (0,0)).2))).2))=((Qc g s l ei).2)∧(([]:List SV)=[]))∧(0:Int)=(Qk g s l ei)∧(([]:List SV)=[]))∧(True))))) kU)))) ∧
   ((decide ((lI l) > (40:Int)))=false →
    (l.length≤1000000∧∀ x∈l,(fun (x2:Int×Int)=>True) x)∧((l.any (fun (x2:Int×Int)=>(!inI x2.1 1 3||!inI x2.2 0 12000000)))=true →
     w1=w1∧(((2:Int) != (0:Int))=true →
      ((((0:Int)=((Qc g s l ei).1)∧(0:Int)=((Qc g s l ei).2)∧(([]:List SV)=[]))∧(2:Int)=(Qk g s l ei)∧(([]:List SV)=[]))∧(True))) ∧
     (((2:Int) != (0:Int))=false →
      (Jc (0:Int) (0:Int) ([]:List (Int×Int)))∧((decide ((Xb (0:Int) (0:Int) ([]:List (Int×Int)))≥(0:Int)))=true →
       ((((0:Int)=((Qc g s l ei).1)∧(0:Int)=((Qc g s l ei).2)∧(([]:List SV)=[]))∧(90:Int)=(Qk g s l ei)∧(([]:List SV)=[]))∧(True))) ∧
      ((decide ((Xb (0:Int) (0:Int) ([]:List (Int×Int)))≥(0:Int)))=false →
       (I64 ((lI l)-(1:Int)))∧([ei].length≤1000000)∧((!(!([ei].any fun n=>decide (n<(0:Int))||decide (((lI l)-(1:Int))<n))))=true →
        ((((0:Int)=((Qc g s l ei).1)∧(0:Int)=((Qc g s l ei).2)∧(([]:List SV)=[]))∧(7:Int)=(Qk g s l ei)∧(([]:List SV)=[]))∧(True))) ∧
       ((!(!([ei].any fun n=>decide (n<(0:Int))||decide (((lI l)-(1:Int))<n))))=false →
        (True)∧(I64 (ei+(1:Int)))∧(0≤(ei+(1:Int)))∧((ei+(1:Int))≤(lI l))∧((lI l)≤(List.length l))∧∀ rG:List Value,rG=rG∧(List.length (List.take (Int.toNat ((lI l)-(ei+(1:Int)))) (List.drop (Int.toNat (ei+(1:Int))) l))<4611686018427387904)∧∃ (vn:Unit) (kV:Int×Int),((l=l∧ei=ei∧True∧True∧True∧True∧True)∧(((0:Int)=(0:Int)∧(0:Int)=(0:Int)∧(([]:List SV)=[]))∧((0:Int)=g∧(0:Int)=s∧l=[]∧(([]:List SV)=[]))∧((Q2 (0:Int) (0:Int) ([]:List (Int×Int)))=(Q2 g s l)∧false=false)∧((0:Int)=kV.1∧(1099511627776:Int)=kV.2∧(([]:List SV)=[]))∧True)) ∧
        Nf (List.length (List.take (Int.toNat ((lI l)-(ei+(1:Int)))) (List.drop (Int.toNat (ei+(1:Int))) l))) (fun (lN:Nat) (d29:Int×Int) (ux:(Int×Int)→Prop)=>∀ rH:List Value,
         (0≤s∧s≤1000∧0≤((List.getD (List.take (Int.toNat ((lI l)-(ei+(1:Int)))) (List.drop (Int.toNat (ei+(1:Int))) l)) (List.length (List.take (Int.toNat ((lI l)-(ei+(1:Int)))) (List.drop (Int.toNat (ei+(1:Int))) l))-1-lN) (0,0)).2)∧((List.getD (List.take (Int.toNat ((lI l)-(ei+(1:Int)))) (List.drop (Int.toNat (ei+(1:Int))) l)) (List.length (List.take (Int.toNat ((lI l)-(ei+(1:Int)))) (List.drop (Int.toNat (ei+(1:Int))) l))-1-lN) (0,0)).2)≤12000000∧-2000000000000≤d29.1∧d29.1≤2000000000000∧-2000000000000≤d29.2∧d29.2≤2000000000000)∧rH=rH∧(∃ d30:Int×Int,((l=l∧ei=ei∧True∧True∧True∧True∧True)∧(((0:Int)=(0:Int)∧(0:Int)=(0:Int)∧(([]:List SV)=[]))∧(g=g∧s=s∧l=l∧(([]:List SV)=[]))∧((Q2 g s l)=(Q2 g s l)∧false=false)∧(((Qr s (d29.1,d29.2) (((List.getD (List.take (Int.toNat ((lI l)-(ei+(1:Int)))) (List.drop (Int.toNat (ei+(1:Int))) l)) (List.length (List.take (Int.toNat ((lI l)-(ei+(1:Int)))) (List.drop (Int.toNat (ei+(1:Int))) l))-1-lN) (0,0)).1),((List.getD (List.take (Int.toNat ((lI l)-(ei+(1:Int)))) (List.drop (Int.toNat (ei+(1:Int))) l)) (List.length (List.take (Int.toNat ((lI l)-(ei+(1:Int)))) (List.drop (Int.toNat (ei+(1:Int))) l))-1-lN) (0,0)).2))).1)=d30.1∧((Qr s (d29.1,d29.2) (((List.getD (List.take (Int.toNat ((lI l)-(ei+(1:Int)))) (List.drop (Int.toNat (ei+(1:Int))) l)) (List.length (List.take (Int.toNat ((lI l)-(ei+(1:Int)))) (List.drop (Int.toNat (ei+(1:Int))) l))-1-lN) (0,0)).1),((List.getD (List.take (Int.toNat ((lI l)-(ei+(1:Int)))) (List.drop (Int.toNat (ei+(1:Int))) l)) (List.length (List.take (Int.toNat ((lI l)-(ei+(1:Int)))) (List.drop (Int.toNat (ei+(1:Int))) l))-1-lN) (0,0)).2))).2)=d30.2∧(([]:List SV)=[]))∧True))∧ux d30))
        (fun (d31:Int×Int) =>
         (0≤ei)∧(ei<(List.length (Q2 g s l)))∧(0≤ei)∧(ei<(List.length l))∧((True∧True∧True∧True∧True∧((gD l ei (0,0)).1=(gD l ei (0,0)).1∧(gD l ei (0,0)).2=(gD l ei (0,0)).2∧(([]:List SV)=[]))∧True)∧(((0:Int)=(0:Int)∧(0:Int)=(0:Int)∧(([]:List SV)=[]))∧(g=g∧s=s∧l=l∧(([]:List SV)=[]))∧(d31.1=d31.1∧d31.2=d31.2∧(([]:List SV)=[]))∧((gD (Q2 g s l) ei (0,0)).1=(gD (Q2 g s l) ei (0,0)).1∧(gD (Q2 g s l) ei (0,0)).2=(gD (Q2 g s l) ei (0,0)).2∧(([]:List SV)=[]))∧((0:Int)=(0:Int)∧(0:Int)=(0:Int)∧(([]:List SV)=[]))∧((Q2 g s l)=(Q2 g s l)∧false=false)∧True))∧((0≤ei)∧(ei<(List.length (Q2 g s l)))∧(0≤ei)∧(ei<(List.length l))∧((True∧True∧True∧True∧True∧((gD l ei (0,0)).1=(gD l ei (0,0)).1∧(gD l ei (0,0)).2=(gD l ei (0,0)).2∧(([]:List SV)=[]))∧True)∧(((0:Int)=(0:Int)∧(0:Int)=(0:Int)∧(([]:List SV)=[]))∧(g=g∧s=s∧l=l∧(([]:List SV)=[]))∧(d31.1=d31.1∧d31.2=d31.2∧(([]:List SV)=[]))∧((gD (Q2 g s l) ei (0,0)).1=(gD (Q2 g s l) ei (0,0)).1∧(gD (Q2 g s l) ei (0,0)).2=(gD (Q2 g s l) ei (0,0)).2∧(([]:List SV)=[]))∧((0:Int)=(0:Int)∧(0:Int)=(0:Int)∧(([]:List SV)=[]))∧((Q2 g s l)=(Q2 g s l)∧false=false)∧True)))∧(((gD l ei (0,0)).1==(1:Int))=true →
          (I64 ((gD (Q2 g s l) ei (0,0)).1-d31.2))∧(I64 ((gD (Q2 g s l) ei (0,0)).2-d31.1))∧(0≤s∧s≤1000∧0≤((gD l ei (0,0)).2)∧((gD l ei (0,0)).2)≤12000000)∧(True)∧((((Xe ((gD (Q2 g s l) ei (0,0)).1-d31.2) ((Qe s (((gD l ei (0,0)).1),((gD l ei (0,0)).2))).1))=((Qc g s l ei).1)∧(Wa ((gD (Q2 g s l) ei (0,0)).2-d31.1) ((Qe s (((gD l ei (0,0)).1),((gD l ei (0,0)).2))).2))=((Qc g s l ei).2)∧(([]:List SV)=[]))∧(0:Int)=(Qk g s l ei)∧(([]:List SV)=[]))∧(True))) ∧
         (((gD l ei (0,0)).1==(1:Int))=false →
          (((gD l ei (0,0)).1==(2:Int))=true →
           (I64 (d31.1-(gD (Q2 g s l) ei (0,0)).2))∧(I64 (d31.2-(gD (Q2 g s l) ei (0,0)).1))∧(0≤s∧s≤1000∧0≤((gD l ei (0,0)).2)∧((gD l ei (0,0)).2)≤12000000)∧(True)∧((((Xe (d31.1-(gD (Q2 g s l) ei (0,0)).2) ((Qe s (((gD l ei (0,0)).1),((gD l ei (0,0)).2))).1))=((Qc g s l ei).1)∧(Wa (d31.2-(gD (Q2 g s l) ei (0,0)).1) ((Qe s (((gD l ei (0,0)).1),((gD l ei (0,0)).2))).2))=((Qc g s l ei).2)∧(([]:List SV)=[]))∧(0:Int)=(Qk g s l ei)∧(([]:List SV)=[]))∧(True))) ∧
          (((gD l ei (0,0)).1==(2:Int))=false →
           (True)∧(0≤s∧s≤1000∧0≤((gD l ei (0,0)).2)∧((gD l ei (0,0)).2)≤12000000)∧(True)∧((((Xe (Xe ((gD (Q2 g s l) ei (0,0)).1) d31.1) ((Qe s (((gD l ei (0,0)).1),((gD l ei (0,0)).2))).1))=((Qc g s l ei).1)∧(Wa (Wa ((gD (Q2 g s l) ei (0,0)).2) d31.2) ((Qe s (((gD l ei (0,0)).1),((gD l ei (0,0)).2))).2))=((Qc g s l ei).2)∧(([]:List SV)=[]))∧(0:Int)=(Qk g s l ei)∧(([]:List SV)=[]))∧(True))))) kV)))) ∧
    ((l.any (fun (x2:Int×Int)=>(!inI x2.1 1 3||!inI x2.2 0 12000000)))=false →
     w1=w1∧(((0:Int) != (0:Int))=true →
      ((((0:Int)=((Qc g s l ei).1)∧(0:Int)=((Qc g s l ei).2)∧(([]:List SV)=[]))∧(0:Int)=(Qk g s l ei)∧(([]:List SV)=[]))∧(True))) ∧
     (((0:Int) != (0:Int))=false →
      (Jc g s l)∧((decide ((Xb g s l)≥(0:Int)))=true →
       ((((0:Int)=((Qc g s l ei).1)∧(0:Int)=((Qc g s l ei).2)∧(([]:List SV)=[]))∧(90:Int)=(Qk g s l ei)∧(([]:List SV)=[]))∧(True))) ∧
      ((decide ((Xb g s l)≥(0:Int)))=false →
       (I64 ((lI l)-(1:Int)))∧([ei].length≤1000000)∧((!(!([ei].any fun n=>decide (n<(0:Int))||decide (((lI l)-(1:Int))<n))))=true →
        ((((0:Int)=((Qc g s l ei).1)∧(0:Int)=((Qc g s l ei).2)∧(([]:List SV)=[]))∧(7:Int)=(Qk g s l ei)∧(([]:List SV)=[]))∧(True))) ∧
       ((!(!([ei].any fun n=>decide (n<(0:Int))||decide (((lI l)-(1:Int))<n))))=false →
        (True)∧(I64 (ei+(1:Int)))∧(0≤(ei+(1:Int)))∧((ei+(1:Int))≤(lI l))∧((lI l)≤(List.length l))∧∀ rI:List Value,rI=rI∧(List.length (List.take (Int.toNat ((lI l)-(ei+(1:Int)))) (List.drop (Int.toNat (ei+(1:Int))) l))<4611686018427387904)∧∃ (vp:Unit) (kW:Int×Int),((l=l∧ei=ei∧True∧True∧True∧True∧True)∧(((0:Int)=(0:Int)∧(0:Int)=(0:Int)∧(([]:List SV)=[]))∧(g=g∧s=s∧l=l∧(([]:List SV)=[]))∧((Q2 g s l)=(Q2 g s l)∧false=false)∧((0:Int)=kW.1∧(1099511627776:Int)=kW.2∧(([]:List SV)=[]))∧True)) ∧
        Nf (List.length (List.take (Int.toNat ((lI l)-(ei+(1:Int)))) (List.drop (Int.toNat (ei+(1:Int))) l))) (fun (lO:Nat) (d35:Int×Int) (uy:(Int×Int)→Prop)=>∀ rJ:List Value,
         (0≤s∧s≤1000∧0≤((List.getD (List.take (Int.toNat ((lI l)-(ei+(1:Int)))) (List.drop (Int.toNat (ei+(1:Int))) l)) (List.length (List.take (Int.toNat ((lI l)-(ei+(1:Int)))) (List.drop (Int.toNat (ei+(1:Int))) l))-1-lO) (0,0)).2)∧((List.getD (List.take (Int.toNat ((lI l)-(ei+(1:Int)))) (List.drop (Int.toNat (ei+(1:Int))) l)) (List.length (List.take (Int.toNat ((lI l)-(ei+(1:Int)))) (List.drop (Int.toNat (ei+(1:Int))) l))-1-lO) (0,0)).2)≤12000000∧-2000000000000≤d35.1∧d35.1≤2000000000000∧-2000000000000≤d35.2∧d35.2≤2000000000000)∧rJ=rJ∧(∃ d36:Int×Int,((l=l∧ei=ei∧True∧True∧True∧True∧True)∧(((0:Int)=(0:Int)∧(0:Int)=(0:Int)∧(([]:List SV)=[]))∧(g=g∧s=s∧l=l∧(([]:List SV)=[]))∧((Q2 g s l)=(Q2 g s l)∧false=false)∧(((Qr s (d35.1,d35.2) (((List.getD (List.take (Int.toNat ((lI l)-(ei+(1:Int)))) (List.drop (Int.toNat (ei+(1:Int))) l)) (List.length (List.take (Int.toNat ((lI l)-(ei+(1:Int)))) (List.drop (Int.toNat (ei+(1:Int))) l))-1-lO) (0,0)).1),((List.getD (List.take (Int.toNat ((lI l)-(ei+(1:Int)))) (List.drop (Int.toNat (ei+(1:Int))) l)) (List.length (List.take (Int.toNat ((lI l)-(ei+(1:Int)))) (List.drop (Int.toNat (ei+(1:Int))) l))-1-lO) (0,0)).2))).1)=d36.1∧((Qr s (d35.1,d35.2) (((List.getD (List.take (Int.toNat ((lI l)-(ei+(1:Int)))) (List.drop (Int.toNat (ei+(1:Int))) l)) (List.length (List.take (Int.toNat ((lI l)-(ei+(1:Int)))) (List.drop (Int.toNat (ei+(1:Int))) l))-1-lO) (0,0)).1),((List.getD (List.take (Int.toNat ((lI l)-(ei+(1:Int)))) (List.drop (Int.toNat (ei+(1:Int))) l)) (List.length (List.take (Int.toNat ((lI l)-(ei+(1:Int)))) (List.drop (Int.toNat (ei+(1:Int))) l))-1-lO) (0,0)).2))).2)=d36.2∧(([]:List SV)=[]))∧True))∧uy d36))
        (fun (d37:Int×Int) =>
         (0≤ei)∧(ei<(List.length (Q2 g s l)))∧(0≤ei)∧(ei<(List.length l))∧((True∧True∧True∧True∧True∧((gD l ei (0,0)).1=(gD l ei (0,0)).1∧(gD l ei (0,0)).2=(gD l ei (0,0)).2∧(([]:List SV)=[]))∧True)∧(((0:Int)=(0:Int)∧(0:Int)=(0:Int)∧(([]:List SV)=[]))∧(g=g∧s=s∧l=l∧(([]:List SV)=[]))∧(d37.1=d37.1∧d37.2=d37.2∧(([]:List SV)=[]))∧((gD (Q2 g s l) ei (0,0)).1=(gD (Q2 g s l) ei (0,0)).1∧(gD (Q2 g s l) ei (0,0)).2=(gD (Q2 g s l) ei (0,0)).2∧(([]:List SV)=[]))∧((0:Int)=(0:Int)∧(0:Int)=(0:Int)∧(([]:List SV)=[]))∧((Q2 g s l)=(Q2 g s l)∧false=false)∧True))∧((0≤ei)∧(ei<(List.length (Q2 g s l)))∧(0≤ei)∧(ei<(List.length l))∧((True∧True∧True∧True∧True∧((gD l ei (0,0)).1=(gD l ei (0,0)).1∧(gD l ei (0,0)).2=(gD l ei (0,0)).2∧(([]:List SV)=[]))∧True)∧(((0:Int)=(0:Int)∧(0:Int)=(0:Int)∧(([]:List SV)=[]))∧(g=g∧s=s∧l=l∧(([]:List SV)=[]))∧(d37.1=d37.1∧d37.2=d37.2∧(([]:List SV)=[]))∧((gD (Q2 g s l) ei (0,0)).1=(gD (Q2 g s l) ei (0,0)).1∧(gD (Q2 g s l) ei (0,0)).2=(gD (Q2 g s l) ei (0,0)).2∧(([]:List SV)=[]))∧((0:Int)=(0:Int)∧(0:Int)=(0:Int)∧(([]:List SV)=[]))∧((Q2 g s l)=(Q2 g s l)∧false=false)∧True)))∧(((gD l ei (0,0)).1==(1:Int))=true →
          (I64 ((gD (Q2 g s l) ei (0,0)).1-d37.2))∧(I64 ((gD (Q2 g s l) ei (0,0)).2-d37.1))∧(0≤s∧s≤1000∧0≤((gD l ei (0,0)).2)∧((gD l ei (0,0)).2)≤12000000)∧(True)∧((((Xe ((gD (Q2 g s l) ei (0,0)).1-d37.2) ((Qe s (((gD l ei (0,0)).1),((gD l ei (0,0)).2))).1))=((Qc g s l ei).1)∧(Wa ((gD (Q2 g s l) ei (0,0)).2-d37.1) ((Qe s (((gD l ei (0,0)).1),((gD l ei (0,0)).2))).2))=((Qc g s l ei).2)∧(([]:List SV)=[]))∧(0:Int)=(Qk g s l ei)∧(([]:List SV)=[]))∧(True))) ∧
         (((gD l ei (0,0)).1==(1:Int))=false →
          (((gD l ei (0,0)).1==(2:Int))=true →
           (I64 (d37.1-(gD (Q2 g s l) ei (0,0)).2))∧(I64 (d37.2-(gD (Q2 g s l) ei (0,0)).1))∧(0≤s∧s≤1000∧0≤((gD l ei (0,0)).2)∧((gD l ei (0,0)).2)≤12000000)∧(True)∧((((Xe (d37.1-(gD (Q2 g s l) ei (0,0)).2) ((Qe s (((gD l ei (0,0)).1),((gD l ei (0,0)).2))).1))=((Qc g s l ei).1)∧(Wa (d37.2-(gD (Q2 g s l) ei (0,0)).1) ((Qe s (((gD l ei (0,0)).1),((gD l ei (0,0)).2))).2))=((Qc g s l ei).2)∧(([]:List SV)=[]))∧(0:Int)=(Qk g s l ei)∧(([]:List SV)=[]))∧(True))) ∧
          (((gD l ei (0,0)).1==(2:Int))=false →
           (True)∧(0≤s∧s≤1000∧0≤((gD l ei (0,0)).2)∧((gD l ei (0,0)).2)≤12000000)∧(True)∧((((Xe (Xe ((gD (Q2 g s l) ei (0,0)).1) d37.1) ((Qe s (((gD l ei (0,0)).1),((gD l ei (0,0)).2))).1))=((Qc g s l ei).1)∧(Wa (Wa ((gD (Q2 g s l) ei (0,0)).2) d37.2) ((Qe s (((gD l ei (0,0)).1),((gD l ei (0,0)).2))).2))=((Qc g s l ei).2)∧(([]:List SV)=[]))∧(0:Int)=(Qk g s l ei)∧(([]:List SV)=[]))∧(True))))) kW)))))))
def Mb:Cx:=⟨[(3,(.i .i64))],[(58,J2),(63,Jb),(64,ZZ),(66,JG),(68,ZG),(67,XF),(105,Qa),(104,ZK)],103,[],0,[(62,WA),(65,QL)],[(107,Q1d (.pair (.i .i64) (.i .i64)))],[],[8,10,13,16,17,66],false,[],[],[],[]⟩
def P4 (g:Int) (s:Int) (l:List (Int×Int)) (ei:Int):List (Nat×LoopAnn):=[(1,⟨Unit,Int×Int,[2,3,8,10,11,13],fun e x=>[.val (.list (.pair (.i .i64) (.i .i64))) l,.val (.i .i64) ei,.box 8 0,.box 10 0,.lst 31,.box 13 0],fun e x=>[(8,.slot 8,.cells [.val (.i .i64) (0:Int),.val (.i .i64) (0:Int)] (some 62)),(10,.slot 10,.cells [.val (.i .i64) g,.val (.i .i64) s,.val (.list (.pair (.i .i64) (.i .i64))) l] (some 130)),(31,.slot 11,.lst 62 (.pair (.i .i64) (.i .i64)) (Q2 g s l) false),(13,.slot 13,.cells [.val (.i .i64) x.1,.val (.i .i64) x.2] (some 62))]⟩)]
set_option maxRecDepth 100000 in
theorem T8 (d:Int×Int×(List (Int×Int))×Int):gwp (Mb) (P4 d.1 d.2.1 d.2.2.1 d.2.2.2) c29 0 (Ko [.cell 8 true 2,.tmp 9] (N4 d) (UC d)) (QS 103 (AL.can Mk d))=Y0 d.1 d.2.1 d.2.2.1 d.2.2.2:=by kernel_rfl
abbrev T1:Prop:=OkC Tryz.prog 29 Um
theorem P5 (h:∀ (g:Int) (s:Int) (l:List (Int×Int)) (ei:Int),(l.length≤1000)→Y0 g s l ei):OkC Tryz.prog 29 Um :=
 Z8 O1 mixed (C:=Mb) (V:=fun (d:Int×Int×(List (Int×Int))×Int)=>Y0 d.1 d.2.1 d.2.2.1 d.2.2.2) ⟨(.cons X2 (.cons Wz (.cons Xl (.cons Vt (.cons X5 (.cons YM (.cons Qj (.cons X8 .nil)))))))),(XsOk.cons YE (XsOk.cons Zt XsOk.nil)),(ItsOk.cons (Q3m AB mixed) ItsOk.nil),YlOk.nil,IysOk.nil,XfOk.nil⟩ (T8) fun d hp=>h d.1 d.2.1 d.2.2.1 d.2.2.2 hp
end Go.Proofs.Tryz
set_option linter.unusedVariables false
namespace Go.Proofs.Tryz
open Go Go.V Go.Proofs
theorem Ss {s B:Int}{p:Sp}{x:En}(hs:0≤s∧s≤1000) (hx:Fz x) (hB:0≤B) (hp:0≤p.1∧p.1≤B∧-B≤p.2∧p.2≤1099511627776+B):0≤(Qr s p x).1∧(Qr s p x).1≤B+12001000∧-(B+12001000)≤(Qr s p x).2∧(Qr s p x).2≤1099511627776+(B+12001000):=by
 obtain⟨h1,h2,h3,h4⟩:=hx;unfold Qr Uc Qe LN;simp only[Yk,V1];split
 ·dsimp only;omega
 ·split
  ·dsimp only;omega
  ·dsimp only;omega
theorem Tw {s:Int}(hs:0≤s∧s≤1000):∀ L:List En,(∀ x∈L,Fz x)→0≤(Kj s L).1∧(Kj s L).1≤12001000*L.length∧-(12001000*(L.length:Int))≤(Kj s L).2∧(Kj s L).2≤1099511627776+12001000*L.length
 |[],_=>by unfold Kj LN;simp
 |x::L,h=>by
  have ih:=Tw hs L fun y hy=>h y (by simp[hy]);have:=Ss (B:=12001000*(L.length:Int)) hs (h x (by simp)) (by omega) ih;have e:(12001000*((x::L).length:Int))=12001000*(L.length:Int)+12001000:=by simp only[List.length_cons];omega
  rw[e];exact this
theorem C2 {s:Int}{L:List En}{k:Nat}(hk:k<L.length):Kj s (L.drop (L.length-(k+1)))=Qr s (Kj s (L.drop (L.length-k))) (L.getD (L.length-1-k) (0,0)):=by
 have e:L.length-(k+1)=L.length-1-k:=by omega
 rw[e,BK (by omega),show L.length-1-k+1=L.length-k by omega]
theorem Hj {g s e ei:Int}{l:List En}(he:Jp g s l=e) (h0:e≠0):(0=(Qc g s l ei).1∧0=(Qc g s l ei).2)∧e=Qk g s l ei:=by
 have h1:Qk g s l ei=e:=by unfold Qk;rw[(Sb he h0).1,if_pos h0]
 have h2:Qc g s l ei=(0,0):=by unfold Qc;rw[h1,if_neg h0]
 rw[h1,h2];exact⟨⟨rfl,rfl⟩,rfl⟩
theorem Tg:T1:=P5 fun g s l ei hl=>by
 unfold Y0;(try delta lI gD sT I64);simp only[List.any_cons,List.any_nil,Bool.or_false,Bool.not_not,←nIb,List.length_cons,List.length_nil,OW,Q06,Q0e,Bool.true_eq_false,true_and,and_true,exists_const,decide_eq_true_eq,decide_eq_false_iff_not,beq_iff_eq,ne_eq,beq_eq_false_iff_ne,Bool.not_eq_true',Bool.not_eq_false',gt_iff_lt,ge_iff_le,false_implies,Bool.false_eq_true,Bool.or_false,implies_true,forall_const];refine⟨by omega,fun h1=>⟨fun _=>Hj (OX h1) (by decide),fun h=>by rw[h1] at h;cases h⟩,fun h1=>⟨by omega,fun h2=>Hj (Ir h2) (by decide),fun h2=>⟨fun h3=>Hj (Q3r h1 h2 h3) (by decide),fun h3=>⟨by omega,fun h4=>Hj (IW h1 h2 h3 h4) (by decide),fun h4=>?_⟩⟩⟩⟩;have he:=Q4m h1 h2 h3 h4;have hb:=GV he;refine⟨hb,fun hw=>?_,fun hw=>⟨by rw[Zs];omega,by omega,fun h5=>?_,fun h5=>?_⟩⟩
 ·have h6:Qk g s l ei=90:=by unfold Qk;rw[(RP he hw).1,if_pos (by decide)]
  have h7:Qc g s l ei=(0,0):=by unfold Qc;rw[h6,if_neg (by decide)]
  rw[h6,h7];exact⟨⟨rfl,rfl⟩,rfl⟩
 ·have h6:Qk g s l ei=7:=by unfold Qk;rw[(Nq he hw).1,if_neg (by decide),h5,if_pos (by decide)]
  have h7:Qc g s l ei=(0,0):=by unfold Qc;rw[h6,if_neg (by decide)]
  rw[h6,h7];exact⟨⟨rfl,rfl⟩,rfl⟩
 have nu:=h5;simp only[inI,Bool.and_eq_true,decide_eq_true_eq] at h5;obtain⟨n,rfl⟩:=Int.eq_ofNat_of_zero_le h5.1;have hn:n<l.length:=by omega
 have nL:=(Nq he hw).2.2.2;have rK:Qk g s l n=0:=by unfold Qk;rw[(Nq he hw).1,if_neg (by decide),nu,if_neg (by decide)]
 have lP:Qc g s l n=E9 g s l n:=by unfold Qc;rw[if_pos rK,Int.toNat_natCast]
 have hM:List.take ((l.length:Int)-((n:Int)+1)).toNat (List.drop ((n:Int)+1).toNat l)=l.drop (n+1):=by rw[SG];exact List.take_of_length_le (by rw[List.length_drop];omega)
 obtain⟨b1,b2,b3,b4,b5,b6⟩:=hb;have hx:=b6 _ (List.getElem_mem hn);obtain⟨x1,x2,x3,x4⟩:=hx;have ph:=S0 ⟨b1,b2,b3,b4,b5,b6⟩ n (by omega) fun j h1 h2=>Vo.1 (by omega) j (by omega);have qa:∀ x∈l.drop (n+1),Fz x:=fun x hx=>b6 x (List.mem_of_mem_drop hx);have m_:((List.range (l.length+1)).map (stB g s l)).length=l.length+1:=by simp
 have uz:E9 g s l n=A5 s (stB g s l n) (Kj s (l.drop (n+1))) l[n]:=by unfold E9;rw[QM hn]
 rw[hM,rK,lP,uz];simp only[Int.toNat_natCast,nL,CE (show n<l.length+1 by omega),QM (d:=((0,0):Int×Int)) hn,m_];have vq:(l.drop (n+1)).length=l.length-(n+1):=List.length_drop ..;generalize l.drop (n+1)=L at *
 have hr:=Tw ⟨b3,b4⟩ L qa;refine⟨by rw[Zs];omega,by omega,by omega,by omega,by omega,(0,1099511627776),⟨rfl,rfl⟩,fun k d=>d=Kj s (L.drop (L.length-k)),?_,fun k d hk hd=>?_,fun d hd=>?_⟩
 ·show ((0:Int),(1099511627776:Int))=Kj s (L.drop (L.length-0));rw[Nat.sub_zero,List.drop_length];rfl
 ·subst hd;have uA:=Tw ⟨b3,b4⟩ (L.drop (L.length-k)) fun x hx=>qa x (List.mem_of_mem_drop hx);rw[List.length_drop] at uA;have au:L.length-1-k<L.length:=by omega
  obtain⟨y1,y2,y3,y4⟩:=qa _ (List.getElem_mem au);have bG:=C2 (s:=s) hk;rw[QM au] at bG ⊢;refine⟨⟨b3,b4,y3,y4,by omega,by omega,by omega,by omega⟩,Qr s (Kj s (L.drop (L.length-k))) L[L.length-1-k],⟨rfl,rfl⟩,bG.symm⟩
 ·dsimp only at hd;rw[Nat.sub_self,List.drop_zero] at hd;subst hd;have hp:∀ y:Int×Int,(y.1,y.2)=y:=fun _=>rfl;simp only[hp];refine⟨by omega,by omega,by omega,by omega,⟨by omega,by omega,by omega,by omega⟩,fun e1=>⟨by rw[Zs];omega,by rw[Zs];omega,⟨b3,b4,x3,x4⟩,⟨?_,?_⟩,trivial⟩,fun e1=>⟨fun e2=>⟨by rw[Zs];omega,by rw[Zs];omega,⟨b3,b4,x3,x4⟩,⟨?_,?_⟩,trivial⟩,fun e2=>⟨⟨b3,b4,x3,x4⟩,⟨?_,?_⟩,trivial⟩⟩⟩<;>unfold A5 Uc<;>first|(rw[if_pos e1];done)|(rw[if_neg e1,if_pos e2];done)|(rw[if_neg e1,if_neg e2];done)
end Go.Proofs.Tryz
set_option linter.unusedVariables false
namespace Go.Proofs.Tryz
open Go Go.V Go.Proofs
def KT:AL (Int×Int×Int):=(.cons (.k (.i .i64)) (.cons (.ptr (.one (.k (.i .i64)))) (.one (.ptr (.one (.k (.i .i64)))))))
def MD (d:Int×Int×Int):Prop:=True
def Kc (d:Int×Int×Int):SV:=.val .bo (decide (d.1<d.2.1)||decide (d.2.2<d.1))
def Kb (d:Int×Int×Int):List OB:=[]
def Yl:CSp:=Y_ KT MD Kc Kb
def Wo (n:Int) (a:Int) (b:Int):Prop :=
 (((decide (n<a))||(decide (n > b)))=(decide (n<a)||decide (b<n))∧(True))
def KG:Cx:=⟨[],[],13,[],0,[],[],[],[],false,[],[],[],[]⟩
def Ga (n:Int) (a:Int) (b:Int):List (Nat×LoopAnn):=[]
set_option maxRecDepth 100000 in
theorem GH (d:Int×Int×Int):gwp (KG) (Ga d.1 d.2.1 d.2.2) Q0u 0 (Ko [.tmp 4] (Kc d) (Kb d)) (QS 13 (AL.can KT d))=Wo d.1 d.2.1 d.2.2:=by kernel_rfl
abbrev Dc:Prop:=OkC Tryz.prog 127 Yl
theorem Dj (h:∀ (n:Int) (a:Int) (b:Int),(True)→Wo n a b):OkC Tryz.prog 127 Yl :=
 Z8 Ep mixed (C:=KG) (V:=fun (d:Int×Int×Int)=>Wo d.1 d.2.1 d.2.2) ⟨.nil,XsOk.nil,ItsOk.nil,YlOk.nil,IysOk.nil,XfOk.nil⟩ (GH) fun d hp=>h d.1 d.2.1 d.2.2 hp
theorem D5:Dc:=Dj fun n a b _=>by exact⟨rfl,trivial⟩
def Np:AL (Int×Int×List Int):=(.cons (.k (.i .i64)) (.cons (.k (.i .i64)) (.one (.k (.list (.i .i64))))))
def DD (d:Int×Int×List Int):Prop:=d.2.2.length≤1000000
def VX (d:Int×Int×List Int):SV:=.val .bo (!(d.2.2.any fun n=>decide (n<d.1)||decide (d.2.1<n)))
def U0 (d:Int×Int×List Int):List OB:=[]
def Ks:CSp:=Y_ Np DD VX U0
def YR (a:Int) (b:Int) (l:List Int):Prop :=
 (l.length≤1000000∧∀ x∈l,(fun (x1:Int)=>True) x)∧((!(l.any (fun (x1:Int)=>(decide (x1<a)||decide (b<x1)))))=(!(l.any fun n=>decide (n<a)||decide (b<n)))∧(True))
def Nt:Cx:=⟨[],[(97,Qt),(127,Yl)],11,[],0,[],[],[],[],false,[],[],[],[]⟩
def H9 (a:Int) (b:Int) (l:List Int):List (Nat×LoopAnn):=[]
set_option maxRecDepth 100000 in
theorem He (d:Int×Int×List Int):gwp (Nt) (H9 d.1 d.2.1 d.2.2) c99 0 (Ko [.tmp 6] (VX d) (U0 d)) (QS 11 (AL.can Np d))=YR d.1 d.2.1 d.2.2:=by kernel_rfl
abbrev BQ:Prop:=OkC Tryz.prog 99 Ks
theorem Hg (h:∀ (a:Int) (b:Int) (l:List Int),(l.length≤1000000)→YR a b l):OkC Tryz.prog 99 Ks :=
 Z8 OT mixed (C:=Nt) (V:=fun (d:Int×Int×List Int)=>YR d.1 d.2.1 d.2.2) ⟨(.cons QY (.cons D5 .nil)),XsOk.nil,ItsOk.nil,YlOk.nil,IysOk.nil,XfOk.nil⟩ (He) fun d hp=>h d.1 d.2.1 d.2.2 hp
theorem HR:BQ:=Hg fun a b l h=>by exact⟨⟨h,fun _ _=>trivial⟩,rfl,trivial⟩
def Mr:AL (Int×List Int):=(.one (.agg (.cons (.k (.i .i64)) (.one (.k (.list (.i .i64)))))))
def HU (d:Int×List Int):Prop:=d.2.length≤1000000
def N3 (d:Int×List Int):SV:=.val (.i .i64) (Jx d.1 d.2)
def UE (d:Int×List Int):List OB:=[]
def Uz:CSp:=Y_ Mr HU N3 UE
def WW (hk:Int) (lw:List Int):Prop :=
 ([hk].length≤1000000)∧((!(!([hk].any fun n=>decide (n<(1:Int))||decide ((24:Int)<n))))=true →
  ((2:Int)=(Jx hk lw)∧(True))) ∧
 ((!(!([hk].any fun n=>decide (n<(1:Int))||decide ((24:Int)<n))))=false →
  ((decide ((lI lw) > (96:Int)))=true →
   ((5:Int)=(Jx hk lw)∧(True))) ∧
  ((decide ((lI lw) > (96:Int)))=false →
   (((lI lw)==(0:Int))=true →
    ((7:Int)=(Jx hk lw)∧(True))) ∧
   (((lI lw)==(0:Int))=false →
    (I64 (hk-(1:Int)))∧(lw.length≤1000000)∧((!(!(lw.any fun n=>decide (n<(0:Int))||decide ((hk-(1:Int))<n))))=true →
     ((2:Int)=(Jx hk lw)∧(True))) ∧
    ((!(!(lw.any fun n=>decide (n<(0:Int))||decide ((hk-(1:Int))<n))))=false →
     ((0:Int)=(Jx hk lw)∧(True))))))
def Mw:Cx:=⟨[(3,(.i .i64))],[(99,Ks)],27,[],0,[],[],[],[],false,[],[],[],[]⟩
def Pa (hk:Int) (lw:List Int):List (Nat×LoopAnn):=[]
set_option maxRecDepth 100000 in
theorem P3 (d:Int×List Int):gwp (Mw) (Pa d.1 d.2) c60 0 (Ko [.tmp 2] (N3 d) (UE d)) (QS 27 (AL.can Mr d))=WW d.1 d.2:=by kernel_rfl
abbrev PS:Prop:=OkC Tryz.prog 60 Uz
theorem Pz (h:∀ (hk:Int) (lw:List Int),(lw.length≤1000000)→WW hk lw):OkC Tryz.prog 60 Uz :=
 Z8 Q0d mixed (C:=Mw) (V:=fun (d:Int×List Int)=>WW d.1 d.2) ⟨(.cons HR .nil),XsOk.nil,ItsOk.nil,YlOk.nil,IysOk.nil,XfOk.nil⟩ (P3) fun d hp=>h d.1 d.2 hp
theorem nI (n a b:Int):(!inI n a b)=(decide (n<a)||decide (b<n)):=by simp only[inI,Bool.not_and];by_cases h1:a≤n<;>by_cases h2:n≤b<;>simp[h1,h2]<;>omega
theorem Ph:PS:=Pz fun hk lw hl=>by
 unfold WW;(try delta lI gD sT I64);simp only[and_true,decide_eq_true_eq,decide_eq_false_iff_not,beq_iff_eq,ne_eq,beq_eq_false_iff_ne,gt_iff_lt,Bool.not_not];simp only[←nI];refine⟨by simp,fun h1=>by simp at h1;simp[Jx,h1],fun h1=>⟨fun h2=>?_,fun h2=>⟨fun h3=>?_,fun h3=>?_⟩⟩⟩;all_goals simp only[List.any_cons,List.any_nil,Bool.or_false,Bool.not_eq_false'] at h1
 ·have:96<lw.length:=by omega
  simp[Jx,h1,this]
 ·have h3:lw.length=0:=by omega
  simp[Jx,h1,h3]
 have gi:¬ 96<lw.length:=by omega
 have gm:¬ lw.length=0:=by omega
 have hi:1≤hk∧hk≤24:=by simpa [inI] using h1
 have qb:Jx hk lw=if lw.any (fun x=>!inI x 0 (hk-1)) then 2 else 0:=by simp only[Jx,h1,gi,gm];simp
 rw[qb];simp only[Zs];refine⟨by omega,by omega,fun h=>by rw[if_pos h],fun h=>by rw[h];rfl⟩
def YI:AL (Int×Int×Int):=(.cons (.k (.i .i64)) (.cons (.ptr (.one (.k (.i .i64)))) (.one (.ptr (.one (.k (.i .i64)))))))
def N7 (d:Int×Int×Int):Prop:=True
def Y7 (d:Int×Int×Int):SV:=.val .bo (decide (d.1<d.2.1)||decide (d.2.2<d.1))
def Yb (d:Int×Int×Int):List OB:=[]
def XO:CSp:=Y_ YI N7 Y7 Yb
def Xr (n:Int) (a:Int) (b:Int):Prop :=
 (((decide (n<a))||(decide (n > b)))=(decide (n<a)||decide (b<n))∧(True))
def YJ:Cx:=⟨[],[],13,[],0,[],[],[],[],false,[],[],[],[]⟩
def NL (n:Int) (a:Int) (b:Int):List (Nat×LoopAnn):=[]
set_option maxRecDepth 100000 in
theorem Nz (d:Int×Int×Int):gwp (YJ) (NL d.1 d.2.1 d.2.2) Q2f 0 (Ko [.tmp 4] (Y7 d) (Yb d)) (QS 13 (AL.can YI d))=Xr d.1 d.2.1 d.2.2:=by kernel_rfl
abbrev NX:Prop:=OkC Tryz.prog 117 XO
theorem NI (h:∀ (n:Int) (a:Int) (b:Int),(True)→Xr n a b):OkC Tryz.prog 117 XO :=
 Z8 Eo mixed (C:=YJ) (V:=fun (d:Int×Int×Int)=>Xr d.1 d.2.1 d.2.2) ⟨.nil,XsOk.nil,ItsOk.nil,YlOk.nil,IysOk.nil,XfOk.nil⟩ (Nz) fun d hp=>h d.1 d.2.1 d.2.2 hp
theorem NA:NX:=NI fun n a b _=>by exact⟨rfl,trivial⟩
def KI:AL (Int×Int×List Int):=(.cons (.k (.i .i64)) (.cons (.k (.i .i64)) (.one (.k (.list (.i .i64))))))
def MH (d:Int×Int×List Int):Prop:=d.2.2.length≤1000000
def K6 (d:Int×Int×List Int):SV:=.val .bo (!(d.2.2.any fun n=>decide (n<d.1)||decide (d.2.1<n)))
def K7 (d:Int×Int×List Int):List OB:=[]
def Yg:CSp:=Y_ KI MH K6 K7
def Wk (a:Int) (b:Int) (l:List Int):Prop :=
 (l.length≤1000000∧∀ x∈l,(fun (x1:Int)=>True) x)∧((!(l.any (fun (x1:Int)=>(decide (x1<a)||decide (b<x1)))))=(!(l.any fun n=>decide (n<a)||decide (b<n)))∧(True))
def Vc:Cx:=⟨[],[(97,Qt),(117,XO)],11,[],0,[],[],[],[],false,[],[],[],[]⟩
def GO (a:Int) (b:Int) (l:List Int):List (Nat×LoopAnn):=[]
set_option maxRecDepth 100000 in
theorem Gf (d:Int×Int×List Int):gwp (Vc) (GO d.1 d.2.1 d.2.2) c81 0 (Ko [.tmp 6] (K6 d) (K7 d)) (QS 11 (AL.can KI d))=Wk d.1 d.2.1 d.2.2:=by kernel_rfl
abbrev GY:Prop:=OkC Tryz.prog 81 Yg
theorem Gl (h:∀ (a:Int) (b:Int) (l:List Int),(l.length≤1000000)→Wk a b l):OkC Tryz.prog 81 Yg :=
 Z8 O8 mixed (C:=Vc) (V:=fun (d:Int×Int×List Int)=>Wk d.1 d.2.1 d.2.2) ⟨(.cons QY (.cons NA .nil)),XsOk.nil,ItsOk.nil,YlOk.nil,IysOk.nil,XfOk.nil⟩ (Gf) fun d hp=>h d.1 d.2.1 d.2.2 hp
theorem GB:GY:=Gl fun a b l h=>by exact⟨⟨h,fun _ _=>trivial⟩,rfl,trivial⟩
def VQ:AL (Int×List Int):=(.one (.agg (.cons (.k (.i .i64)) (.one (.k (.list (.i .i64)))))))
def MY (d:Int×List Int):Prop:=d.2.length≤1000000
def KW (d:Int×List Int):SV:=.val (.i .i64) (QU d.1 d.2)
def Ku (d:Int×List Int):List OB:=[]
def YT:CSp:=Y_ VQ MY KW Ku
def Xu (hd:Int) (rows:List Int):Prop :=
 ([hd].length≤1000000)∧((!(!([hd].any fun n=>decide (n<(1:Int))||decide ((24:Int)<n))))=true →
  ((2:Int)=(QU hd rows)∧(True))) ∧
 ((!(!([hd].any fun n=>decide (n<(1:Int))||decide ((24:Int)<n))))=false →
  ((decide ((lI rows) > (60:Int)))=true →
   ((5:Int)=(QU hd rows)∧(True))) ∧
  ((decide ((lI rows) > (60:Int)))=false →
   (((lI rows)==(0:Int))=true →
    ((7:Int)=(QU hd rows)∧(True))) ∧
   (((lI rows)==(0:Int))=false →
    (0≤hd)∧(I64 (Bm .i64 (1:Int) hd))∧(I64 ((Bm .i64 (1:Int) hd)-(1:Int)))∧(rows.length≤1000000)∧((!(!(rows.any fun n=>decide (n<(0:Int))||decide (((Bm .i64 (1:Int) hd)-(1:Int))<n))))=true →
     ((2:Int)=(QU hd rows)∧(True))) ∧
    ((!(!(rows.any fun n=>decide (n<(0:Int))||decide (((Bm .i64 (1:Int) hd)-(1:Int))<n))))=false →
     ((0:Int)=(QU hd rows)∧(True))))))
def U1:Cx:=⟨[(3,(.i .i64))],[(81,Yg)],28,[],0,[],[],[],[],false,[],[],[],[]⟩
def DY (hd:Int) (rows:List Int):List (Nat×LoopAnn):=[]
set_option maxRecDepth 100000 in
theorem Dv (d:Int×List Int):gwp (U1) (DY d.1 d.2) c43 0 (Ko [.tmp 2] (KW d) (Ku d)) (QS 28 (AL.can VQ d))=Xu d.1 d.2:=by kernel_rfl
abbrev DL:Prop:=OkC Tryz.prog 43 YT
theorem DK (h:∀ (hd:Int) (rows:List Int),(rows.length≤1000000)→Xu hd rows):OkC Tryz.prog 43 YT :=
 Z8 O0 mixed (C:=U1) (V:=fun (d:Int×List Int)=>Xu d.1 d.2) ⟨(.cons GB .nil),XsOk.nil,ItsOk.nil,YlOk.nil,IysOk.nil,XfOk.nil⟩ (Dv) fun d hp=>h d.1 d.2 hp
theorem R3 {h:Int}(h1:0≤h) (h2:h≤62):Bm .i64 1 h=2 ^ h.toNat:=by obtain⟨n,rfl⟩:=Int.eq_ofNat_of_zero_le h1;have:Nat.min n 64=n:=Nat.min_eq_left (by omega);simp only[Bm,Int.toNat_natCast,IntKind.bits,this,Int.one_mul]
theorem YG {h:Int}(h1:1≤h) (h2:h≤24):(2:Int)≤2 ^ h.toNat∧(2:Int) ^ h.toNat≤16777216:=by
 obtain⟨n,rfl⟩:=Int.eq_ofNat_of_zero_le (show 0≤h by omega);have a1:2 ^ 1≤2 ^ n:=Nat.pow_le_pow_right (by omega) (by omega);have a2:2 ^ n≤2 ^ 24:=Nat.pow_le_pow_right (by omega) (by omega);simp only[Int.toNat_natCast];have e:((2:Int) ^ n)=((2 ^ n:Nat):Int):=by norm_cast
 rw[e];omega
theorem Dr:DL:=DK fun hd rows hl=>by
 unfold Xu;(try delta lI gD sT I64);simp only[and_true,decide_eq_true_eq,decide_eq_false_iff_not,beq_iff_eq,ne_eq,beq_eq_false_iff_ne,gt_iff_lt,Bool.not_not];simp only[←nI];refine⟨by simp,fun h1=>by simp at h1;simp[QU,h1],fun h1=>⟨fun h2=>?_,fun h2=>⟨fun h3=>?_,fun h3=>?_⟩⟩⟩;all_goals simp only[List.any_cons,List.any_nil,Bool.or_false,Bool.not_eq_false'] at h1
 ·have:60<rows.length:=by omega
  simp[QU,h1,this]
 ·have h3:rows.length=0:=by omega
  simp[QU,h1,h3]
 have gi:¬ 60<rows.length:=by omega
 have gm:¬ rows.length=0:=by omega
 have hi:1≤hd∧hd≤24:=by simpa [inI] using h1
 have hp:=YG hi.1 hi.2;have qb:QU hd rows=if rows.any (fun x=>!inI x 0 (2 ^ hd.toNat-1)) then 2 else 0:=by simp only[QU,h1,gi,gm];simp
 rw[qb];simp only[Zs,R3 (show 0≤hd by omega) (by omega)];refine⟨by omega,by omega,by omega,by omega,fun h=>by rw[if_pos h],fun h=>by rw[h];rfl⟩
def D6:AL (Bool):=(.one (.k .bo))
def PG (d:Bool):Prop:=True
def Md (d:Bool):SV:=.val (.i .u8) (Un d)
def Mj (d:Bool):List OB:=[]
def N_:CSp:=Y_ D6 PG Md Mj
def K4 (x:Bool):Prop :=
 (x=true →
  ((120:Int)=(Un x)∧(True))) ∧
 (x=false →
  ((46:Int)=(Un x)∧(True)))
def GC:Cx:=⟨[],[],4,[],0,[],[],[],[],false,[],[],[],[]⟩
def Tq (x:Bool):List (Nat×LoopAnn):=[]
set_option maxRecDepth 100000 in
theorem R1 (d:Bool):gwp (GC) (Tq d) Q38 0 (Ko [.tmp 2] (Md d) (Mj d)) (QS 4 (AL.can D6 d))=K4 d:=by kernel_rfl
abbrev Tr:Prop:=OkC Tryz.prog 101 N_
theorem TK (h:∀ (x:Bool),(True)→K4 x):OkC Tryz.prog 101 N_ :=
 Z8 Eg mixed (C:=GC) (V:=fun (d:Bool)=>K4 d) ⟨.nil,XsOk.nil,ItsOk.nil,YlOk.nil,IysOk.nil,XfOk.nil⟩ (R1) fun d hp=>h d hp
theorem Ri:Tr:=TK fun x _=>by cases x<;>simp[K4,Un]
def XG:AL ((Int×List Int)×Int×Int):=(.cons (.agg (.cons (.k (.i .i64)) (.one (.k (.list (.i .i64)))))) (.cons (.k (.i .i64)) (.one (.k (.i .i64)))))
def Kl (d:(Int×List Int)×Int×Int):Prop:=0≤d.2.2∧d.2.2<d.1.2.length∧0≤d.2.1∧d.2.1<9223372036854775808∧∀ x∈d.1.2,0≤x∧x≤60
def Xh (d:(Int×List Int)×Int×Int):SV:=.val .bo (d.2.1.toNat.testBit (d.1.2.getD d.2.2.toNat 0).toNat)
def Xc (d:(Int×List Int)×Int×Int):List OB:=[]
def Js:CSp:=Y_ XG Kl Xh Xc
def Zy (hk:Int) (lw:List Int) (row:Int) (w:Int):Prop :=
 (0≤w)∧(w<(List.length lw))∧(0≤(gD lw w 0))∧(((YQ .and .i64 (At .i64 row (gD lw w 0)) (1:Int))==(1:Int))=(row.toNat.testBit (lw.getD w.toNat 0).toNat)∧(True))
def Xy:Cx:=⟨[],[],17,[],0,[],[],[],[],false,[],[],[],[]⟩
def KU (hk:Int) (lw:List Int) (row:Int) (w:Int):List (Nat×LoopAnn):=[]
set_option maxRecDepth 100000 in
theorem Kz (d:(Int×List Int)×Int×Int):gwp (Xy) (KU d.1.1 d.1.2 d.2.1 d.2.2) Q2p 0 (Ko [.tmp 6] (Xh d) (Xc d)) (QS 17 (AL.can XG d))=Zy d.1.1 d.1.2 d.2.1 d.2.2:=by kernel_rfl
abbrev KM:Prop:=OkC Tryz.prog 102 Js
theorem V2 (h:∀ (hk:Int) (lw:List Int) (row:Int) (w:Int),(0≤w∧w<lw.length∧0≤row∧row<9223372036854775808∧∀ x∈lw,0≤x∧x≤60)→Zy hk lw row w):OkC Tryz.prog 102 Js :=
 Z8 Ez mixed (C:=Xy) (V:=fun (d:(Int×List Int)×Int×Int)=>Zy d.1.1 d.1.2 d.2.1 d.2.2) ⟨.nil,XsOk.nil,ItsOk.nil,YlOk.nil,IysOk.nil,XfOk.nil⟩ (Kz) fun d hp=>h d.1.1 d.1.2 d.2.1 d.2.2 hp
theorem KL:KM:=V2 fun hk lw row w h=>by
 obtain⟨h1,h2,h3,h4,h5⟩:=h;obtain⟨w,rfl⟩:=Int.eq_ofNat_of_zero_le h1;obtain⟨r,rfl⟩:=Int.eq_ofNat_of_zero_le h3;have hw:w<lw.length:=by omega
 have hx:=h5 _ (List.getElem_mem hw);obtain⟨k,hk⟩:=Int.eq_ofNat_of_zero_le hx.1;unfold Zy;(try delta lI gD sT I64);simp only[and_true,Int.toNat_natCast,Int.ofNat_lt,QM hw,hk];refine⟨by omega,by omega,by omega,?_⟩;exact Ft (by omega) (by omega)
end Go.Proofs.Tryz
set_option linter.unusedVariables false
namespace Go.Proofs.Tryz
open Go Go.V Go.Proofs
def J4:Cx:=⟨[],[],20,[],0,[(137,Fc)],[],[],[],false,[],[],[],[]⟩
def Zh:XSp:=FO J4 (fun _=>[]) Q23 [] 20
theorem ZY:XOk Tryz.prog 128 Zh:=MZ EA mixed (C:=J4) ⟨.nil,(XsOk.cons (Rs TF) XsOk.nil),ItsOk.nil,YlOk.nil,IysOk.nil,XfOk.nil⟩ _
def J5:Cx:=⟨[(5,(.i .u8))],[],17,[],0,[(128,Zh)],[],[],[],false,[],[],[],[]⟩
def Jh:XSp:=FO J5 (fun _=>[]) Q2j [.tmp 4] 17
theorem XP:XOk Tryz.prog 100 Jh:=MZ EF mixed (C:=J5) ⟨.nil,(XsOk.cons ZY XsOk.nil),ItsOk.nil,YlOk.nil,IysOk.nil,XfOk.nil⟩ _
def Jw:Cx:=⟨[],[],14,[],0,[],[],[],[],false,[],[],[],[]⟩
def JM:XSp:=FO Jw (fun _=>[]) Q2m [.tmp 2] 14
theorem WS:XOk Tryz.prog 103 JM:=MZ Ee mixed (C:=Jw) ⟨.nil,XsOk.nil,ItsOk.nil,YlOk.nil,IysOk.nil,XfOk.nil⟩ _
def Wh:AL ((Int×List Int)×Int):=(.cons (.agg (.cons (.k (.i .i64)) (.one (.k (.list (.i .i64)))))) (.one (.k (.i .i64))))
def Vu (d:(Int×List Int)×Int):Prop:=d.1.2.length≤110∧0≤d.2∧d.2<9223372036854775808∧∀ x∈d.1.2,0≤x∧x≤60
def XX (d:(Int×List Int)×Int):SV:=.val .st (ZM d.1.2 d.2)
def XU (d:(Int×List Int)×Int):List OB:=[]
def X0:CSp:=Y_ Wh Vu XX XU
def ZR (hk:Int) (lw:List Int) (row:Int):Prop :=
 ∃ (e4:Unit) (d40:Bool×(List Int)×Int),((row=row∧True∧True∧(lI lw)=(lI lw)∧(0:Int)=d40.2.2∧True)∧((hk=hk∧lw=lw∧(([]:List SV)=[]))∧(d40.1=false∧True∧(([]:List SV)=[]))∧(d40.2.1=[]∧(List.isEmpty d40.2.1)=true)∧True)) ∧
 LoopP (fun (d4:Bool×(List Int)×Int) (q4:(Bool×(List Int)×Int)→Prop) =>
  ((decide (d4.2.2<(lI lw)))=true →
   (0≤d4.2.2∧d4.2.2<lw.length∧0≤row∧row<9223372036854775808∧∀ x∈lw,0≤x∧x≤60)∧(True)∧∀ w5:List Value,∀ w6:List Value,((!d4.1)=true →
    w6=w6∧(((List.length d4.2.1)+(List.length [(Un (row.toNat.testBit (lw.getD d4.2.2.toNat 0).toNat))]))*1≤70368744177664)∧w5=w5∧(I64 (d4.2.2+(1:Int)))∧(∃ d7:Bool×(List Int)×Int,((row=row∧True∧True∧(lI lw)=(lI lw)∧(d4.2.2+(1:Int))=d7.2.2∧True)∧((hk=hk∧lw=lw∧(([]:List SV)=[]))∧(d7.1=true∧True∧(([]:List SV)=[]))∧((d4.2.1++[(Un (row.toNat.testBit (lw.getD d4.2.2.toNat 0).toNat))])=d7.2.1∧false=(List.isEmpty d7.2.1))∧True))∧q4 d7)) ∧
   ((!d4.1)=false →
    (d4.1=true)∧((!true)=true →
     False) ∧
    ((!true)=false →
     w6=w6∧(((List.length d4.2.1)+(List.length [(Un (row.toNat.testBit (lw.getD d4.2.2.toNat 0).toNat))]))*1≤70368744177664)∧w5=w5∧(I64 (d4.2.2+(1:Int)))∧(∃ d8:Bool×(List Int)×Int,((row=row∧True∧True∧(lI lw)=(lI lw)∧(d4.2.2+(1:Int))=d8.2.2∧True)∧((hk=hk∧lw=lw∧(([]:List SV)=[]))∧(d4.1=d8.1∧True∧(([]:List SV)=[]))∧((d4.2.1++[(Un (row.toNat.testBit (lw.getD d4.2.2.toNat 0).toNat))])=d8.2.1∧false=(List.isEmpty d8.2.1))∧True))∧q4 d8)))) ∧
  ((decide (d4.2.2<(lI lw)))=false →
   ∀ w9:List Value,((List.isEmpty d4.2.1)=false→d4.2.1≠[])∧((lI d4.2.1)=(List.length d4.2.1))∧((List.length d4.2.1)≤4611686018427387904)∧w9=w9∧((Bz d4.2.1)=(ZM lw row)∧(True)))) d40
def Wi:Cx:=⟨[(5,(.i .u8))],[(102,Js),(101,N_)],22,[],0,[(100,Jh),(128,Zh),(137,Fc),(103,JM)],[],[],[],false,[],[],[],[]⟩
def Up (hk:Int) (lw:List Int) (row:Int):List (Nat×LoopAnn):=[(0,⟨Unit,Bool×(List Int)×Int,[1,2,5,10,11],fun e x=>[.val (.i .i64) row,.box 2 0,.box 5 0,.val (.i .i64) (((List.length lw):Nat):Int),.val (.i .i64) x.2.2],fun e x=>[(2,.slot 2,.cells [.val (.i .i64) hk,.val (.list (.i .i64)) lw] (some 127)),(5,.slot 5,.cells [.dd 5 (.obx x.1),.lst 2000014] (some 187)),(2000014,.cell 5 1,.lst 5 (.i .u8) x.2.1 (List.isEmpty x.2.1))]⟩)]
set_option maxRecDepth 100000 in
theorem U6 (d:(Int×List Int)×Int):gwp (Wi) (Up d.1.1 d.1.2 d.2) c61 0 (Ko [.tmp 4] (XX d) (XU d)) (QS 22 (AL.can Wh d))=ZR d.1.1 d.1.2 d.2:=by kernel_rfl
abbrev Ui:Prop:=OkC Tryz.prog 61 X0
theorem Ua (h:∀ (hk:Int) (lw:List Int) (row:Int),(lw.length≤110∧0≤row∧row<9223372036854775808∧∀ x∈lw,0≤x∧x≤60)→ZR hk lw row):OkC Tryz.prog 61 X0 :=
 Z8 OP mixed (C:=Wi) (V:=fun (d:(Int×List Int)×Int)=>ZR d.1.1 d.1.2 d.2) ⟨(.cons KL (.cons Ri .nil)),(XsOk.cons XP (XsOk.cons ZY (XsOk.cons (Rs TF) (XsOk.cons WS XsOk.nil)))),ItsOk.nil,YlOk.nil,IysOk.nil,XfOk.nil⟩ (U6) fun d hp=>h d.1.1 d.1.2 d.2 hp
theorem Sv (lw:List Int) (row:Int):Bz (lw.map fun k=>Un (row.toNat.testBit k.toNat))=ZM lw row:=by simp only[Bz,ZM,List.map_map];refine List.map_congr_left fun k _=>?_;simp only[Function.comp,Un];split<;>rfl
theorem Uh:Ui:=Ua fun hk lw row h=>by
 obtain⟨h1,h2,h3,h4⟩:=h;unfold ZR;(try delta lI gD sT I64);simp only[true_and,and_true,exists_const,decide_eq_true_eq,decide_eq_false_iff_not,ne_eq,Bool.not_eq_true',Bool.not_eq_false',Zs];refine⟨(false,[],0),⟨rfl,rfl,rfl,rfl⟩,?_⟩;refine⟨fun d=>∃ i:Nat,i≤lw.length∧d.2.2=i∧d.2.1=(lw.take i).map fun k=>Un (row.toNat.testBit k.toNat),fun d=>lw.length-d.2.2.toNat,⟨0,Nat.zero_le _,rfl,by simp⟩,?_⟩;rintro⟨c,xs,_⟩ ⟨i,hi,rfl,a9⟩;dsimp only at a9 ⊢;have fI:xs.length=i:=by rw[a9];simp;omega
 refine⟨fun ah=>?_,fun a7=>?_⟩
 ·have ah:i<lw.length:=by omega
  have hn:xs++[Un (row.toNat.testBit lw[i].toNat)]=(lw.take (i+1)).map fun k=>Un (row.toNat.testBit k.toNat):=by rw[a9,QX ah,List.map_append];rfl
  simp only[Int.toNat_natCast,QM ah,List.length_singleton];refine⟨⟨by omega,by omega,h2,h3,h4⟩,fun _ w6=>⟨fun hc=>?_,fun hc=>?_⟩⟩
  ·exact⟨by omega,by omega,(true,xs++[Un (row.toNat.testBit lw[i].toNat)],(i:Int)+1),⟨rfl,rfl,rfl,by simp⟩,⟨i+1,by omega,by simp,hn⟩,by dsimp only;omega⟩
  ·refine⟨by simpa using hc,?_⟩;refine⟨fun h=>by simp at h,fun _=>?_⟩;exact⟨by omega,by omega,(c,xs++[Un (row.toNat.testBit lw[i].toNat)],(i:Int)+1),⟨rfl,rfl,rfl,by simp⟩,⟨i+1,by omega,by simp,hn⟩,by dsimp only;omega⟩
 ·have:i=lw.length:=by omega
  subst this;rw[List.take_length] at a9;refine fun _=>⟨?_,by omega,?_⟩
  ·intro aC h0;rw[h0] at aC;simp at aC
  ·rw[a9];exact Sv lw row
end Go.Proofs.Tryz
set_option linter.unusedVariables false
namespace Go.Proofs.Tryz
open Go Go.V Go.Proofs
def Mh:AL ((Int×List Int)×Int×List Int):=(.cons (.agg (.cons (.k (.i .i64)) (.one (.k (.list (.i .i64)))))) (.one (.agg (.cons (.k (.i .i64)) (.one (.k (.list (.i .i64))))))))
def HI (d:(Int×List Int)×Int×List Int):Prop:=d.1.2.length≤110∧d.2.2.length≤110
def UF (d:(Int×List Int)×Int×List Int):SV:=.tup [.lst 0,.val (.i .i64) (Zl d.1.1 d.1.2 d.2.1 d.2.2)]
def N8 (d:(Int×List Int)×Int×List Int):List OB:=[.lst 9 .st (Z2 d.1.1 d.1.2 d.2.1 d.2.2) ((Z2 d.1.1 d.1.2 d.2.1 d.2.2).isEmpty)]
def Uu:CSp:=Y_ Mh HI UF N8
def WX (hk:Int) (lw:List Int) (hd:Int) (rows:List Int):Prop :=
 (lw.length≤1000000)∧(((Jx hk lw) != (0:Int))=true →
  ((True∧(Jx hk lw)=Zl hk lw hd rows∧(([]:List SV)=[]))∧(((Z2 hk lw hd rows)=[]∧(Z2 hk lw hd rows).isEmpty=true)∧True))) ∧
 (((Jx hk lw) != (0:Int))=false →
  (rows.length≤1000000)∧(((QU hd rows) != (0:Int))=true →
   ((True∧(QU hd rows)=Zl hk lw hd rows∧(([]:List SV)=[]))∧(((Z2 hk lw hd rows)=[]∧(Z2 hk lw hd rows).isEmpty=true)∧True))) ∧
  (((QU hd rows) != (0:Int))=false →
   ((hd != hk)=true →
    ((True∧(4:Int)=Zl hk lw hd rows∧(([]:List SV)=[]))∧(((Z2 hk lw hd rows)=[]∧(Z2 hk lw hd rows).isEmpty=true)∧True))) ∧
   ((hd != hk)=false →
    ∃ (e4:Unit) (d40:(List (List UInt8))×Int),((True∧True∧rows=rows∧(lI rows)=(lI rows)∧(0:Int)=d40.2∧True)∧((hk=hk∧lw=lw∧(([]:List SV)=[]))∧(d40.1=[]∧(List.isEmpty d40.1)=true)∧True)) ∧
    LoopP (fun (d4:(List (List UInt8))×Int) (q4:((List (List UInt8))×Int)→Prop) =>
     ((decide (d4.2<(lI rows)))=true →
      (0≤d4.2)∧(d4.2<(List.length rows))∧(lw.length≤110∧0≤(gD rows d4.2 0)∧(gD rows d4.2 0)<9223372036854775808∧∀ x∈lw,0≤x∧x≤60)∧(((List.length d4.1)+(List.length [(ZM lw (gD rows d4.2 0))]))*16≤70368744177664)∧(I64 (d4.2+(1:Int)))∧(∃ d5:(List (List UInt8))×Int,((True∧True∧rows=rows∧(lI rows)=(lI rows)∧(d4.2+(1:Int))=d5.2∧True)∧((hk=hk∧lw=lw∧(([]:List SV)=[]))∧((d4.1++[(ZM lw (gD rows d4.2 0))])=d5.1∧false=(List.isEmpty d5.1))∧True))∧q4 d5)) ∧
     ((decide (d4.2<(lI rows)))=false →
      ((True∧(0:Int)=Zl hk lw hd rows∧(([]:List SV)=[]))∧((d4.1=(Z2 hk lw hd rows)∧(List.isEmpty d4.1)=(Z2 hk lw hd rows).isEmpty)∧True)))) d40)))
def Me:Cx:=⟨[(9,.st)],[(60,Uz),(43,YT),(61,X0)],43,[],0,[],[],[],[],false,[],[],[],[]⟩
def Pn (hk:Int) (lw:List Int) (hd:Int) (rows:List Int):List (Nat×LoopAnn):=[(1,⟨Unit,(List (List UInt8))×Int,[2,4,28,29,30],fun e x=>[.box 2 0,.lst 40,.val (.list (.i .i64)) rows,.val (.i .i64) (((List.length rows):Nat):Int),.val (.i .i64) x.2],fun e x=>[(2,.slot 2,.cells [.val (.i .i64) hk,.val (.list (.i .i64)) lw] (some 69)),(40,.slot 4,.lst 9 .st x.1 (List.isEmpty x.1))]⟩)]
set_option maxRecDepth 100000 in
theorem PO (d:(Int×List Int)×Int×List Int):gwp (Me) (Pn d.1.1 d.1.2 d.2.1 d.2.2) c25 0 (Ko [.tmp 4,.tmp 5] (UF d) (N8 d)) (QS 43 (AL.can Mh d))=WX d.1.1 d.1.2 d.2.1 d.2.2:=by kernel_rfl
abbrev Pv:Prop:=OkC Tryz.prog 25 Uu
theorem Py (h:∀ (hk:Int) (lw:List Int) (hd:Int) (rows:List Int),(lw.length≤110∧rows.length≤110)→WX hk lw hd rows):OkC Tryz.prog 25 Uu :=
 Z8 IS mixed (C:=Me) (V:=fun (d:(Int×List Int)×Int×List Int)=>WX d.1.1 d.1.2 d.2.1 d.2.2) ⟨(.cons Ph (.cons Dr (.cons Uh .nil))),XsOk.nil,ItsOk.nil,YlOk.nil,IysOk.nil,XfOk.nil⟩ (PO) fun d hp=>h d.1.1 d.1.2 d.2.1 d.2.2 hp
theorem H5 {hd:Int}{rows:List Int}(h:QU hd rows=0):1≤hd∧hd≤24∧rows.length≤60∧rows.length≠0∧∀ x∈rows,0≤x∧x<2 ^ hd.toNat:=by
 unfold QU at h;split at h
 ·cases h
 ·rename_i h1;split at h
  ·cases h
  ·rename_i h2;split at h
   ·cases h
   ·rename_i h3;split at h
    ·cases h
    ·rename_i h4;have h1:1≤hd∧hd≤24:=by simpa [inI] using h1
     refine⟨h1.1,h1.2,by omega,h3,fun x hx=>?_⟩;have h5:∀ x∈rows,inI x 0 (2 ^ hd.toNat-1)=true:=by simpa using h4
     have:=h5 x hx;simp only[inI,Bool.and_eq_true,decide_eq_true_eq] at this;omega
theorem PU:Pv:=Py fun hk lw hd rows h=>by
 obtain⟨h1,h2⟩:=h;unfold WX;(try delta lI gD sT I64);simp only[true_and,and_true,exists_const,decide_eq_true_eq,decide_eq_false_iff_not,bne_iff_ne,ne_eq,bne_eq_false_iff_eq,Zs];refine⟨by omega,fun he=>?_,fun he=>⟨by omega,fun hp=>?_,fun hp=>⟨fun hh=>?_,fun hh=>?_⟩⟩⟩
 ·have e:Zl hk lw hd rows=Jx hk lw:=by simp[Zl,he]
  have e2:Z2 hk lw hd rows=[]:=by simp[Z2,e,he]
  rw[e,e2];exact⟨rfl,rfl,rfl⟩
 ·have e:Zl hk lw hd rows=QU hd rows:=by simp[Zl,he,hp]
  have e2:Z2 hk lw hd rows=[]:=by simp[Z2,e,hp]
  rw[e,e2];exact⟨rfl,rfl,rfl⟩
 ·have e:Zl hk lw hd rows=4:=by simp[Zl,he,hp,hh]
  have e2:Z2 hk lw hd rows=[]:=by simp[Z2,e]
  rw[e,e2];exact⟨rfl,rfl,rfl⟩
 have e:Zl hk lw hd rows=0:=by unfold Zl;rw[if_neg (by omega),if_neg (by omega),if_neg (by omega)]
 have e2:Z2 hk lw hd rows=rows.map (ZM lw):=by simp[Z2,e]
 obtain⟨t1,t2,t3,t4,t5⟩:=TP he;obtain⟨p1,p2,p3,p4,p5⟩:=H5 hp;have iQ:=YG p1 p2;rw[e,e2];refine⟨([],0),⟨rfl,rfl,rfl⟩,?_⟩;refine LoopP.count2 rows.length (fun k xs=>xs=(rows.take k).map (ZM lw)) (by simp) fun k xs hk hJ q hq=>?_;have fI:xs.length=k:=by rw[hJ];simp;omega
 dsimp only;refine⟨fun ah=>?_,fun a7=>?_⟩
 ·have ah:k<rows.length:=by omega
  have hr:=p5 _ (List.getElem_mem ah);simp only[Int.toNat_natCast,QM ah,List.length_singleton];refine⟨by omega,by omega,⟨h1,hr.1,by omega,fun x hx=>by have:=t5 x hx;omega⟩,by omega,by omega,(xs++[ZM lw rows[k]],(k:Int)+1),⟨rfl,rfl,by simp⟩,hq _ ah ?_⟩;rw[QX ah,List.map_append,←hJ];rfl
 ·have:k=rows.length:=by omega
  subst this;rw[List.take_length] at hJ;rw[hJ];exact⟨rfl,rfl,rfl⟩
end Go.Proofs.Tryz
namespace Go.V
open Go
theorem Ak {P:Program}{σ:Heap}:Ret P σ (.val .bo true) [] (.bool true) σ :=
 ⟨⟨.refl _,Dead.refl _⟩,fun _=>rfl,X7,fun j b hj=>by simp at hj,fun j j' i hj=>by simp at hj,by simp[SR,KC]⟩
theorem RI {P:Program}{f:Nat}(h:∀ (σ:Heap) (K:Value→Heap→Prop),K (.bool true) σ→VCalled P f [] σ K):OkC P f (Y_ (.nil:AL Unit) (fun _=>True) (fun _=>.val .bo true) (fun _=>[])):=by
 intro ap fE σ args vs c v bs aD hs hv b7 hc;unfold Y_ at hs;split at hs
 ·rename_i d hd;obtain⟨rfl,rfl,rfl⟩:=(by simpa using hs:True=c∧SV.val .bo true=v∧[]=bs);have:vs=[]:=by
   cases args with
   |nil=>simpa [SRs] using aD
   |cons a l=>simp[AL.dec] at hd
  subst this;refine⟨h σ _ Ak,fun _ _=>h σ _ ⟨rfl,?_⟩⟩;unfold DG;cases σ;simp only[List.length_nil,Nat.add_zero,List.getElem?_nil,Option.bind_none,Heap.mk.injEq,and_true];funext i;split
  ·rfl
  ·rename_i wf hi;exact wf i (by simpa using hi)
 ·cases hs
end Go.V
namespace Go.V
open Go Go.ChangeShapes Go.WideShapes Go.RowKit Go.Deep Go.Joins
def Heap.RO (σ:Heap):Prop:=∀ i b,σ.get i=some b→b.wr=false
structure View (w:World) (ρ:Plc) (σ:Heap):Prop where
 rel:HRel ρ σ w
 ro:σ.RO
structure More (ρ:Plc) (σ:Heap) (ρ':Plc) (σ':Heap):Prop where
 n:σ.n≤σ'.n
 pl:∀ i,i<σ.n→∀ p,ρ' i=some p→ρ i=some p
 ag:Agree σ σ'
theorem More.refl (ρ:Plc) (σ:Heap):More ρ σ ρ σ:=⟨Nat.le_refl _,fun _ _ _ h=>h,Agree.refl _⟩
theorem More.trans {ρ ρ' dW:Plc}{σ σ' aK:Heap}(h:More ρ σ ρ' σ') (k:More ρ' σ' dW aK):More ρ σ dW aK :=
 ⟨Nat.le_trans h.n k.n,fun i hi p hp=>h.pl i hi p (k.pl i (Nat.lt_of_lt_of_le hi h.n) p hp),h.ag.trans k.ag h.n⟩
def Q24 (w:World):Prop:=∀ g cs,AG g=some cs→∃ e f,w.heap[g]?=some (.cells cs.toArray e f)
theorem View.emptyT (w:World) (ht:Q24 w):View w (fun _=>none) Heap.empty where
 rel:=⟨⟨fun i b h=>(by cases h),fun _ _=>rfl,fun i p h=>(by cases h),fun i j p q b _ h=>(by cases h)⟩,fun g cs hg=>⟨ht g cs hg,fun ⟨_,_,_,h,_⟩=>by cases h⟩⟩
 ro:=fun i b h=>by cases h
theorem View.add {w:World}{ρ:Plc}{σ:Heap}(h:View w ρ σ) (p:Pl) (c:List Value) {C:Array Value}{e:TypeId}{f:Nat×Nat}(hb:w.heap[p.blk]?=some (.cells C e f)) (hs:p.shift+p.ext≤C.size) (hl:c.length≤p.ext) (ht:e=p.esz.ty)
  (hc:∀ (k:Nat) (v:Value),c[k]?=some v→∃ u,w.cell? ⟨p.blk,p.shift+k,none⟩=some u∧VRel ρ σ.n v u) :
  View w (ρ.put σ.n (some p)) (σ.push (.cells c p.esz false p.tight))∧More ρ σ (ρ.put σ.n (some p)) (σ.push (.cells c p.esz false p.tight)):=by
 have aS:∀ i,i<σ.n→∀ q,(ρ.put σ.n (some p)) i=some q→ρ i=some q:=fun i hi q hq=>by unfold Plc.put at hq;rwa [if_neg (by omega)] at hq
 have bJ:(σ.push (.cells c p.esz false p.tight)).RO:=fun i b hi=>by
  by_cases e:i=σ.n
  ·subst e;rw[Heap.get_push_self] at hi;obtain rfl:=osj hi;rfl
  ·rw[Heap.get_push_ne _ _ e] at hi;exact h.ro i b hi
 refine⟨⟨⟨⟨?_,?_,?_,?_⟩,fun g cs hg=>⟨(h.rel.tab g cs hg).1,fun ⟨i,_,b,_,hi,hw,_⟩=>by rw[bJ i b hi] at hw;cases hw⟩⟩,bJ⟩,⟨by simp,aS,fun i hi=>Heap.get_push_lt _ _ hi⟩⟩
 ·intro i b hi;by_cases aL:i=σ.n
  ·subst aL;rw[Heap.get_push_self] at hi;obtain rfl:=osj hi;refine⟨p,by simp[Plc.put],rfl,rfl,hl,⟨C,e,f,hb,hs,ht⟩,fun k v hk=>?_,fun h=>by cases h⟩;obtain⟨u,hu,hv⟩:=hc k v hk;exact⟨u,hu,hv.mono (by simp) aS⟩
  ·rw[Heap.get_push_ne _ _ aL] at hi;obtain⟨q,hq,hB⟩:=h.rel.live i b hi;exact⟨q,by simp[Plc.put,aL,hq],hB.mono (by simp) aS rfl⟩
 ·intro i hi;by_cases aL:i=σ.n
  ·subst aL;rw[Heap.get_push_self] at hi;cases hi
  ·rw[Heap.get_push_ne _ _ aL] at hi;simp[Plc.put,aL,h.rel.dead i hi]
 ·intro i q hq;by_cases aL:i=σ.n
  ·subst aL;simp[Plc.put] at hq;subst hq;exact(Array.getElem?_eq_some_iff.1 hb).1
  ·simp[Plc.put,aL] at hq;exact h.rel.lt i q hq
 ·intro i j q r b _ _ _ bU hw _;rw[bJ i b bU] at hw;cases hw
theorem LI {P:Program}{fits:TypeId→Bool}{d:Nat}{e:TypeId}{count off n:Nat}(h:rowAt P fits d e count off n=true):off≤count*P.cellsOf e:=by
 cases d with
 |zero=>cases h
 |succ d =>
  unfold rowAt at h;by_cases hs:P.cellsOf e=0
  ·simp[hs] at h
  ·have d_:0<P.cellsOf e:=Nat.pos_of_ne_zero hs;simp only[hs,if_false,Bool.or_eq_true,Bool.and_eq_true,beq_iff_eq,decide_eq_true_eq] at h;have hd:=Nat.div_add_mod off (P.cellsOf e);have hm:=Nat.mod_lt off d_;rcases h with⟨⟨h1,h2⟩,_⟩|⟨h1,_⟩
   ·have:P.cellsOf e*(off / P.cellsOf e)≤P.cellsOf e*count:=Nat.mul_le_mul_left _ (by omega);rw[Nat.mul_comm count];omega
   ·have:P.cellsOf e*(off / P.cellsOf e+1)≤P.cellsOf e*count:=Nat.mul_le_mul_left _ (by omega);rw[Nat.mul_add] at this;rw[Nat.mul_comm count];omega
theorem BL {P:Program}:∀ {d:Nat}{e:TypeId}{count off:Nat}{u:TypeId}{n:Nat},liesAt P d e count off u n=true→off≤count*P.cellsOf e
 |0,_,_,_,_,_,h=>by cases h
 |d+1,e,count,off,u,n,h=>by
  unfold liesAt at h;rw[Bool.or_eq_true] at h;rcases h with h|h
  ·exact LI h
  ·split at h
   ·exact BL h
   ·cases h
theorem CL {P:Program}{w:World}{r:Reach}{base:Nat}{a:Addr}{e:TypeId}{n:Nat}(h:w.has P r base a e n):∃ C row f,w.heap[a.block]?=some (.cells C row f)∧a.off≤C.size∧a.spot=none:=by
 obtain⟨_,hs,row,cells,ec,hl⟩:=h;unfold World.shape? at ec;split at ec
 ·rename_i C e' f hb;obtain⟨rfl,rfl⟩:=(by simpa using ec:e'=row∧C.size=cells);exact⟨C,e',f,hb,Nat.le_trans (BL hl) (Nat.div_mul_le_self _ _),hs⟩
 ·cases ec
theorem T3 {P:Program}{w:World}{r:Reach}{base:Nat}{t e:TypeId}{v:Value}(ht:P.underlying t=some (.slice e)) (h:Cell.okWide P w r base t v) :
  v=.slice none 0 0∨∃ a len cap,v=.slice (some a) len cap∧w.has P r base a e cap:=by
 unfold Cell.okWide at h;rw[ht] at h;have h':Cell.ok P w r base t v:=by split at h<;>first|exact h|simp_all
 unfold Cell.ok at h';rw[ht] at h';split at h'<;>first|exact .inl rfl|(cases h';done)|skip
 all_goals first|(rename_i h1 h2;simp_all;done)|skip
 all_goals first|(simp_all;exact⟨_,_,_,⟨rfl,rfl,rfl⟩,h'.2.2⟩)|(simp_all)
theorem Ob {k:IntKind}{x:Int}(h:(Lit.int k x).wf=true):k.min≤x∧x≤k.max:=by simpa [Lit.wf] using h
theorem View.calls {P:Program}{f:FuncId}{w:World}{ρ:Plc}{σ:Heap}(h:View w ρ σ) {args:List Value}{aw:Array Value}(hl:LRel ρ σ.n args aw.toList) (hc:VCallsTo P f args σ fun v _=>v=.bool true) :
  Calls P f aw w fun e w'=>e=.returned (.bool true)∧Below w.heap.size w w':=by
 refine (hc ρ w aw h.rel hl).mono fun e w' ⟨c,he,v,ρ',σ',hv,hr,_,hx⟩=>?_;subst hv;have:c=.bool true:=by cases hr;rfl
 subst this;exact⟨he,hx.os,hx.tape,hx.output,hx.size,fun B hB=>hx.keep B hB fun ⟨i,p,b,_,hi,hw,_⟩=>by rw[h.ro i b hi] at hw;cases hw⟩
theorem N1 {H:Type}{enc:TypeId×Value→H}{P:Program}(hl:laidOutB P=true) {W W':World}{sp:Nat→Bool}(hb:Below W.heap.size W W') :
  ∀ {ts:List TypeId}{vs:List Value}{ds:List (DataW H)}{ps:List MemPlace},(∀ t∈ts,P.readableRec t=true∧t<P.types.size)→DataW.TrodAll enc P W 0 (fun _=>true) true ts vs ds ps→(∀ p∈ps,p.block<W.heap.size)→(∀ p∈ps,sp p.block=true) →
   DataW.TrodAll enc P W' 0 sp true ts vs ds ps
 |[],vs,ds,ps,_,h,_,_=>by obtain⟨rfl,rfl,rfl⟩:=trodAll_nil h;rfl
 |t::ts,vs,ds,ps,ht,h,ah,hs=>by
  obtain⟨v,cK,d,ds',p,q,rfl,rfl,rfl,h1,h2⟩:=trodAll_cons h;obtain⟨r1,r2⟩:=ht t (by simp);exact⟨p,q,WideElems.Trod_stays hl r1 r2 h1 (fun x hx=>hb.same (ah x (by simp[hx]))) (fun x hx=>hs x (by simp[hx])),
   N1 hl hb (fun t lj=>ht t (by simp[lj])) h2 (fun x hx=>ah x (by simp[hx])) (fun x hx=>hs x (by simp[hx])),rfl⟩
theorem CN {H:Type}{enc:TypeId×Value→H}{P:Program}{f:Func}{s:ChangeSpec}{apart fresh handsOn again:Bool}{W W':World}{args:Array Value}{ds gs:List (DataW H)}{before:List MemPlace}{tb:TypeId}
  (hl:laidOutB P=true) (hp:f.params.toList.all (fun t=>P.readableRec t&&decide (t<P.types.size))=true) (jM:s.vars=[]) (hr:f.resultTypes=#[tb]) (bh:P.underlying tb=some .bool) (hs:s.fn H ds={results:=[.lit (.bool true)],args:=ds})
  (hW:DataW.Whole enc P f.params.toList s.vars apart W args.toList ds gs before) (hb:Below W.heap.size W W'):s.post enc P f apart fresh handsOn again W args (.bool true) W':=by
 have ah:∀ p∈before,p.block<W.heap.size:=fun p hp=>hW.lt p hp;have uB:=hW;obtain⟨p,q,hA,hV,rfl,hz,hn⟩:=hW;rw[jM] at hV;obtain⟨rfl,rfl⟩:=trodVars_none hV;have bj:∀ t∈f.params.toList,P.readableRec t=true∧t<P.types.size:=fun t ht=>by have:=List.all_eq_true.1 hp t ht;simpa using this
 have eo:s.fn H (ds++[])={results:=[.lit (.bool true)],args:=ds}:=by rw[List.append_nil];exact hs
 have eU:∀ (b:Nat) (sp:Nat→Bool) (hd:Bool),DataW.TrodAll enc P W' b sp hd f.resultTypes.toList ((Value.bool true).resultList f.resultTypes.size) (s.fn H (ds++[])).results []:=fun b sp hd=>by rw[eo,hr];exact trodAll_mk1 (shut_bool bh _)
 have aD:∀ sp:Nat→Bool,(∀ x∈p++[],sp x.block=true)→DataW.TrodAll enc P W' 0 sp true f.params.toList args.toList (s.fn H (ds++[])).args p:=fun sp ew=>by rw[eo];exact N1 hl hb bj hA (fun x hx=>ah x (by simp[hx])) (fun x hx=>ew x (by simp[hx]))
 have cm:∀ sp:Nat→Bool,DataW.TrodVars enc P W' sp s.vars (s.fn H (ds++[])).vars []:=fun sp=>by rw[eo,jM];rfl
 have hold:∀ x∈p++[],(fun b=>decide (b<W.heap.size)) x.block=true:=fun x hx=>by simpa using ah x hx
 refine⟨ds,[],p++[],[],p,[],uB,eU _ _ _,aD _ hold,cm _,World.keptBut_mono (fun x hx=>⟨hx,?_⟩) (hb.frame (·∈p++[])),fun _=>?_⟩
 ·exact .inr (by simpa using hx)
 ·refine⟨ok_one hr rfl (okWide_bool_mk bh _),_,_,([]++p)++[],⟨[]++p,[],trodAll_append (aD _ (fun _ _=>rfl)) (eU _ _ _),cm _,rfl,?_,?_⟩,?_⟩
  ·intro b off hx;have aL:MemPlace.cell b off∈p++[]:=by simpa using hx
   rw[hb.frozen (ah _ aL)];exact hz b off aL
  ·intro ha;simpa using hn ha
  ·intro x hx _;simpa using hx
end Go.V
namespace Go.V
open Go Go.ChangeShapes Go.WideShapes Go.RowKit Go.Deep Go.Joins
def KFs (T:Kind→TypeId→Bool) (sz:TypeId→Nat):Kind→List (TypeId×Nat)→Nat→Bool
 |_,[],_=>false
 |k,[p],off=>p.2==off&&(sz p.1==k.size&&T k p.1)
 |.pair a b,p::q::r,off=>p.2==off&&(sz p.1==a.size&&(T a p.1&&KFs T sz b (q::r) (off+a.size)))
 |_,_::_::_,_=>false
def KTy (P:Program):Nat→Kind→TypeId→Bool
 |0,_,_=>false
 |n+1,k,t=>match P.underlying t with
  |some (.struct fs)=>P.cellsOf t==k.size&&KFs (KTy P n) P.cellsOf k (fs.toList.map fun f=>(f.type,f.offset)) 0
  |some (.array m e)=>P.cellsOf t==k.size&&KFs (KTy P n) P.cellsOf k ((List.range m).map fun i=>(e,i*P.cellsOf e)) 0
  |some (.int ik)=>(match k with|.i k'=>decide (k'=ik)|_=>false)
  |some .bool=>(match k with|.bo=>true|_=>false)
  |some .string=>(match k with|.st=>true|_=>false)
  |some (.slice e)=>(match k with|.list k'=>P.cellsOf e==k'.size&&(k'.flat&&KTy P n k' e)|_=>false)
  |_=>false
def KWf:(k:Kind)→k.T→Prop
 |.i ik,x=>InK ik x
 |.bo,_=>True
 |.st,s=>s.length≤maxLen
 |.list k,l=>l.length≤maxLen∧∀ x∈l,KWf k x
 |.pair a b,x=>KWf a x.1∧KWf b x.2
theorem More.le {ρ ρ':Plc}{σ σ':Heap}(h:More ρ σ ρ' σ'):σ.Le σ':=⟨h.n,fun i b hb=>by rw[h.ag i (σ.lt hb)];exact hb⟩
def ArgIs (w:World) (ρ:Plc) (σ:Heap) (k:Kind) (cs:List Value):Prop :=
 ∃ ρ' σ' vs x,View w ρ' σ'∧More ρ σ ρ' σ'∧LRel ρ' σ'.n vs cs∧KC σ' k x vs∧KWf k x
theorem ArgIs.pair {w:World}{ρ:Plc}{σ:Heap}{a b:Kind}{cs ds:List Value}(h1:ArgIs w ρ σ a cs) (h2:∀ ρ σ,View w ρ σ→ArgIs w ρ σ b ds):ArgIs w ρ σ (.pair a b) (cs++ds):=by obtain⟨ρ1,σ1,rL,x1,k1,k2,k3,k4,k5⟩:=h1;obtain⟨ρ2,σ2,jF,x2,m1,m2,m3,m4,m5⟩:=h2 ρ1 σ1 k1;exact⟨ρ2,σ2,rL++jF,(x1,x2),m1,k2.trans m2,(k3.mono m2.n m2.pl).append m3,⟨rL,jF,rfl,k4.mono m2.le,m4⟩,k5,m5⟩
section
variable {H:Type}{enc:TypeId×Value→H}{P:Program}{w:World}{r:Reach}{base:Nat}
def okc (P:Program) (w:World) (r:Reach) (base:Nat) (ts:List TypeId) (cs:List Value):Prop:=∀ (i:Nat) v u,cs[i]?=some v→ts[i]?=some u→Cell.okWide P w r base u v
theorem Ra {T:Kind→TypeId→Bool}{sz:TypeId→Nat}{g:TypeId→Option (List TypeId)}(hT:∀ k t ts,T k t=true→g t=some ts→ts.length=k.size) :
  ∀ {k:Kind}{L:List (TypeId×Nat)}{off:Nat}{gp:List (List TypeId)},KFs T sz k L off=true→L.mapM (fun p=>g p.1)=some gp→gp.flatten.length=k.size
 |k,[],_,_,h,_=>by simp[KFs] at h
 |k,[p],off,gp,h,hm=>by
  simp only[KFs,Bool.and_eq_true] at h;cases hg:g p.1 with
  |none=>simp[hg] at hm
  |some ts =>simp[hg] at hm;subst hm;simpa using hT _ _ _ h.2.2 hg
 |.pair a b,p::q::r,off,gp,h,hm=>by
  simp only[KFs,Bool.and_eq_true] at h;rw[List.mapM_cons] at hm;cases hg:g p.1 with
  |none=>simp[hg] at hm
  |some ts =>
   cases hr:(q::r).mapM (fun p=>g p.1) with
   |none=>simp[hg,hr] at hm
   |some tr =>simp[hg,hr] at hm;subst hm;have:=Ra hT h.2.2.2 hr;simp only[List.flatten_cons,List.length_append,this,hT _ _ _ h.2.2.1 hg,Kind.size]
 |.i _,_::_::_,_,_,h,_|.bo,_::_::_,_,_,h,_|.st,_::_::_,_,_,h,_|.list _,_::_::_,_,_,h,_=>by cases h
theorem US {α β γ:Type}{f:α→β}{g:β→Option γ}:∀ (l:List α),(l.map f).mapM g=l.mapM (fun x=>g (f x))
 |[]=>rfl
 |a::l=>by simp only[List.map_cons,List.mapM_cons,US l]
theorem NT {β:Type}{x:β}{f:Nat→Option β}(h:∀ i,f i=some x):∀ l:List Nat,l.mapM f=some (List.replicate l.length x)
 |[]=>rfl
 |a::l=>by simp[List.mapM_cons,h,NT h l,List.replicate_succ]
theorem Tt:∀ {n:Nat}{k:Kind}{t:TypeId}{d:Nat}{ts:List TypeId},KTy P n k t=true→P.cellTypes d t=some ts→ts.length=k.size
 |0,_,_,_,_,h,_=>by cases h
 |_+1,_,_,0,_,_,h=>by cases h
 |n+1,k,t,d+1,ts,h,ht=>by
  have ih:∀ k t ts,KTy P n k t=true→P.cellTypes d t=some ts→ts.length=k.size:=fun k t ts h1 h2=>Tt h1 h2;unfold Program.cellTypes at ht;unfold KTy at h;cases hu:P.underlying t with
  |none=>rw[hu] at h;cases h
  |some u =>
   rw[hu] at h ht;cases u<;>first|(cases h;done)|skip
   all_goals simp only at h ht
   ·split at h<;>first|(cases h;done)|(obtain rfl:=osj ht;rfl)
   ·split at h<;>first|(cases h;done)|(obtain rfl:=osj ht;rfl)
   ·split at h<;>first|(cases h;done)|(obtain rfl:=osj ht;rfl)
   ·split at h<;>first|(cases h;done)|(obtain rfl:=osj ht;rfl)
   ·rename_i m e;rw[Bool.and_eq_true] at h;cases hc:P.cellTypes d e with
    |none=>rw[hc] at ht;cases ht
    |some te =>rw[hc] at ht;obtain rfl:=osj ht;refine Ra (g:=fun t=>P.cellTypes d t) ih h.2 ?_;rw[US,NT (x:=te) (fun _=>hc)];simp
   ·rename_i fs;rw[Bool.and_eq_true] at h;cases hc:fs.toList.mapM fun f=>P.cellTypes d f.type with
    |none=>rw[hc] at ht;cases ht
    |some gp =>rw[hc] at ht;obtain rfl:=osj ht;refine Ra (g:=fun t=>P.cellTypes d t) ih h.2 ?_;rw[US];exact hc
theorem Nd {T:Kind→TypeId→Bool}{sz:TypeId→Nat}{Q:TypeId→List Value→Prop}{R:Kind→List Value→Prop}(hT:∀ k t cs,T k t=true→Q t cs→R k cs) (hR:∀ a b cs ds,R a cs→R b ds→R (.pair a b) (cs++ds)) (cs:List Value) :
  ∀ {k:Kind}{L:List (TypeId×Nat)}{off:Nat},KFs T sz k L off=true→(∀ p∈L,Q p.1 ((cs.drop p.2).take (sz p.1)))→R k ((cs.drop off).take k.size)
 |k,[],_,h,_=>by simp[KFs] at h
 |k,[p],off,h,hq=>by simp only[KFs,Bool.and_eq_true,beq_iff_eq] at h;have:=hq p (by simp);rw[h.1,h.2.1] at this;exact hT _ _ _ h.2.2 this
 |.pair a b,p::q::r,off,h,hq=>by
  simp only[KFs,Bool.and_eq_true,beq_iff_eq] at h;have h1:=hq p (by simp);rw[h.1,h.2.1] at h1;have h2:=Nd hT hR cs h.2.2.2 fun x hx=>hq x (List.mem_cons_of_mem _ hx);have e:(cs.drop off).take (Kind.pair a b).size=(cs.drop off).take a.size++(cs.drop (off+a.size)).take b.size:=by rw[Kind.size,List.take_add,List.drop_drop]
  rw[e];exact hR _ _ _ _ (hT _ _ _ h.2.2.1 h1) h2
 |.i _,_::_::_,_,h,_|.bo,_::_::_,_,h,_|.st,_::_::_,_,h,_|.list _,_::_::_,_,h,_=>by cases h
def FlatIs (k:Kind) (cs:List Value):Prop:=∃ y:k.T,(∀ h,KC h k y cs)∧KWf k y∧∀ ρ m,LRel ρ m cs cs
theorem FlatIs.pair {a b:Kind}{cs ds:List Value}(h1:FlatIs a cs) (h2:FlatIs b ds):FlatIs (.pair a b) (cs++ds):=by obtain⟨x,k1,k2,k3⟩:=h1;obtain⟨y,m1,m2,m3⟩:=h2;exact⟨(x,y),fun h=>⟨cs,ds,rfl,k1 h,m1 h⟩,⟨k2,m2⟩,fun ρ m=>(k3 ρ m).append (m3 ρ m)⟩
theorem LRel.one {ρ:Plc}{n:Nat}{v c:Value}(h:VRel ρ n v c):LRel ρ n [v] [c]:=.cons h (.nil _ _)
theorem UI {fs:Array Field}{f:Field}(h:f∈fs.toList):∃ i:Nat,fs[i]?=some f:=by obtain⟨i,hi,rfl⟩:=List.mem_iff_getElem.1 h;exact⟨i,by simp at hi;simp[hi]⟩
theorem BP {sp:Nat→Bool}{held:Bool}:∀ {n:Nat}{k:Kind}{t:TypeId}{fuel:Nat}{cs:List Value}{x:DataW H×List MemPlace},KTy P n k t=true→k.flat=true→DataW.trod enc P w base sp held fuel t cs=some x→FlatIs k cs
 |0,_,_,_,_,_,h,_,_=>by cases h
 |n+1,k,t,fuel,cs,x,h,hf,hx=>by
  unfold KTy at h;cases hu:P.underlying t with
  |none=>rw[hu] at h;cases h
  |some u =>
   rw[hu] at h;have hR:∀ a b cs ds,((a.flat=true→FlatIs a cs)∧True)→((b.flat=true→FlatIs b ds)∧True)→(((Kind.pair a b).flat=true→FlatIs (.pair a b) (cs++ds))∧True):=fun a b cs ds h1 h2=>⟨fun hf=>by
    simp only[Kind.flat,Bool.and_eq_true] at hf;exact(h1.1 hf.1).pair (h2.1 hf.2),trivial⟩
   have hT:∀ k t cs,KTy P n k t=true→(∃ fuel x,DataW.trod enc P w base sp held fuel t cs=some x)→((k.flat=true→FlatIs k cs)∧True):=fun k t cs h1 ⟨fuel,x,h2⟩=>⟨fun hf=>BP h1 hf h2,trivial⟩;cases u<;>first|(cases h;done)|skip
   all_goals simp only at h
   ·split at h<;>first|(cases h;done)|skip
    obtain⟨b,rfl,_⟩:=DataW.trod_bool hu hx;exact⟨b,fun _=>rfl,trivial,fun _ _=>.one (.bool _)⟩
   ·split at h<;>first|(cases h;done)|skip
    obtain rfl:=of_decide_eq_true h;obtain⟨z,rfl,_,hw⟩:=DataW.trod_int hu hx;exact⟨z,fun _=>rfl,Ob hw,fun _ _=>.one (.int _ _)⟩
   ·split at h<;>first|(cases h;done)|skip
    obtain⟨s,rfl,_,hs⟩:=DataW.trod_string hu hx;exact⟨s.data.toList,fun _=>rfl,hs,fun _ _=>.one (.string _)⟩
   ·split at h<;>first|(cases h;done)|(cases hf;done)
   ·rename_i m e;simp only[Bool.and_eq_true,beq_iff_eq] at h;obtain⟨xs,m',_,_,hl,fI,hx⟩:=DataW.trod_array hu hx;have:=(Nd (R:=fun k cs=>(k.flat=true→FlatIs k cs)∧True) hT hR cs h.2 fun p hp=>by
     simp only[List.mem_map,List.mem_range] at hp;obtain⟨i,hi,rfl⟩:=hp;have:=hx i hi;rw[List.getElem?_eq_getElem (by omega)] at this;exact⟨_,_,this⟩).1 hf
    rwa [List.drop_zero,List.take_of_length_le (by omega)] at this
   ·rename_i fs;simp only[Bool.and_eq_true,beq_iff_eq] at h;obtain⟨xs,m',_,_,hl,fI,hx⟩:=DataW.trod_struct hu hx;have:=(Nd (R:=fun k cs=>(k.flat=true→FlatIs k cs)∧True) hT hR cs h.2 fun p hp=>by
     simp only[List.mem_map] at hp;obtain⟨f,ki,rfl⟩:=hp;obtain⟨i,hi⟩:=UI ki;have:=hx i f hi;have gB:i<fs.size:=(Array.getElem?_eq_some_iff.1 hi).1;rw[List.getElem?_eq_getElem (by omega)] at this;exact⟨_,_,this⟩).1 hf
    rwa [List.drop_zero,List.take_of_length_le (by omega)] at this
theorem Rows.range {α:Type}{R:α→List Value→Prop}{n:Nat}{c:List Value}{x:Nat→α}:∀ (m:Nat),(∀ i,i<m→R (x i) ((c.drop (i*n)).take n))→Rows R ((List.range m).map x) (c.take (m*n))
 |0,_=>by simp;exact .nil
 |m+1,h=>by
  have e:c.take ((m+1)*n)=c.take (m*n)++(c.drop (m*n)).take n:=by rw[Nat.add_mul,Nat.one_mul,List.take_add]
  rw[List.range_succ,List.map_append,e];exact(Rows.range m fun i hi=>h i (by omega)).append (by simpa using Rows.cons (h m (by omega)) .nil)
theorem PM {α:Type}[Inhabited α] {m:Nat}{p:Nat→α→Prop}(h:∀ i,i<m→∃ x,p i x):∃ f:Nat→α,∀ i,i<m→p i (f i) :=
 ⟨fun i=>if hi:i<m then (h i hi).choose else default,fun i hi=>by simp only[hi,dif_pos];exact(h i hi).choose_spec⟩
instance KInh (k:Kind):Inhabited k.T:=⟨k.dflt⟩
theorem View.list {ρ:Plc}{σ:Heap}(h:View w ρ σ) {n:Nat}{k:Kind}{t e:TypeId}{fuel:Nat}{cs:List Value}{x:DataW H×List MemPlace}(hu:P.underlying t=some (.slice e)) (hs:P.cellsOf e=k.size) (hf:k.flat=true) (hk:KTy P n k e=true)
  (hx:DataW.trod enc P w 0 (fun _=>true) true fuel t cs=some x) (aj:okc P w r base [t] cs):ArgIs w ρ σ (.list k) cs:=by
 rcases open_slice hu hx with⟨rfl,_⟩|⟨a,len,cap,m,fu,D,Pl,rfl,hb,hl,hm,iP,_,hel⟩
 ·exact⟨ρ,σ,[.slice none 0 0],[],h,More.refl _ _,.one .nilSl,⟨_,rfl,.inl ⟨rfl,rfl⟩⟩,by simp[maxLen],fun _ hx=>by cases hx⟩
 simp only[if_true] at iP;subst iP;rw[hs] at hel;have qc:w.has P r base a e m:=by
  rcases T3 hu (aj 0 _ t rfl rfl) with hh|⟨a',uC,aq,hh,h2⟩
  ·cases hh
  ·cases hh;exact h2
 obtain⟨C,row,f,aE,bP,ew⟩:=CL qc;obtain⟨blk,off,spot⟩:=a;simp only at aE bP ew;subst ew;have j8:∀ i,(⟨blk,off,none⟩:Addr).add i=⟨blk,off+i,none⟩:=fun i=>by unfold Addr.add;split<;>simp_all
 obtain⟨X,hX⟩:=PM (α:=k.T×List Value) (m:=m) (p:=fun i p=>p.2.length=k.size∧(∀ j,j<k.size→w.cell? ⟨blk,off+i*k.size+j,none⟩=p.2[j]?)∧(∀ h,KC h k p.1 p.2)∧KWf k p.1∧∀ ρ m,LRel ρ m p.2 p.2) fun i hi=>by
  obtain⟨cs',h1,h2⟩:=hel i hi;obtain⟨_,k1,k2⟩:=World.cells?_some h1;obtain⟨y,m1,m2,m3⟩:=BP hk hf h2;refine⟨(y,cs'),k1,fun j hj=>?_,m1,m2,m3⟩;have:=k2 j hj;rw[j8] at this;have e2:(⟨blk,off+i*k.size,none⟩:Addr).add j=⟨blk,off+i*k.size+j,none⟩:=by unfold Addr.add;split<;>simp_all
  rw[e2] at this;exact this
 have d_:=k.size_pos;let c:List Value:=(List.range (m*k.size)).map fun j=>((X (j / k.size)).2[j % k.size]?).getD undef;have cC:c.length=m*k.size:=by simp[c]
 have hdiv:∀ j,j<m*k.size→j / k.size<m:=fun j hj=>Nat.div_lt_of_lt_mul (by rw[Nat.mul_comm];exact hj);have bq:∀ j,j<m*k.size→∃ v,c[j]?=some v∧w.cell? ⟨blk,off+j,none⟩=some v∧∀ ρ m,VRel ρ m v v:=fun j hj=>by
  have h1:=hX (j / k.size) (hdiv j hj);have fx:j % k.size<k.size:=Nat.mod_lt _ d_;have h2:=h1.2.1 _ fx;have e:off+j / k.size*k.size+j % k.size=off+j:=by rw[Nat.add_assoc,Nat.div_add_mod']
  rw[e] at h2;have h3:j % k.size<(X (j / k.size)).2.length:=by rw[h1.1];exact fx
  refine⟨(X (j / k.size)).2[j % k.size],?_,?_,fun ρ m=>(h1.2.2.2.2 ρ m).2 _ _ _ (List.getElem?_eq_getElem h3) (List.getElem?_eq_getElem h3)⟩
  ·simp only[c,List.getElem?_map,List.getElem?_range hj,Option.map_some,List.getElem?_eq_getElem h3,Option.getD_some]
  ·rw[h2,List.getElem?_eq_getElem h3]
 have qd:∀ i,i<m→(c.drop (i*k.size)).take k.size=(X i).2:=fun i hi=>by
  have h1:=hX i hi;have hle:i*k.size+k.size≤m*k.size:=by have:(i+1)*k.size≤m*k.size:=Nat.mul_le_mul_right _ hi;rw[Nat.add_mul] at this;omega
  apply List.ext_getElem?;intro j;by_cases hj:j<k.size
  ·rw[List.getElem?_take_of_lt hj,List.getElem?_drop];have dL:i*k.size+j<m*k.size:=by omega
   have e1:(i*k.size+j) / k.size=i:=by rw[Nat.mul_comm,Nat.mul_add_div d_,Nat.div_eq_of_lt hj,Nat.add_zero]
   have e2:(i*k.size+j) % k.size=j:=by rw[Nat.mul_comm,Nat.mul_add_mod,Nat.mod_eq_of_lt hj]
   have h3:j<(X i).2.length:=by rw[h1.1];exact hj
   simp only[c,List.getElem?_map,List.getElem?_range dL,Option.map_some,e1,e2,List.getElem?_eq_getElem h3,Option.getD_some]
  ·rw[List.getElem?_eq_none (by simp;omega),List.getElem?_eq_none (by omega)]
 have aB:off+m*k.size≤C.size:=by
  rcases Nat.eq_zero_or_pos (m*k.size) with h0|h0
  ·omega
  ·obtain⟨v,_,h2,_⟩:=bq (m*k.size-1) (by omega);unfold World.cell? at h2;simp only[aE] at h2;have:=(Array.getElem?_eq_some_iff.1 (by simpa using h2)).1;omega
 obtain⟨hv,uD⟩:=h.add ⟨blk,off,m*k.size,⟨k.size,row⟩,false⟩ c aE aB (by simp[cC]) rfl (fun j v hj=>by
  have bZ:j<m*k.size:=by rw[←cC];exact(List.getElem?_eq_some_iff.1 hj).1
  obtain⟨v',h1,h2,h3⟩:=bq j bZ;obtain rfl:=osj (hj.symm.trans h1);exact⟨v,h2,h3 _ _⟩)
 have hlen:((List.range len).map fun i=>(X i).1).length=len:=by simp
 refine⟨_,_,[.slice (some ⟨σ.n,0,none⟩) len m],(List.range len).map fun i=>(X i).1,hv,uD,.one ?_,⟨_,rfl,.inr ⟨σ.n,0,m,c,⟨k.size,row⟩,false,false,by rw[hlen],by rw[hlen];exact hl,Heap.get_push_self _ _,rfl,?_,?_⟩⟩,?_,fun y hy=>?_⟩
 ·refine .sl _ _ _ _ _ _ (by simp) fun p hp=>?_;simp[Plc.put] at hp;subst hp;exact⟨Nat.le_refl _,(fun h=>by cases h),0,by simp,by simp,.inl rfl⟩
 ·rw[hlen,cC,Nat.zero_add];exact Nat.mul_le_mul_right _ hl
 ·rw[hlen,List.drop_zero];refine Rows.range len fun i hi=>?_;rw[qd i (by omega)];exact(hX i (by omega)).2.2.1 _
 ·rw[hlen];exact Nat.le_trans hl hm
 ·obtain⟨i,hi,rfl⟩:=List.mem_map.1 hy;exact(hX i (by have:=List.mem_range.1 hi;omega)).2.2.2.1
def Kind.lev1:Kind→Bool
 |.list k=>k.flat
 |.pair a b=>a.lev1&&b.lev1
 |_=>true
theorem Rm {ts:List TypeId}{cs:List Value}(h:okc P w r base ts cs) (o n:Nat):okc P w r base ((ts.drop o).take n) ((cs.drop o).take n):=fun i v u h1 h2=>by
 have hi:i<n:=by have:=(List.getElem?_eq_some_iff.1 h1).1;rw[List.length_take] at this;omega
 rw[List.getElem?_take_of_lt hi,List.getElem?_drop] at h1 h2;exact h _ v u h1 h2
theorem Gy {T:Kind→TypeId→Bool}{sz:TypeId→Nat}{g:TypeId→Option (List TypeId)}(hT:∀ k t ts,T k t=true→g t=some ts→ts.length=k.size) :
  ∀ {k:Kind}{L:List (TypeId×Nat)}{off:Nat}{gp:List (List TypeId)},KFs T sz k L off=true→L.mapM (fun p=>g p.1)=some gp→∀ p∈L,off≤p.2∧g p.1=some ((gp.flatten.drop (p.2-off)).take (sz p.1))
 |k,[],_,_,h,_=>by simp[KFs] at h
 |k,[p],off,gp,h,hm=>by
  simp only[KFs,Bool.and_eq_true,beq_iff_eq] at h;intro p' hp;obtain rfl:=List.mem_singleton.1 hp;cases hg:g p'.1 with
  |none=>simp[hg] at hm
  |some ts =>
   simp[hg] at hm;subst hm;refine⟨by omega,?_⟩;rw[h.1,Nat.sub_self,List.drop_zero,h.2.1,List.take_of_length_le]
   ·simp
   ·simp[hT _ _ _ h.2.2 hg]
 |.pair a b,p::q::r,off,gp,h,hm=>by
  simp only[KFs,Bool.and_eq_true,beq_iff_eq] at h;rw[List.mapM_cons] at hm;intro p' hp;cases hg:g p.1 with
  |none=>simp[hg] at hm
  |some ts =>
   cases hr:(q::r).mapM (fun p=>g p.1) with
   |none=>simp[hg,hr] at hm
   |some tr =>
    simp[hg,hr] at hm;subst hm;have hlen:=hT _ _ _ h.2.2.1 hg;rcases List.mem_cons.1 hp with rfl|hp
    ·refine⟨by omega,?_⟩;rw[hg,h.1,Nat.sub_self,List.drop_zero,h.2.1,List.flatten_cons,List.take_append,←hlen,Nat.sub_self,List.take_zero,List.append_nil,List.take_length]
    ·obtain⟨h1,h2⟩:=Gy hT h.2.2.2 hr p' hp;refine⟨by omega,?_⟩;have e1:ts.drop (p'.2-off)=[]:=List.drop_eq_nil_of_le (by omega);have e2:p'.2-off-a.size=p'.2-(off+a.size):=by omega
     rw[h2,List.flatten_cons,List.drop_append,hlen,e1,e2,List.nil_append]
 |.i _,_::_::_,_,_,h,_|.bo,_::_::_,_,_,h,_|.st,_::_::_,_,_,h,_|.list _,_::_::_,_,_,h,_=>by cases h
theorem H8:∀ {n:Nat}{k:Kind}{t:TypeId}{d:Nat}{ts:List TypeId}{fuel:Nat}{cs:List Value}{x:DataW H×List MemPlace},KTy P n k t=true→k.lev1=true→P.cellTypes d t=some ts→okc P w r base ts cs→DataW.trod enc P w 0 (fun _=>true) true fuel t cs=some x→∀ ρ σ,View w ρ σ→ArgIs w ρ σ k cs
 |0,_,_,_,_,_,_,_,h,_,_,_,_=>by cases h
 |_+1,_,_,0,_,_,_,_,_,_,h,_,_=>by cases h
 |n+1,k,t,d+1,ts,fuel,cs,x,h,hf,ez,aj,hx=>by
  intro ρ σ hv;by_cases fS:k.flat=true
  ·obtain⟨y,h1,h2,h3⟩:=BP h fS hx;exact⟨ρ,σ,cs,y,hv,More.refl _ _,h3 _ _,h1 _,h2⟩
  unfold KTy at h;cases hu:P.underlying t with
  |none=>rw[hu] at h;cases h
  |some u =>
   rw[hu] at h;let Q:TypeId→List Value→Prop:=fun t cs=>(∃ fuel x,DataW.trod enc P w 0 (fun _=>true) true fuel t cs=some x)∧∃ ts,P.cellTypes d t=some ts∧okc P w r base ts cs;let R:Kind→List Value→Prop:=fun k cs=>k.lev1=true→∀ ρ σ,View w ρ σ→ArgIs w ρ σ k cs;have hR:∀ a b cs ds,R a cs→R b ds→R (.pair a b) (cs++ds):=fun a b cs ds h1 h2 hl ρ σ hv=>by simp only[Kind.lev1,Bool.and_eq_true] at hl;exact(h1 hl.1 ρ σ hv).pair fun ρ σ hv=>h2 hl.2 ρ σ hv
   have hT:∀ k t cs,KTy P n k t=true→Q t cs→R k cs:=fun k t cs h1 ⟨⟨fuel,x,h2⟩,ts,h3,h4⟩ hl=>H8 h1 hl h3 h4 h2;have hlen:∀ k t ts,KTy P n k t=true→P.cellTypes d t=some ts→ts.length=k.size:=fun k t ts h1 h2=>Tt h1 h2;unfold Program.cellTypes at ez;rw[hu] at ez;cases u<;>first|(cases h;done)|skip
   all_goals simp only at h
   ·split at h<;>first|(cases h;done)|(exact absurd rfl fS)
   ·split at h<;>first|(cases h;done)|(exact absurd rfl fS)
   ·split at h<;>first|(cases h;done)|(exact absurd rfl fS)
   ·rename_i e;split at h<;>first|(cases h;done)|skip
    simp only[Bool.and_eq_true,beq_iff_eq] at h;simp only[Option.some.injEq] at ez;subst ez;exact hv.list hu h.1 h.2.1 h.2.2 hx aj
   ·rename_i m e;simp only[Bool.and_eq_true,beq_iff_eq] at h;obtain⟨xs,m',_,_,hl,fI,hx⟩:=DataW.trod_array hu hx;simp only at ez;cases hc:P.cellTypes d e with
    |none=>rw[hc] at ez;cases ez
    |some te =>
     rw[hc] at ez;obtain rfl:=osj ez;have mC:((List.range m).map fun i=>(e,i*P.cellsOf e)).mapM (fun p:TypeId×Nat=>P.cellTypes d p.1)=some (List.replicate m te):=by rw[US,NT (x:=te) (fun _=>hc)];simp
     have:=Nd (Q:=Q) (R:=R) hT hR cs h.2 (fun p hp=>by
      have hU:=Gy (g:=fun t=>P.cellTypes d t) hlen h.2 mC p hp;simp only[List.mem_map,List.mem_range] at hp;obtain⟨i,hi,rfl⟩:=hp;have:=hx i hi;rw[List.getElem?_eq_getElem (by omega)] at this;exact⟨⟨_,_,this⟩,_,hU.2,Rm aj _ _⟩) hf ρ σ hv
     rwa [List.drop_zero,List.take_of_length_le (by omega)] at this
   ·rename_i fs;simp only[Bool.and_eq_true,beq_iff_eq] at h;obtain⟨xs,m',_,_,hl,fI,hx⟩:=DataW.trod_struct hu hx;simp only at ez;cases hc:fs.toList.mapM fun f=>P.cellTypes d f.type with
    |none=>rw[hc] at ez;cases ez
    |some gp =>
     rw[hc] at ez;obtain rfl:=osj ez;have mC:(fs.toList.map fun f=>(f.type,f.offset)).mapM (fun p:TypeId×Nat=>P.cellTypes d p.1)=some gp:=by rw[US];exact hc
     have:=Nd (Q:=Q) (R:=R) hT hR cs h.2 (fun p hp=>by
      have hU:=Gy (g:=fun t=>P.cellTypes d t) hlen h.2 mC p hp;simp only[List.mem_map] at hp;obtain⟨f,ki,rfl⟩:=hp;obtain⟨i,hi⟩:=UI ki;have:=hx i f hi;have gB:i<fs.size:=(Array.getElem?_eq_some_iff.1 hi).1;rw[List.getElem?_eq_getElem (by omega)] at this;exact⟨⟨_,_,this⟩,_,hU.2,Rm aj _ _⟩) hf ρ σ hv
     rwa [List.drop_zero,List.take_of_length_le (by omega)] at this
def isAgg (P:Program) (t:TypeId):Bool:=match P.underlying t with
 |some (.struct _)=>true
 |some (.array _ _)=>true
 |_=>false
theorem View.arg {ρ:Plc}{σ:Heap}(h:View w ρ σ) {n:Nat}{k:Kind}{t:TypeId}{v:Value}{d:DataW H}{p:List MemPlace}(hk:KTy P n k t=true) (hl:k.lev1=true) (ha:isAgg P t=!k.one) (aj:Value.okWide P w r base t v) (hd:DataW.Trod enc P w 0 (fun _=>true) true t v d p) :
  ∃ ρ' σ' vv x,View w ρ' σ'∧More ρ σ ρ' σ'∧VRel ρ' σ'.n vv v∧KV σ' k x vv∧KWf k x:=by
 obtain⟨fuel,hd⟩:=hd;by_cases dK:isAgg P t=true
 ·have bp:k.one=false:=by rw[dK] at ha;simpa using ha.symm
  have:∃ cs,v=.agg cs∧cs.size=P.cellsOf t∧Row.okWide P w r base t cs:=by
   unfold isAgg at dK;unfold Value.okWide at aj;split at dK<;>first|(cases dK;done)|skip
   ·rename_i hu;rw[hu] at aj;exact aj
   ·rename_i hu;rw[hu] at aj;exact aj
  obtain⟨cs,rfl,aB,ts,ez,_,cy⟩:=this;have hlen:=Tt hk ez;have az:P.cellsOf t=k.size:=by
   unfold isAgg at dK;cases n with
   |zero=>cases hk
   |succ n =>
    unfold KTy at hk;split at dK<;>first|(cases dK;done)|skip
    all_goals
     rename_i hu;rw[hu] at hk;simp only[Bool.and_eq_true,beq_iff_eq] at hk;exact hk.1
  have kX:okc P w r base ts cs.toList:=fun i v u h1 h2=>by have hi:i<ts.length:=(List.getElem?_eq_some_iff.1 h2).1;obtain⟨u',h3,h4⟩:=cy i v (by simpa using h1);rw[Nat.mod_eq_of_lt hi] at h3;obtain rfl:=osj (h2.symm.trans h3);exact h4
  obtain⟨ρ',σ',vs,x,k1,k2,k3,k4,k5⟩:=H8 hk hl ez kX (show DataW.trod enc P w 0 _ true fuel t cs.toList=_ from hd) ρ σ h;exact⟨ρ',σ',.agg vs.toArray,x,k1,k2,VRel.agg_of (ds:=cs.toList) k3,.inr ⟨bp,vs,rfl,k4⟩,k5⟩
 ·have bp:k.one=true:=by
   have:isAgg P t=false:=by simpa using dK
   rw[this] at ha;simpa using ha.symm
  have gU:=Kind.one_size bp;have bq:Cell.okWide P w r base t v∧v.cells.toList=[v]:=by
   have h1:isAgg P t=false:=by simpa using dK
   unfold isAgg at h1;have h2:Cell.okWide P w r base t v:=by
    unfold Value.okWide at aj;split at aj
    ·rename_i hu;rw[hu] at h1;cases h1
    ·rename_i hu;rw[hu] at h1;cases h1
    ·exact aj
   refine⟨h2,?_⟩;cases v<;>first|rfl|skip
   all_goals
    exfalso;cases n with
    |zero=>cases hk
    |succ n =>
     unfold KTy at hk;unfold Cell.okWide Cell.ok at h2;cases hu:P.underlying t with
     |none=>rw[hu] at hk;cases hk
     |some u =>rw[hu] at hk h2 h1;cases u<;>first|(cases hk;done)|(cases h1;done)|(cases h2;done)|(simp at h2;done)
  have ez:P.cellTypes 1 t=some [t]:=by
   have h1:isAgg P t=false:=by simpa using dK
   unfold isAgg at h1;unfold Program.cellTypes;cases n with
   |zero=>cases hk
   |succ n =>
    unfold KTy at hk;cases hu:P.underlying t with
    |none=>rw[hu] at hk;cases hk
    |some u =>rw[hu] at h1;cases u<;>first|rfl|(cases h1;done)
  rw[bq.2] at hd;have kX:okc P w r base [t] [v]:=fun i v' u h1 h2=>by
   cases i with
   |zero=>cases h1;cases h2;exact bq.1
   |succ i=>simp at h1
  obtain⟨ρ',σ',vs,x,k1,k2,k3,k4,k5⟩:=H8 hk hl ez kX hd ρ σ h;have:vs.length=1:=by rw[KC.length k4];exact gU
  obtain⟨vv,rfl⟩:=List.length_eq_one_iff.1 this;exact⟨ρ',σ',vv,x,k1,k2,k3.2 0 _ _ rfl rfl,.inl ⟨bp,k4⟩,k5⟩
def AWf:(ks:List Kind)→AT ks→Prop
 |[],_=>True
 |[k],x=>KWf k x
 |k::k'::ks,x=>KWf k x.1∧AWf (k'::ks) x.2
def FX (P:Program):List Kind→List TypeId→Bool
 |[],[]=>true
 |k::ks,t::ts=>(KTy P 8 k t&&(k.lev1&&(isAgg P t==!k.one)))&&FX P ks ts
 |_,_=>false
theorem View.args:∀ {ks:List Kind}{ts:List TypeId}{vs:List Value}{ds:List (DataW H)}{ps:List MemPlace}{ρ:Plc}{σ:Heap},View w ρ σ→FX P ks ts=true→(∀ (j:Nat) t v,ts[j]?=some t→vs[j]?=some v→Value.okWide P w r base t v)→DataW.TrodAll enc P w 0 (fun _=>true) true ts vs ds ps →
  ∃ ρ' σ' lQ x,View w ρ' σ'∧More ρ σ ρ' σ'∧LRel ρ' σ'.n lQ vs∧By σ' ks x lQ∧AWf ks x
 |[],[],vs,ds,ps,ρ,σ,h,_,_,hA=>by obtain⟨rfl,rfl,rfl⟩:=trodAll_nil hA;exact⟨ρ,σ,[],(),h,More.refl _ _,.nil _ _,rfl,trivial⟩
 |[k],[t],vs,ds,ps,ρ,σ,h,hk,hv,hA=>by obtain⟨v,cK,d,ds',p,q,rfl,rfl,rfl,h1,h2⟩:=trodAll_cons hA;obtain⟨rfl,rfl,rfl⟩:=trodAll_nil h2;simp only[FX,Bool.and_eq_true,beq_iff_eq] at hk;obtain⟨ρ',σ',vv,x,k1,k2,k3,k4,k5⟩:=h.arg hk.1.1 hk.1.2.1 hk.1.2.2 (hv 0 t v rfl rfl) h1;exact⟨ρ',σ',[vv],x,k1,k2,.one k3,⟨vv,rfl,k4⟩,k5⟩
 |k::k'::ks,t::ts,vs,ds,ps,ρ,σ,h,hk,hv,hA=>by obtain⟨v,cK,d,ds',p,q,rfl,rfl,rfl,h1,h2⟩:=trodAll_cons hA;simp only[FX,Bool.and_eq_true,beq_iff_eq] at hk;obtain⟨ρ1,σ1,vv,x,k1,k2,k3,k4,k5⟩:=h.arg hk.1.1 hk.1.2.1 hk.1.2.2 (hv 0 t v rfl rfl) h1;obtain⟨ρ2,σ2,lQ,y,m1,m2,m3,m4,m5⟩:=k1.args (ks:=k'::ks) hk.2 (fun j t v h1 h2=>hv (j+1) t v h1 h2) h2;exact⟨ρ2,σ2,vv::lQ,(x,y),m1,k2.trans m2,.cons (k3.mono m2.n m2.pl) m3,⟨vv,lQ,rfl,k4.vcall m2.le,m4⟩,k5,m5⟩
 |[],_::_,_,_,_,_,_,_,hk,_,_|_::_,[],_,_,_,_,_,_,hk,_,_|[_],_::_::_,_,_,_,_,_,_,hk,_,_=>by simp[FX] at hk
theorem CP (hT:Q24 w) {f:Nat}{sp:CSp}(ew:OkC P f sp) (he:Jy P f) {ks:List Kind}{ts:List TypeId}{args:Array Value}{ds:List (DataW H)}{ps:List MemPlace}(hk:FX P ks ts=true)
  (hv:∀ (j:Nat) t v,ts[j]?=some t→args.toList[j]?=some v→Value.okWide P w r base t v) (hA:DataW.TrodAll enc P w 0 (fun _=>true) true ts args.toList ds ps)
  (hs:∀ x:AT ks,AWf ks x→∃ c,sp (fun _ _=>none) (BY ks x)=some (c,.val .bo true,[])∧c):Calls P f args w fun e w'=>e=.returned (.bool true)∧Below w.heap.size w w':=by
 obtain⟨ρ,σ,lQ,x,k1,k2,k3,k4,k5⟩:=(View.emptyT w hT).args hk hv hA;obtain⟨c,h1,h2⟩:=hs x k5;exact k1.calls k3 (ew.true he (U9 k4) h1 h2)
end
end Go.V
namespace Go.V
open Go
theorem D2 {H:Type}{enc:TypeId×Value→H}{P:Program}{w:World}{b:Nat}{sp:Nat→Bool}{hd:Bool}:∀ {ts:List TypeId}{vs:List Value}{ds:List (DataW H)}{ps:List MemPlace},DataW.TrodAll enc P w b sp hd ts vs ds ps→ds.length=ts.length
 |[],[],[],_,_=>rfl
 |t::ts,v::vs,d::ds,ps,h=>by obtain⟨p,q,_,h2,_⟩:=h;simp[D2 h2]
 |[],[],_::_,_,h|[],_::_,_,_,h|_::_,[],_,_,h|_::_,_::_,[],_,h=>h.elim
end Go.V