/- A framework for walks, contracts of functions, and their proofs: part 4. -/
import Derived.Test.YthponhelanafhaaGreatDoorR3
namespace Go.V
open Go
theorem Z5n {α:Type}{l:List α}(h:¬ l=[]) (b:Bool):(l.isEmpty&&b)=false:=by cases l with|nil=>exact absurd rfl h|cons _ _=>rfl
theorem Z2x {α:Type}{l:List α}(h:¬ l=[]):l.isEmpty=false:=by cases l with|nil=>exact absurd rfl h|cons _ _=>rfl
theorem Gz {c vs:List Value}{o:Nat}(h:o+vs.length≤c.length):Q8 c o vs=c.take o++vs++c.drop (o+vs.length):=by
 apply List.ext_getElem?;intro k;rcases Nat.lt_or_ge k o with hk|hk
 ·rw[YX vs c o k (.inl hk),List.append_assoc,List.getElem?_append_left (by simp;omega),List.getElem?_take,if_pos hk]
 ·rcases Nat.lt_or_ge k (o+vs.length) with au|au
  ·have:=Cz vs c o (k-o) h (by omega);rw[show o+(k-o)=k by omega] at this;rw[this,List.append_assoc,List.getElem?_append_right (by simp;omega),List.getElem?_append_left (by simp;omega)];congr 1;simp;omega
  ·rw[YX vs c o k (.inr au),List.getElem?_append_right (by simp;omega),List.getElem?_drop];congr 1;simp;omega
theorem IP (us c:List Value) {m p n off:Nat}(h1:off+us.length≤n) (h2:p+n≤m) (h3:m≤c.length) :
  (Q8 c (p+off) us).take m=(c.take m).take p++Q8 (((c.take m).drop p).take n) off us++(c.take m).drop (p+n):=by
 have l1:(((c.take m).drop p).take n).length=n:=by simp;omega
 have cF:∀ q,q<n→(((c.take m).drop p).take n)[q]?=c[p+q]?:=fun q hq=>by rw[List.getElem?_take,if_pos hq,List.getElem?_drop,List.getElem?_take,if_pos (by omega)]
 generalize ((c.take m).drop p).take n=row at l1 cF;have l2:((c.take m).take p).length=p:=by simp;omega
 have l3:(Q8 row off us).length=n:=by rw[Wz,l1]
 have g2:∀ q,q<p→((c.take m).take p)[q]?=c[q]?:=fun q hq=>by rw[List.getElem?_take,if_pos hq,List.getElem?_take,if_pos (by omega)]
 generalize (c.take m).take p=pre at l2 g2;apply List.ext_getElem?;intro j;rw[List.getElem?_take,List.append_assoc];by_cases hj:j<m
 ·rw[if_pos hj];rcases Nat.lt_or_ge j p with a1|a1
  ·rw[YX us c _ j (.inl (by omega)),List.getElem?_append_left (by omega),g2 j a1]
  ·rw[List.getElem?_append_right (by omega),l2];rcases Nat.lt_or_ge j (p+n) with a2|a2
   ·rw[List.getElem?_append_left (by omega)];rcases Nat.lt_or_ge (j-p) off with a3|a3
    ·rw[YX us c _ j (.inl (by omega)),YX us _ _ _ (.inl a3),cF _ (by omega)];congr 1;omega
    ·rcases Nat.lt_or_ge (j-p) (off+us.length) with a4|a4
     ·have b1:=Cz us c (p+off) (j-(p+off)) (by omega) (by omega);have b2:=Cz us row off (j-(p+off)) (by omega) (by omega);rw[show p+off+(j-(p+off))=j by omega] at b1;rw[show off+(j-(p+off))=j-p by omega] at b2;rw[b1,b2]
     ·rw[YX us c _ j (.inr (by omega)),YX us _ _ _ (.inr a4),cF _ (by omega)];congr 1;omega
   ·rw[YX us c _ j (.inr (by omega)),List.getElem?_append_right (by omega),List.getElem?_drop,List.getElem?_take,l3,if_pos (by omega)];congr 1;omega
 ·rw[if_neg hj,List.getElem?_append_right (by omega),List.getElem?_append_right (by omega),List.getElem?_drop,List.getElem?_take,if_neg (by omega)]
theorem Heap.Le.push {B σ:Heap}(h:B.Le σ) (b:Blk):B.Le (σ.push b) :=
 ⟨by have:=h.1;simp;omega,fun i b' hb=>by rw[Heap.get_push_lt _ _ (σ.lt (h.2 i b' hb))];exact h.2 i b' hb⟩
theorem Heap.Le.upd {B σ:Heap}(h:B.Le σ) {i:Nat}(hi:B.get i=none) (b:Blk):B.Le (σ.upd i b) :=
 ⟨by simpa using h.1,fun j b' hb=>by
  have:j≠i:=fun e=>by subst e;rw[hi] at hb;cases hb
  rw[Heap.get_upd_ne _ _ this];exact h.2 j b' hb⟩
theorem Heap.Le.kill {B σ:Heap}(h:B.Le σ) {i:Nat}(hi:B.get i=none):B.Le (σ.kill i) :=
 ⟨by simpa using h.1,fun j b' hb=>by
  have:j≠i:=fun e=>by subst e;rw[hi] at hb;cases hb
  rw[Heap.get_kill_ne _ this];exact h.2 j b' hb⟩
theorem Heap.Le.fresh {B σ:Heap}(h:B.Le σ):B.get σ.n=none:=B.wf _ h.1
section
variable {P:Program}{B F:Heap}{pl:Nat→Value}{tb:Nat→Option Bool}{s:St}{env:Env}{σ:Heap}
theorem OR.id_lt {p:Value}{b:OB}(h:OR P B pl tb σ p b) (hl:b.live=true) {i:Nat}(hi:Oid p i):i<σ.n:=by
 cases b with
 |dead=>cases hl
 |lst ty k xs nl =>
  rcases h with⟨_,_,rfl⟩|⟨_,i',cap,c,t,rfl,_,h3,_⟩
  ·cases hi
  ·obtain rfl:=osj hi;exact σ.lt h3
 |cells l u=>obtain⟨i',c,e,t,rfl,h2,_⟩:=h;obtain rfl:=osj hi;exact σ.lt h2
 |map kk vk m=>obtain⟨i',es,clock,rfl,h2,_⟩:=h;obtain rfl:=osj hi;exact σ.lt h2
 |mapE kk vk m key n=>obtain⟨i',es,clock,r,e,rfl,h2,_⟩:=h;obtain rfl:=osj hi;exact σ.lt h2
 |iter kk vk m dn=>obtain⟨j,i',es,clock,wr,seen,rfl,h2,_⟩:=h;obtain rfl:=osj hi;exact σ.lt h2
 |lpf l q s=>obtain⟨rfl,_,h2⟩:=h;obtain rfl:=osj hi;exact σ.lt (h2 hl)
 |deep ty q k xs nl hh =>obtain⟨is,hO,_,_,_,h4,_⟩:=h;obtain⟨b',bK⟩:=(hO i).1 hi;exact σ.lt (h4 i b' bK)
 |stk l vals=>cases hl
theorem Gam.push (h:Gam P B F pl tb s env σ) (d:Nat) (b:OB) (p:Value) (blk:Blk) (hp:oid p=some σ.n) (hb:OR P B (X4 pl d p) tb (σ.push blk) p b):Gam P B F (X4 pl d p) tb (s.make d b) env (σ.push blk):=by
 refine h.make d b p (h.le.push blk) (fun j i hj hl hi=>?_) hb (fun i _ hi=>?_)
 ·exact Heap.get_push_lt _ _ ((h.obj j).id_lt hl hi)
 ·obtain rfl:=Q0h hp hi;exact⟨h.le.fresh,fun j _ hl e=>by have:=(h.obj j).id_lt hl e;omega⟩
theorem Rows.cellOk {k:Kind}{xs:List k.T}{cs:List Value}(h:Rows (KC B k) xs cs):cs.all Go.V.cellOk=true:=by
 induction h with
 |nil=>rfl
 |cons h _ ih=>rw[List.all_append,KC.cellOk h,ih];rfl
theorem Hf {pl:Nat→Value}:∀ {k:Kind}{off:Nat}{v:SV}{u:Value}{x y:k.T}{row:List Value},Z0v k off v x=some y→KC B k x row→SR P B pl tb v u→off<k.size→KC B k y (Q8 row off [u])
 |.pair a b,off,v,u,x,y,row,h,hr,hv,ho=>by
  obtain⟨c1,c2,rfl,h1,h2⟩:=hr;have l1:=KC.length h1;have l2:=KC.length h2;simp only[Z0v] at h;simp only[Q8];cases hb:Nat.blt off a.size with
  |true =>
   rw[hb] at h;simp only[_root_.cond_true,Option.map_eq_some_iff] at h;obtain⟨z,h3,rfl⟩:=h;have aT:off<a.size:=by simpa [Nat.blt_eq] using hb
   have:=Hf h3 h1 hv aT;exact⟨c1.set off u,c2,by rw[List.set_append_left _ _ (by omega)],this,h2⟩
  |false =>
   rw[hb] at h;simp only[_root_.cond_false,Option.map_eq_some_iff] at h;obtain⟨z,h3,rfl⟩:=h;have aT:¬ off<a.size:=by intro aj;rw[show Nat.blt off a.size=true by rw[Nat.blt_eq];exact aj] at hb;cases hb
   simp only[Kind.size] at ho;have:=Hf h3 h2 hv (by omega);refine⟨c1,c2.set (off-a.size) u,?_,h1,this⟩;rw[List.set_append_right _ _ (by omega),l1]
 |.i ik,off,v,u,x,y,row,h,hr,hv,ho=>by
  have:=QA (k:=.i ik) h (show SRs P B pl tb [v] [u] by simp only[SRs];exact⟨_,[],rfl,hv,rfl⟩);have hl:=KC.length hr;simp only[Kind.size] at hl ho;obtain⟨c,rfl⟩:=List.length_eq_one_iff.1 hl;obtain rfl:off=0:=by omega
  exact this
 |.bo,off,v,u,x,y,row,h,hr,hv,ho=>by
  have:=QA (k:=.bo) h (show SRs P B pl tb [v] [u] by simp only[SRs];exact⟨_,[],rfl,hv,rfl⟩);have hl:=KC.length hr;simp only[Kind.size] at hl ho;obtain⟨c,rfl⟩:=List.length_eq_one_iff.1 hl;obtain rfl:off=0:=by omega
  exact this
 |.st,off,v,u,x,y,row,h,hr,hv,ho=>by
  have:=QA (k:=.st) h (show SRs P B pl tb [v] [u] by simp only[SRs];exact⟨_,[],rfl,hv,rfl⟩);have hl:=KC.length hr;simp only[Kind.size] at hl ho;obtain⟨c,rfl⟩:=List.length_eq_one_iff.1 hl;obtain rfl:off=0:=by omega
  exact this
 |.list k,off,v,u,x,y,row,h,hr,hv,ho=>by
  have:=QA (k:=.list k) h (show SRs P B pl tb [v] [u] by simp only[SRs];exact⟨_,[],rfl,hv,rfl⟩);have hl:=KC.length hr;simp only[Kind.size] at hl ho;obtain⟨c,rfl⟩:=List.length_eq_one_iff.1 hl;obtain rfl:off=0:=by omega
  exact this
theorem GB {mk:MK}{kk vk:Kind}(hk:gq.mkOk mk kk=true) {key:kk.T}{x:vk.T}{kv xv:Value}{clock:Nat}(aN:KV B kk key kv) (hx:KV B vk x xv):∀ {m:List (kk.T×vk.T)}{es:List JU},MR B kk vk m es→MR B kk vk (Q09 kk m key x) (Qv kv xv clock es).1
 |[],es,h=>by simp only[MR] at h;subst h;exact⟨_,[],rfl,aN,hx,rfl⟩
 |m::ms,es,h=>by
  obtain⟨e,bR,rfl,h2,h3,h4⟩:=h;have hq:=Bg hk aN h2;simp only[Qv,Q09,hq];cases gq.keq kk key m.1 with
  |true=>exact⟨_,bR,rfl,aN,hx,h4⟩
  |false=>exact⟨e,_,rfl,h2,h3,GB hk aN hx h4⟩
theorem BB (k v:Value) (clock:Nat):∀ es:List JU,((Qv k v clock es).2=clock∧(Qv k v clock es).1.map (fun e=>e.2.2)=es.map fun e=>e.2.2)∨((Qv k v clock es).2=clock+1∧(Qv k v clock es).1.map (fun e=>e.2.2)=(es.map fun e=>e.2.2)++[clock])
 |[]=>.inr ⟨rfl,rfl⟩
 |e::es=>by
  simp only[Qv];split
  ·exact .inl ⟨rfl,rfl⟩
  ·rcases BB k v clock es with⟨h1,h2⟩|⟨h1,h2⟩
   ·exact .inl ⟨h1,by simp[h2]⟩
   ·exact .inr ⟨h1,by simp[h2]⟩
theorem SOk.put {es:List JU}{clock:Nat}(h:SOk es clock) {k v:Value}:SOk (Qv k v clock es).1 (Qv k v clock es).2:=by
 obtain⟨h1,h2⟩:=h;have mem:∀ (l:List JU) (x:Nat),x∈l.map (fun e=>e.2.2)↔∃ e∈l,e.2.2=x:=fun l x=>by simp
 rcases BB k v clock es with⟨e1,e2⟩|⟨e1,e2⟩
 ·refine⟨by rw[e2];exact h1,fun e he=>?_⟩;have:e.2.2∈es.map fun e=>e.2.2:=by rw[←e2];exact(mem _ _).2 ⟨e,he,rfl⟩
  obtain⟨e',k1,k2⟩:=(mem _ _).1 this;rw[e1,←k2];exact h2 e' k1
 ·refine⟨?_,fun e he=>?_⟩
  ·rw[e2,List.nodup_append];refine⟨h1,by simp,fun a ha b hb=>?_⟩;obtain rfl:=List.mem_singleton.1 hb;obtain⟨e',k1,k2⟩:=(mem _ _).1 ha;have:=h2 e' k1;omega
  ·have:e.2.2∈(es.map fun e=>e.2.2)++[clock]:=by rw[←e2];exact(mem _ _).2 ⟨e,he,rfl⟩
   rw[e1];rcases List.mem_append.1 this with h3|h3
   ·obtain⟨e',k1,k2⟩:=(mem _ _).1 h3;have:=h2 e' k1;omega
   ·have:=List.mem_singleton.1 h3;omega
theorem LH {mk:MK}{kk vk:Kind}(hk:gq.mkOk mk kk=true) {key:kk.T}{kv:Value}(aN:KV B kk key kv):∀ {m:List (kk.T×vk.T)}{es:List JU},MR B kk vk m es→MR B kk vk (Z1h kk m key) (Uw kv es)
 |[],es,h=>by simp only[MR] at h;subst h;rfl
 |m::ms,es,h=>by
  obtain⟨e,bR,rfl,h2,h3,h4⟩:=h;have hq:=Bg hk aN h2;simp only[Uw,Z1h,hq];cases gq.keq kk key m.1 with
  |true=>exact h4
  |false=>exact⟨e,_,rfl,h2,h3,LH hk aN h4⟩
theorem Hk (k:Value):∀ es:List JU,(Uw k es).Sublist es
 |[]=>.slnil
 |e::es=>by
  simp only[Uw];split
  ·exact List.sublist_cons_self _ _
  ·exact(Hk k es).cons_cons _
theorem SOk.del {es:List JU}{clock:Nat}(h:SOk es clock) {k:Value}:SOk (Uw k es) clock :=
 ⟨h.1.sublist ((Hk k es).map _),fun e he=>h.2 e ((Hk k es).subset he)⟩
def Fr (T:Nat) (s s':St) (pl pl':Nat→Value) (σ σ':Heap):Prop :=
 ∀ q,q≠T→(Q7 s'.own q).live=(Q7 s.own q).live∧pl' q=pl q∧((Q7 s.own q).live=true→∀ i,Oid (pl q) i→σ'.get i=σ.get i)
theorem UW (s:St) (d:Nat) (b:OB) {q:Nat}(hq:q≠d):(Q7 (s.make d b).own q).live=(Q7 s.own q).live:=by simp only[St.make,St.kill,Qb,Vb,if_neg hq,OB.live_kill]
theorem Gam.makeF {s:St}{env:Env}{σ σ':Heap}{pl:Nat→Value}(h:Gam P B F pl tb s env σ) (d:Nat) (b:OB) (p:Value) (hle:F.Le σ') (ho:∀ j i,j≠d→(Q7 s.own j).live=true→Oid (pl j) i→σ'.get i=σ.get i)
  (hb:OR P B (X4 pl d p) tb σ' p b) (hf:∀ i,b.live=true→Oid p i→F.get i=none∧∀ j,j≠d→(Q7 s.own j).live=true→¬ Oid (pl j) i):Gam P B F (X4 pl d p) tb (s.make d b) env σ'∧Fr d s (s.make d b) pl (X4 pl d p) σ σ' :=
 ⟨h.make d b p hle ho hb hf,fun q hq=>⟨UW s d b hq,by simp[X4,hq],fun hl i hi=>ho q i hq hl hi⟩⟩
theorem Gam.writeF {s:St}{env:Env}{σ σ':Heap}{pl:Nat→Value}(h:Gam P B F pl tb s env σ) (d:Nat) (b:OB) (hle:F.Le σ') (ai:(Q7 s.own d).live=true)
  (cM:∀ j i,j≠d→(Q7 s.own j).live=true→Oid (pl j) i→σ'.get i=σ.get i) (hb:OR P B pl tb σ' (pl d) b):Gam P B F pl tb ⟨s.env,oset s.own d b,s.nx⟩ env σ'∧Fr d s ⟨s.env,oset s.own d b,s.nx⟩ pl pl σ σ' :=
 ⟨h.write d b hle ai cM hb,fun q hq=>⟨by simp only[Qb,if_neg hq],rfl,fun hl i hi=>cM q i hq hl hi⟩⟩
theorem Gam.pushF {s:St}{env:Env}{σ:Heap}{pl:Nat→Value}(h:Gam P B F pl tb s env σ) (d:Nat) (b:OB) (p:Value) (blk:Blk) (hp:oid p=some σ.n) (hb:OR P B (X4 pl d p) tb (σ.push blk) p b):Gam P B F (X4 pl d p) tb (s.make d b) env (σ.push blk)∧Fr d s (s.make d b) pl (X4 pl d p) σ (σ.push blk) :=
 ⟨h.push d b p blk hp hb,fun q hq=>⟨UW s d b hq,by simp[X4,hq],fun hl i hi=>Heap.get_push_lt _ _ ((h.obj q).id_lt hl hi)⟩⟩
def NOk (P:Program) (B F:Heap) (tb:Nat→Option Bool) (o:VOp) (evV:Operand→Value) (env:Env) (σ:Heap) (K:SV→St→Prop) (T:Nat) (s:St) (pl:Nat→Value):Prop :=
 ∃ u σ' pl' v s',Q5 o evV σ=some (u,σ')∧K v s'∧(Gam P B F pl' tb s' env σ'∧Fr T s s' pl pl' σ σ')∧SR P B pl' tb v u
theorem WA (pl:Nat→Value) (d:Nat) (p:Value):X4 pl d p d=p:=by simp[X4]
section
variable {C:Cx}{d:Nat}{ev:Operand→SV}{evV:Operand→Value}{K:SV→St→Prop}
theorem Q22 (af:∀ x,SR P B pl tb (ev x) (evV x)) (hG:Gam P B F pl tb s env σ) {t:Nat}{z:List Value}(h:gn C d (.alloc t z) ev s K):NOk P B F tb (.alloc t z) evV env σ K (Qt d (.alloc t z) ev) s pl:=by
 have _hev:=af;simp only[gn] at h;refine⟨.pointer (some ⟨σ.n,0,none⟩),_,X4 pl d (.pointer (some ⟨σ.n,0,none⟩)),_,_,rfl,h,hG.pushF d _ _ _ rfl ?_,?_⟩
 ·refine⟨σ.n,z,_,_,rfl,Heap.get_push_self _ _,?_,fun y hy=>⟨osj hy,rfl⟩⟩;have hz:SRs P B (X4 pl d (.pointer (some ⟨σ.n,0,none⟩))) tb (z.map cvp) (z.map id):=SRs.map fun x _=>BX x
  rwa [List.map_id] at hz
 ·simp only[SR,WA];exact⟨_,rfl,rfl⟩
theorem Q8p (af:∀ x,SR P B pl tb (ev x) (evV x)) (hG:Gam P B F pl tb s env σ) {t:Nat}{x:Operand}(h:gn C d (.box t x) ev s K):NOk P B F tb (.box t x) evV env σ K (Qt d (.box t x) ev) s pl:=by
 simp only[gn] at h;split at h
 ·rename_i l hl;obtain⟨c,h1,h2,_⟩:=K8 hl (af x);refine⟨.pointer (some ⟨σ.n,0,none⟩),σ.push (.cells c ⟨c.length,t⟩ true true),X4 pl d (.pointer (some ⟨σ.n,0,none⟩)),_,_,by simp only[Q5,h1],h,hG.pushF d _ _ _ rfl ?_,?_⟩
  ·exact⟨σ.n,c,_,_,rfl,Heap.get_push_self _ _,SRs.upd (Heap.Le.refl B) (fun _ _ h=>h) (fun j hj=>by simp[X4,hj]) _ _ h2,fun y hy=>⟨osj hy,rfl⟩⟩
  ·simp only[SR,WA];exact⟨_,rfl,rfl⟩
 ·cases h
theorem Pg (af:∀ x,SR P B pl tb (ev x) (evV x)) {k:Kind}:∀ {ps:List (Nat×Operand)}{xs ys:List k.T}{c:List Value},AI k ev ps xs=some ys→Rows (KC B k) xs c →
  ys.length=xs.length∧∃ c',G5 c (ps.map fun p=>(p.1*k.size,k.size,evV p.2))=some c'∧Rows (KC B k) ys c'
 |[],xs,ys,c,h,hr=>by obtain rfl:=osj h;exact⟨rfl,c,rfl,hr⟩
 |(j,x)::r,xs,ys,c,h,hr=>by
  simp only[AI] at h;split at h
  ·rename_i l hl;split at h
   ·rename_i y hy;split at h
    ·rename_i hj;obtain⟨vs,h1,h2,_⟩:=K8 hl (af x);have hk:=QA hy h2;have hlen:=KC.length hk;have cG:=hr.length KC.rows_len;have bZ:(j+1)*k.size≤xs.length*k.size:=Nat.mul_le_mul_right _ hj;rw[Nat.add_mul,Nat.one_mul] at bZ;have aW:=hr.set KC.rows_len hj hk;have e:Q8 c (j*k.size) vs=c.take (j*k.size)++vs++c.drop (j*k.size+k.size):=by
      rw[Gz (by omega),hlen]
     rw[←e] at aW;obtain⟨h3,c',h4,h5⟩:=Pg af h aW;refine⟨by rw[h3,List.length_set],c',?_,h5⟩;simp only[List.map_cons,G5,h1];rw[if_pos ⟨hlen,by omega⟩];exact h4
    ·cases h
   ·cases h
  ·cases h
theorem G3 (af:∀ x,SR P B pl tb (ev x) (evV x)) (hG:Gam P B F pl tb s env σ) {e:El}{z:List Value}{n:Nat}{ps:List (Nat×Operand)}(h:gn C d (.buildSlice e z n ps) ev s K):NOk P B F tb (.buildSlice e z n ps) evV env σ K (Qt d (.buildSlice e z n ps) ev) s pl:=by
 simp only[gn] at h;split at h
 ·rename_i k _;split at h
  ·rename_i hc;obtain⟨aC,hz⟩:=hc;split at h
   ·rename_i xs hx;have qZ:KC B k k.dflt z:=K0 hz;have cF:Rows (KC B k) (List.replicate n k.dflt) (Tc n z):=by rw[Nd];exact Rows.replicate qZ n
    obtain⟨h3,c',h4,h5⟩:=Pg (B:=B) af hx cF;rw[List.length_replicate] at h3;have cG:=h5.length KC.rows_len;refine⟨.slice (some ⟨σ.n,0,none⟩) n n,σ.push (.cells c' e true true),X4 pl d (.slice (some ⟨σ.n,0,none⟩) n n),_,_,?_,h,hG.pushF d _ _ _ rfl ?_,?_⟩
    ·simp only[Q5];rw[←aC,h4]
    ·refine .inr ⟨rfl,σ.n,n,c',true,by rw[h3],by omega,?_,by rw[cG,h3];exact Nat.le_refl _,?_⟩
     ·rw[Heap.get_push_self,aC]
     ·rw[List.take_of_length_le (by omega)];exact h5
    ·simp only[SR,WA];exact⟨trivial,_,_,_,rfl⟩
   ·cases h
  ·cases h
 ·cases h
theorem Ro (af:∀ x,SR P B pl tb (ev x) (evV x)) (hG:Gam P B F pl tb s env σ) {e:El}{bytes:Nat}{z:List Value}{l c:Operand}(h:gn C d (.makeSlice e bytes z l c) ev s K):NOk P B F tb (.makeSlice e bytes z l c) evV env σ K (Qt d (.makeSlice e bytes z l c) ev) s pl:=by
 simp only[gn] at h;split at h
 ·rename_i k k1 a k2 b _ h1 h2;have e1:=ZY h1 (af l);have e2:=ZY h2 (af c);split at h
  ·rename_i hc;obtain⟨aC,hz⟩:=hc;simp only[CW,Q7m] at h;obtain⟨k3,k4,k5,k6,h⟩:=h;have qZ:KC B k k.dflt z:=K0 hz;have cF:Rows (KC B k) (List.replicate b.toNat k.dflt) (Tc b.toNat z):=by rw[Nd];exact Rows.replicate qZ _
   have cG:=cF.length KC.rows_len;rw[List.length_replicate] at cG;have ht:=cF.take KC.rows_len a.toNat;rw[List.take_replicate,Nat.min_eq_left (by omega)] at ht;refine⟨.slice (some ⟨σ.n,0,none⟩) a.toNat b.toNat,σ.push (.cells (Tc b.toNat z) e true true),X4 pl d (.slice (some ⟨σ.n,0,none⟩) a.toNat b.toNat),_,_,?_,h,hG.pushF d _ _ _ rfl ?_,?_⟩
   ·simp only[Q5,e1,e2];rw[if_pos ⟨k3,k4,by simpa using k5,by simpa using k6⟩]
   ·refine .inr ⟨rfl,σ.n,b.toNat,_,true,by rw[List.length_replicate],by simp;omega,?_,by rw[cG];exact Nat.le_refl _,?_⟩
    ·rw[Heap.get_push_self,aC]
    ·rw[List.length_replicate];exact ht
   ·simp only[SR,WA];exact⟨trivial,_,_,_,rfl⟩
  ·cases h
 ·cases h
theorem Ib (af:∀ x,SR P B pl tb (ev x) (evV x)) (hG:Gam P B F pl tb s env σ) {e:El}{bytes:Nat}{x y:Operand}(h:gn C d (.append e bytes x y) ev s K):NOk P B F tb (.append e bytes x y) evV env σ K (Qt d (.append e bytes x y) ev) s pl:=by
 have ha:=af x;simp only[gn] at h;split at h
 ·rename_i k _;split at h
  ·rename_i ys hy;obtain⟨cs,ay,vH,aw,cj,tu⟩:=(YN hG.leB hG.obj hy (af y)).sl;have ah:cs.all cellOk=true:=cj.cellOk;have cG:=cj.length KC.rows_len;split at h
   ·rename_i hx;have hT:Qt d (.append e bytes x y) ev=d:=by simp only[Qt,hx]
    rw[hT];rw[hx] at ha;simp only[SR] at ha;split at h
    ·rename_i aC;simp only[CW,Q7m] at h;obtain⟨h1,h⟩:=h;rw[aC] at aw;have base:Q5 (.append e bytes x y) evV σ=Kn e bytes σ (.slice none 0 0) ys.length cs:=by
      simp only[Q5,tu] at aw ⊢;simp only[aw,ah,if_true,ha]
     by_cases hm:ys=[]
     ·subst hm;refine⟨.slice none 0 0,σ,X4 pl d (.slice none 0 0),_,_,by rw[base];rfl,h,?_,?_⟩
      ·refine hG.makeF d _ _ hG.le (fun j i _ _ _=>rfl) (.inl ⟨rfl,rfl,rfl⟩) fun i _ hi=>by cases hi
      ·simp only[SR,WA];exact⟨trivial,_,_,_,rfl⟩
     ·have fG:ys.length≠0:=fun e=>hm (List.length_eq_zero_iff.1 e);refine⟨.slice (some ⟨σ.n,0,none⟩) ys.length ys.length,σ.push (.cells cs e true false),X4 pl d (.slice (some ⟨σ.n,0,none⟩) ys.length ys.length),_,_,?_,h,hG.pushF d _ _ _ rfl ?_,?_⟩
      ·rw[base];simp only[Kn];rw[if_neg fG,if_pos (by simpa using h1)]
      ·refine .inr ⟨Z2x hm,σ.n,ys.length,cs,false,rfl,Nat.le_refl _,?_,by omega,?_⟩
       ·rw[Heap.get_push_self,aC]
       ·rw[List.take_of_length_le (by omega)];exact cj
      ·simp only[SR,WA];exact⟨trivial,_,_,_,rfl⟩
    ·cases h
   ·rename_i o hx;have hT:Qt d (.append e bytes x y) ev=o:=by simp only[Qt,hx]
    rw[hT];rw[hx] at ha;simp only[SR] at ha;have ak:=hG.obj o;split at h
    ·rename_i ty k' xs nl ho;rw[ho] at ak;have ai:(Q7 s.own o).live=true:=by rw[ho];rfl
     split at h
     ·rename_i aC;obtain⟨ji,aC⟩:=aC;split at h
      ·rename_i cz kS;obtain rfl:=WO kS;obtain rfl:=WH kS;simp only[CW,Q7m] at h;obtain⟨h1,h⟩:=h;rw[aC] at aw;have base:Q5 (.append e bytes x y) evV σ=Kn e bytes σ (pl o) ys.length cs:=by
        simp only[Q5,tu] at aw ⊢;simp only[aw,ah,if_true,ha.1]
       have he:e=⟨k'.size,ty⟩:=by cases e;simp only at ji aC;rw[ji,aC]
       rcases ak with⟨rfl,rfl,h3⟩|⟨rfl,i,cap,c,t,h3,h4,h5,h6,h7⟩
       ·
        rw[h3] at base;by_cases hm:ys=[]
        ·subst hm;refine⟨.slice none 0 0,σ,X4 pl o (.slice none 0 0),_,_,by rw[base];rfl,h,?_,?_⟩
         ·refine hG.makeF o _ _ hG.le (fun j i _ _ _=>rfl) (.inl ⟨rfl,rfl,rfl⟩) fun i _ hi=>by cases hi
         ·simp only[SR,WA];exact⟨trivial,_,_,_,rfl⟩
        ·have fG:ys.length≠0:=fun e=>hm (List.length_eq_zero_iff.1 e);refine⟨.slice (some ⟨σ.n,0,none⟩) ys.length ys.length,σ.push (.cells cs e true false),X4 pl o (.slice (some ⟨σ.n,0,none⟩) ys.length ys.length),_,_,?_,h,hG.pushF o _ _ _ rfl ?_,?_⟩
         ·rw[base];simp only[Kn];rw[if_neg fG,if_pos (by simpa using h1)]
         ·rw[List.nil_append];refine .inr ⟨Z5n hm _,σ.n,ys.length,cs,false,rfl,Nat.le_refl _,?_,by omega,?_⟩
          ·rw[Heap.get_push_self,he]
          ·rw[List.take_of_length_le (by omega)];exact cj
         ·simp only[SR,WA];exact⟨trivial,_,_,_,rfl⟩
       ·rw[h3] at base;have k1:cz.length*k'.size≤cap*k'.size:=Nat.mul_le_mul_right _ h4;have a8:F.get i=none:=hG.fresh o i ai (by rw[h3];rfl);have a7:∀ j i',j≠o→(Q7 s.own j).live=true→Oid (pl j) i'→i'≠i:=fun j i' hj hl hi e=>by
         subst e;exact hG.sep j o i' hj hl ai hi (by rw[h3];rfl)
        have ao:e=e∧cz.length≤cap∧0+cz.length*e.sz≤c.length:=⟨rfl,h4,by rw[←aC];omega⟩;simp only[Kn,h5] at base;rw[←he,if_pos ao] at base;by_cases hm:ys=[]
        ·subst hm;simp only[List.length_nil,if_true] at base;refine⟨_,σ,X4 pl o (pl o),_,_,base,h,?_,?_⟩
         ·refine hG.makeF o _ _ hG.le (fun j i _ _ _=>rfl) (.inr ⟨rfl,i,cap,c,t,?_,?_,h5,h6,?_⟩) fun i' _ hi=>?_
          ·rw[h3];simp
          ·simpa using h4
          ·simpa using h7
          ·rw[h3] at hi;obtain rfl:=osj hi;exact⟨a8,fun j hj hl e=>a7 j _ hj hl e rfl⟩
         ·simp only[SR,WA,h3];exact⟨trivial,_,_,_,rfl⟩
        ·have fG:ys.length≠0:=fun e=>hm (List.length_eq_zero_iff.1 e);have lH:(ys.isEmpty&&false)=false:=by simp
         have pY:Rows (KC B k') (cz++ys) (c.take (cz.length*k'.size)++cs):=h7.append cj;have dK:=pY.length KC.rows_len;rw[if_neg fG] at base;by_cases aY:cz.length+ys.length≤cap
         ·have fv:(cz.length+ys.length)*k'.size≤cap*k'.size:=Nat.mul_le_mul_right _ aY;have dM:cz.length*k'.size+ys.length*k'.size≤cap*k'.size:=by rw[←Nat.add_mul];exact fv
          rw[if_pos aY,if_pos ⟨trivial,by rw[←aC];omega⟩] at base;refine⟨_,_,X4 pl o (.slice (some ⟨i,0,none⟩) (cz.length+ys.length) cap),_,_,base,h,?_,?_⟩
          ·refine hG.makeF o _ _ (hG.le.upd a8 _) (fun j i' hj hl hi=>Heap.get_upd_ne _ _ (a7 j i' hj hl hi)) (.inr ⟨lH,i,cap,Q8 c (0+cz.length*e.sz) cs,t,by rw[List.length_append],by rw[List.length_append];exact aY,?_,?_,?_⟩) fun i' _ hi=>?_
           ·rw[Heap.get_upd_self _ _ (σ.lt h5),he]
           ·rw[Wz];exact h6
           ·have eN:0+cz.length*e.sz+cs.length≤c.length:=by rw[←aC];omega
            rw[Gz eN,←aC,Nat.zero_add,List.take_left' (by rw[dK])];exact pY
           ·obtain rfl:=osj hi;exact⟨a8,fun j hj hl e=>a7 j _ hj hl e rfl⟩
          ·simp only[SR,WA];exact⟨trivial,_,_,_,rfl⟩
         ·rw[if_neg aY,if_pos (by simpa using h1)] at base;have jU:((c.drop 0).take (cz.length*e.sz)++cs)=c.take (cz.length*k'.size)++cs:=by rw[List.drop_zero,aC]
          cases t with
          |true =>
           simp only[if_true] at base;rw[jU] at base;refine⟨_,_,X4 pl o (.slice (some ⟨σ.n,0,none⟩) (cz.length+ys.length) (cz.length+ys.length)),_,_,base,h,hG.pushF o _ _ _ rfl (.inr ⟨lH,σ.n,cz.length+ys.length,c.take (cz.length*k'.size)++cs,false,by rw[List.length_append],by rw[List.length_append];exact Nat.le_refl _,?_,?_,?_⟩),?_⟩
           ·rw[Heap.get_push_self,he]
           ·rw[dK,List.length_append];exact Nat.le_refl _
           ·rw[List.take_of_length_le (by rw[dK];exact Nat.le_refl _)];exact pY
           ·simp only[SR,WA];exact⟨trivial,_,_,_,rfl⟩
          |false =>
           simp only[Bool.false_eq_true,if_false,if_true] at base;rw[jU] at base;have hn:(σ.kill i).n=σ.n:=rfl;refine⟨_,_,X4 pl o (.slice (some ⟨σ.n,0,none⟩) (cz.length+ys.length) (cz.length+ys.length)),_,_,base,h,?_,?_⟩
           ·refine hG.makeF o _ _ ((hG.le.kill a8).push _) (fun j i' hj hl hi=>?_) (.inr ⟨lH,σ.n,cz.length+ys.length,c.take (cz.length*k'.size)++cs,false,by rw[List.length_append],by rw[List.length_append];exact Nat.le_refl _,?_,?_,?_⟩) fun i' _ hi=>?_
            ·rw[Heap.get_push_lt _ _ (by rw[hn];exact(hG.obj j).id_lt hl hi)];exact Heap.get_kill_ne _ (a7 j i' hj hl hi)
            ·rw[←hn,Heap.get_push_self,he]
            ·rw[dK,List.length_append];exact Nat.le_refl _
            ·rw[List.take_of_length_le (by rw[dK];exact Nat.le_refl _)];exact pY
            ·obtain rfl:=osj hi;exact⟨hG.le.fresh,fun j _ hl e=>Nat.lt_irrefl σ.n ((hG.obj j).id_lt hl e)⟩
           ·simp only[SR,WA];exact⟨trivial,_,_,_,rfl⟩
      ·cases h
     ·cases h
    ·cases h
   ·cases h
  ·cases h
 ·cases h
theorem Q20 (af:∀ x,SR P B pl tb (ev x) (evV x)) (hG:Gam P B F pl tb s env σ) {size:Nat}{a x:Operand}(h:gn C d (.store size a x) ev s K):NOk P B F tb (.store size a x) evV env σ K (Qt d (.store size a x) ev) s pl:=by
 have ha:=af a;simp only[gn] at h;split at h
 ·rename_i o off vs h1 h2;have hT:Qt d (.store size a x) ev=o:=by simp only[Qt,h1]
  rw[hT];obtain⟨us,h3,h4,h5⟩:=K8 h2 (af x);rw[h1] at ha;simp only[SR] at ha;obtain⟨b,h6,h7⟩:=ha;have ak:=hG.obj o;split at h
  ·rename_i l u ho;rw[ho] at ak;have ai:(Q7 s.own o).live=true:=by rw[ho];rfl
   obtain⟨i,c,e,t,h8,h9,bW,fN⟩:=ak;rw[h6] at h8;obtain rfl:=(by simpa using h8:b=i);split at h
   ·rename_i hc;have a8:F.get b=none:=hG.fresh o b ai (by rw[h6];rfl);have a7:∀ j i',j≠o→(Q7 s.own j).live=true→Oid (pl j) i'→i'≠b:=fun j i' hj hl hi e=>by
     subst e;exact hG.sep j o i' hj hl ai hi (by rw[h6];rfl)
    refine⟨undef,σ.upd b (.cells (Q8 c off us) e true t),pl,_,_,?_,h,hG.writeF o _ (hG.le.upd a8 _) ai (fun j i' hj hl hi=>Heap.get_upd_ne _ _ (a7 j i' hj hl hi)) ?_,by simp[SR]⟩
    ·simp only[Q5,h7,h3,h9];rw[if_pos ⟨trivial,by rw[←h4.length];exact hc.1,by rw[←bW.length];exact hc.2,h5⟩]
    ·exact⟨b,_,e,t,h6,Heap.get_upd_self _ _ (σ.lt h9),Hz bW h4,fN⟩
   ·cases h
  ·cases h
 ·rename_i o i off sz vs h1 h2;have hT:Qt d (.store size a x) ev=o:=by simp only[Qt,h1]
  rw[hT];obtain⟨us,h3,h4,h5⟩:=K8 h2 (af x);rw[h1] at ha;simp only[SR] at ha;obtain⟨b,len,cap,h6,h7,h8,h9⟩:=ha;have ak:=hG.obj o;split at h
  ·rename_i ty k xs nl ho;rw[ho] at ak;have ai:(Q7 s.own o).live=true:=by rw[ho];rfl
   rcases ak with⟨_,_,k3⟩|⟨rfl,i',aq,c,t,k3,k4,k5,k6,k7⟩
   ·rw[h6] at k3;cases k3
   ·rw[h6] at k3;obtain⟨rfl,rfl,rfl⟩:=(by simpa using k3:b=i'∧len=xs.length∧cap=aq);have a8:F.get b=none:=hG.fresh o b ai (by rw[h6];rfl);have a7:∀ j i',j≠o→(Q7 s.own j).live=true→Oid (pl j) i'→i'≠b:=fun j i' hj hl hi e=>by
     subst e;exact hG.sep j o i' hj hl ai hi (by rw[h6];rfl)
    have hi:i.toNat<xs.length:=by omega
    have aC:(i.toNat+1)*k.size≤xs.length*k.size:=Nat.mul_le_mul_right _ hi;rw[Nat.add_mul,Nat.one_mul] at aC;have k8:=Nat.mul_le_mul_right k.size k4
    have fin:∀ (y:k.T) (us:List Value) (dB:Nat),dB+us.length≤k.size→KC B k y (Q8 (((c.take (xs.length*k.size)).drop (i.toNat*k.size)).take k.size) dB us) →
      Gam P B F pl tb ⟨s.env,oset s.own o (.lst ty k (xs.set i.toNat y) false),s.nx⟩ env (σ.upd b (.cells (Q8 c (i.toNat*k.size+dB) us) ⟨k.size,ty⟩ true t))∧Fr o s ⟨s.env,oset s.own o (.lst ty k (xs.set i.toNat y) false),s.nx⟩ pl pl σ (σ.upd b (.cells (Q8 c (i.toNat*k.size+dB) us) ⟨k.size,ty⟩ true t)):=by
     intro y us dB oF hk;refine hG.writeF o _ (hG.le.upd a8 _) ai (fun j i' hj hl hi=>Heap.get_upd_ne _ _ (a7 j i' hj hl hi)) (.inr ⟨rfl,b,cap,Q8 c (i.toNat*k.size+dB) us,t,by rw[h6];simp,by simpa using k4,Heap.get_upd_self _ _ (σ.lt k5),by rw[Wz];exact k6,?_⟩);have aW:=k7.set KC.rows_len hi hk;rw[List.length_set];rw[IP us c (m:=xs.length*k.size) (p:=i.toNat*k.size) (n:=k.size) (off:=dB) oF aC (by omega)];exact aW
    have cF:=k7.at KC.rows_len hi;have dK:=KC.length cF;split at h
    ·rename_i hc;obtain⟨rfl,rfl,rfl⟩:=hc;split at h
     ·rename_i y hy;have hk:=QA hy h4;have hl:=KC.length hk;refine⟨undef,σ.upd b (.cells (Q8 c (i.toNat*k.size+0) us) ⟨k.size,ty⟩ true t),pl,_,_,?_,h,fin y us 0 (by omega) ?_,by simp[SR]⟩
      ·simp only[Q5,h9,h3,k5];rw[if_pos ⟨trivial,hl,by omega,h5⟩]
      ·rw[Gz (by omega),Nat.zero_add,List.take_zero,List.nil_append,List.drop_of_length_le (by omega),List.append_nil];exact hk
     ·cases h
    ·split at h
     ·rename_i hc;obtain⟨rfl,hv1,rfl,aT⟩:=hc;split at h
      ·rename_i y hy;obtain⟨v0,rfl⟩:∃ v0,vs=[v0]:=by
        cases vs with
        |nil=>cases hv1
        |cons a r=>cases r with
         |nil=>exact⟨a,rfl⟩
         |cons _ _=>simp at hv1
       obtain⟨u0,rfl,vI⟩:=h4.one;have hx:xs.getD i.toNat k.dflt=xs[i.toNat]:=by simp[List.getD_eq_getElem?_getD,List.getElem?_eq_getElem hi]
       rw[hx] at hy;refine⟨undef,σ.upd b (.cells (Q8 c (i.toNat*k.size+off) [u0]) ⟨k.size,ty⟩ true t),pl,_,_,?_,h,fin y [u0] off (by simp;omega) (Hf hy cF vI aT),by simp[SR]⟩;simp only[Q5,h9,h3,k5];rw[if_pos ⟨trivial,rfl,by omega,h5⟩]
      ·cases h
     ·cases h
  ·cases h
 ·cases h
theorem Rw (af:∀ x,SR P B pl tb (ev x) (evV x)) (hG:Gam P B F pl tb s env σ) {mk:MK}{m kx vx:Operand}(h:gn C d (.ext (.mapUpdate mk m kx vx)) ev s K):NOk P B F tb (.ext (.mapUpdate mk m kx vx)) evV env σ K (Qt d (.ext (.mapUpdate mk m kx vx)) ev) s pl:=by
 have ha:=af m;simp only[gn] at h;split at h
 ·rename_i o h1;have hT:Qt d (.ext (.mapUpdate mk m kx vx)) ev=o:=by simp only[Qt,h1]
  rw[hT];rw[h1] at ha;simp only[SR] at ha;have ak:=hG.obj o;split at h
  ·rename_i kk vk l ho;rw[ho] at ak;have ai:(Q7 s.own o).live=true:=by rw[ho];rfl
   obtain⟨id,es,clock,h2,h3,h4⟩:=ak;split at h
   ·rename_i hc;have b8:=hc;split at h
    ·rename_i key x aN hx;have hk:=Nh aN (af kx) QA;have hv:=Nh hx (af vx) QA;have a8:F.get id=none:=hG.fresh o id ai (by rw[h2];rfl);have a7:∀ j i',j≠o→(Q7 s.own j).live=true→Oid (pl j) i'→i'≠id:=fun j i' hj hl hi e=>by
      subst e;exact hG.sep j o i' hj hl ai hi (by rw[h2];rfl)
     have aD:σ.mapAt id=some (es,clock,true):=by simp[Heap.mapAt,h3]
     refine⟨undef,σ.upd id (.obj (.map (Qv (evV kx) (evV vx) clock es).1 (Qv (evV kx) (evV vx) clock es).2) true),pl,_,_,?_,h,hG.writeF o _ (hG.le.upd a8 _) ai (fun j i' hj hl hi=>Heap.get_upd_ne _ _ (a7 j i' hj hl hi)) ?_,by simp[SR]⟩
     ·simp only[Q5,Zm,ha.1,h2,aD];rw[if_pos (by rw[Nv b8 hk,h4.1.keys b8];rfl)]
     ·exact⟨id,_,_,h2,Heap.get_upd_self _ _ (σ.lt h3),GB b8 hk hv h4.1,h4.2.put⟩
    ·cases h
   ·cases h
  ·cases h
 ·cases h
theorem FU (af:∀ x,SR P B pl tb (ev x) (evV x)) (hG:Gam P B F pl tb s env σ) {mk:MK}{m kx:Operand}(h:gn C d (.ext (.delete mk m kx)) ev s K):NOk P B F tb (.ext (.delete mk m kx)) evV env σ K (Qt d (.ext (.delete mk m kx)) ev) s pl:=by
 have ha:=af m;simp only[gn] at h;split at h
 ·rename_i o h1;have hT:Qt d (.ext (.delete mk m kx)) ev=o:=by simp only[Qt,h1]
  rw[hT];rw[h1] at ha;simp only[SR] at ha;have ak:=hG.obj o;split at h
  ·rename_i kk vk l ho;rw[ho] at ak;have ai:(Q7 s.own o).live=true:=by rw[ho];rfl
   obtain⟨id,es,clock,h2,h3,h4⟩:=ak;split at h
   ·rename_i b8;split at h
    ·rename_i key aN;have hk:=Nh aN (af kx) QA;have a8:F.get id=none:=hG.fresh o id ai (by rw[h2];rfl);have a7:∀ j i',j≠o→(Q7 s.own j).live=true→Oid (pl j) i'→i'≠id:=fun j i' hj hl hi e=>by
      subst e;exact hG.sep j o i' hj hl ai hi (by rw[h2];rfl)
     have aD:σ.mapAt id=some (es,clock,true):=by simp[Heap.mapAt,h3]
     refine⟨.tuple #[],σ.upd id (.obj (.map (Uw (evV kx) es) clock) true),pl,_,_,?_,h,hG.writeF o _ (hG.le.upd a8 _) ai (fun j i' hj hl hi=>Heap.get_upd_ne _ _ (a7 j i' hj hl hi)) ?_,by simp[SR]⟩
     ·simp only[Q5,Zm,ha.1,h2,aD];rw[if_pos (by rw[Nv b8 hk,h4.1.keys b8];rfl)]
     ·exact⟨id,_,_,h2,Heap.get_upd_self _ _ (σ.lt h3),LH b8 hk h4.1,h4.2.del⟩
    ·cases h
   ·cases h
  ·cases h
 ·cases h
theorem II {mk:MK}{kk:Kind}(hk:gq.mkP mk kk=true) (x:kk.T):gq.keq kk x x=true:=by
 unfold gq.mkP at hk;split at hk
 ·simp[gq.keq]
 ·simp[gq.keq]
 ·simp[gq.keq]
 ·cases hk
theorem Tp:∀ {k:Kind}{l r:List MK},gq.mkAt k l=some r→∀ x:k.T,gq.keq k x x=true
 |.pair a b,l,r,hk,x=>by
  simp only[gq.mkAt] at hk;split at hk
  ·rename_i q hq;simp only[gq.keq,Tp hq,Tp hk,Bool.and_self]
  ·cases hk
 |.i _,m::l,r,hk,x|.bo,m::l,r,hk,x|.st,m::l,r,hk,x|.list _,m::l,r,hk,x=>by
  simp only[gq.mkAt] at hk;cases hp:gq.mkP m _ with
  |false=>rw[hp] at hk;cases hk
  |true=>exact II hp x
 |.i _,[],r,hk,x|.bo,[],r,hk,x|.st,[],r,hk,x|.list _,[],r,hk,x=>by cases hk
theorem Q0s {mk:MK}{kk:Kind}(hk:gq.mkOk mk kk=true) (x:kk.T):gq.keq kk x x=true:=by
 unfold gq.mkOk at hk;cases ho:kk.one with
 |true=>rw[ho] at hk;exact II hk x
 |false =>
  rw[ho] at hk;simp only[_root_.cond_false] at hk;split at hk
  ·split at hk
   ·rename_i hr;exact Tp hr x
   ·cases hk
  ·cases hk
theorem Ct {k v:Value}(hk:Wx k k=true) (clock:Nat):∀ es:List JU,Qh k (Qv k v clock es).1=some (k,v,match Qh k es with|some e=>e.2.2|none=>clock)
 |[]=>by simp[Qv,Qh,hk]
 |e::es=>by
  simp only[Qv,Qh];cases he:Wx k e.1 with
  |true=>simp[Qh,hk]
  |false =>simp only[Bool.false_eq_true,if_false,Qh,he];exact Ct hk clock es
theorem C8 {k v:Value}{clock:Nat}:∀ {es:List JU}{e:JU},Qh k es=some e→∃ j:Nat,es[j]?=some e∧Qv k v clock es=(es.set j (k,v,e.2.2),clock)
 |[],e,h=>by cases h
 |a::es,e,h=>by
  simp only[Qh] at h;split at h
  ·rename_i he;obtain rfl:=osj h;exact⟨0,rfl,by simp[Qv,he]⟩
  ·rename_i he;obtain⟨j,h1,h2⟩:=C8 (v:=v) (clock:=clock) h;exact⟨j+1,by simpa using h1,by simp[Qv,he,h2]⟩
theorem Tm (af:∀ x,SR P B pl tb (ev x) (evV x)) (hG:Gam P B F pl tb s env σ) {mk:MK}{z:Value}{m kx:Operand}(h:gn C d (.ext (.mapEntry mk z m kx)) ev s K):∃ u σ' v s' T kv aV i es c,T=Qt d (.ext (.mapEntry mk z m kx)) ev∧Q5 (.ext (.mapEntry mk z m kx)) evV σ=some (u,σ')∧K v s'∧(Gam P B F pl tb s' env σ'∧Fr T s s' pl pl σ σ')∧SR P B pl tb v u ∧
  (Q7 s'.own T).live=true∧pl T=.map (some i)∧σ.get i=some (.obj (.map es c) true)∧σ'.get i=some (.obj (.map (Qv kv aV c es).1 (Qv kv aV c es).2) true)∧ZD mk kv=true∧es.all (fun e=>ZD mk e.1)=true∧aV=(match Qh kv es with|some e=>e.2.1|none=>z):=by
 have ha:=af m;simp only[gn] at h;split at h
 ·rename_i o h1;have hT:Qt d (.ext (.mapEntry mk z m kx)) ev=o:=by simp only[Qt,h1]
  rw[h1] at ha;simp only[SR] at ha;have ak:=hG.obj o;split at h
  ·rename_i kk vk l ho;rw[ho] at ak;have ai:(Q7 s.own o).live=true:=by rw[ho];rfl
   obtain⟨id,es,clock,h2,h3,h4⟩:=ak;split at h
   ·rename_i hc;obtain⟨b8,vJ⟩:=hc;split at h
    ·rename_i key aN;have hk:=Nh aN (af kx) QA;have hz:KV B vk vk.dflt z:=Pb vJ;have a8:F.get id=none:=hG.fresh o id ai (by rw[h2];rfl);have a7:∀ j i',j≠o→(Q7 s.own j).live=true→Oid (pl j) i'→i'≠id:=fun j i' hj hl hi e=>by
      subst e;exact hG.sep j o i' hj hl ai hi (by rw[h2];rfl)
     have aD:σ.mapAt id=some (es,clock,true):=by simp[Heap.mapAt,h3]
     have tv:Wx (evV kx) (evV kx)=true:=by rw[Bg b8 hk hk];exact Q0s b8 key
     obtain⟨aV,n,hold,fY⟩:∃ (aV:Value) (n:Nat),KV B vk (gq.aget kk l key vk.dflt) aV∧Q5 (.ext (.mapEntry mk z m kx)) evV σ=some (.tuple #[aV,.int .i64 n],σ.upd id (.obj (.map (Qv (evV kx) aV clock es).1 (Qv (evV kx) aV clock es).2) true))∧Qh (evV kx) (Qv (evV kx) aV clock es).1=some (evV kx,aV,n)∧aV=(match Qh (evV kx) es with|some e=>e.2.1|none=>z):=by
      rcases MR.find b8 hk hz h4.1 with⟨e,k1,_,k3⟩|⟨k1,_,k3⟩
      ·refine⟨e.2.1,e.2.2,k3,?_,?_,by rw[k1]⟩
       ·simp only[Q5,Zm,ha.1,h2,aD];rw[if_pos (by rw[Nv b8 hk,h4.1.keys b8];rfl),k1]
       ·rw[Ct tv,k1]
      ·refine⟨z,clock,by rw[k3];exact hz,?_,?_,by rw[k1]⟩
       ·simp only[Q5,Zm,ha.1,h2,aD];rw[if_pos (by rw[Nv b8 hk,h4.1.keys b8];rfl),k1]
       ·rw[Ct tv,k1]
     obtain⟨fY,cQ,oG⟩:=fY;obtain⟨r,hr,_⟩:=C8 (v:=aV) (clock:=clock) cQ;refine⟨_,_,_,_,o,evV kx,aV,id,es,clock,hT.symm,fY,h n,hG.writeF o _ (hG.le.upd a8 _) ai (fun j i' hj hl hi=>Heap.get_upd_ne _ _ (a7 j i' hj hl hi)) ?_,?_,by simp[Qb,OB.live],h2,h3,Heap.get_upd_self _ _ (σ.lt h3),Nv b8 hk,h4.1.keys b8,oG⟩
     ·exact⟨id,_,_,r,_,h2,Heap.get_upd_self _ _ (σ.lt h3),⟨GB b8 hk hold h4.1,h4.2.put⟩,hr,hk,cQ,rfl,mk,b8⟩
     ·simp only[SR,SRs];exact⟨_,rfl,_,_,rfl,XO hold,_,_,rfl,by simp[KC],rfl⟩
    ·cases h
   ·cases h
  ·cases h
 ·cases h
theorem LK (af:∀ x,SR P B pl tb (ev x) (evV x)) (hG:Gam P B F pl tb s env σ) {mk:MK}{z:Value}{m kx:Operand}(h:gn C d (.ext (.mapEntry mk z m kx)) ev s K):NOk P B F tb (.ext (.mapEntry mk z m kx)) evV env σ K (Qt d (.ext (.mapEntry mk z m kx)) ev) s pl:=by obtain⟨u,σ',v,s',T,kv,aV,i,es,c,rfl,h1,h2,h3,h4,_⟩:=Tm af hG h;exact⟨u,σ',pl,v,s',h1,h2,h3,h4⟩
theorem Pj (af:∀ x,SR P B pl tb (ev x) (evV x)) (hG:Gam P B F pl tb s env σ) {m st vx:Operand}(h:gn C d (.ext (.entryStore m st vx)) ev s K):NOk P B F tb (.ext (.entryStore m st vx)) evV env σ K (Qt d (.ext (.entryStore m st vx)) ev) s pl:=by
 have ha:=af m;simp only[gn] at h;split at h
 ·rename_i o h1;have hT:Qt d (.ext (.entryStore m st vx)) ev=o:=by simp only[Qt,h1]
  rw[hT];rw[h1] at ha;simp only[SR] at ha;have ak:=hG.obj o;split at h
  ·rename_i kk vk l key n ho;rw[ho] at ak;have ai:(Q7 s.own o).live=true:=by rw[ho];rfl
   obtain⟨id,es,clock,r,e,h2,h3,h4,h5,h6,h7,h8,mk,b8⟩:=ak;split at h
   ·rename_i n' x bj hx;obtain⟨rfl,h⟩:=h;have vK:=ZY bj (af st);have hv:=Nh hx (af vx) QA;have a8:F.get id=none:=hG.fresh o id ai (by rw[h2];rfl);have a7:∀ j i',j≠o→(Q7 s.own j).live=true→Oid (pl j) i'→i'≠id:=fun j i' hj hl hi e=>by
     subst e;exact hG.sep j o i' hj hl ai hi (by rw[h2];rfl)
    have aD:σ.mapAt id=some (es,clock,true):=by simp[Heap.mapAt,h3]
    obtain⟨q,hq,cm⟩:=C8 (v:=evV vx) (clock:=clock) h7;obtain rfl:q=r:=H0 h4.2 hq h5 rfl;have ij:es.findIdx? (fun a=>(a.2.2:Int)==n')=some q:=by
     obtain⟨nc,heq⟩:=List.getElem?_eq_some_iff.1 hq;rw[List.findIdx?_eq_some_iff_getElem];refine⟨nc,by rw[heq,h8];simp,fun j hj=>?_⟩;have bZ:j<es.length:=by omega
     cases hb:((es[j].2.2:Int)==n') with
     |false=>simp
     |true =>
      have:es[j].2.2=e.2.2:=by have:=eq_of_beq hb;omega
      have:=H0 h4.2 (List.getElem?_eq_getElem bZ) hq this;omega
    refine⟨undef,σ.upd id (.obj (.map (es.set q (e.1,evV vx,e.2.2)) clock) true),pl,_,_,?_,h,hG.writeF o _ (hG.le.upd a8 _) ai (fun j i' hj hl hi=>Heap.get_upd_ne _ _ (a7 j i' hj hl hi)) ?_,by simp[SR]⟩
    ·simp only[Q5,Zm,ha.1,h2,vK,aD,ij,hq]
    ·refine⟨id,_,_,h2,Heap.get_upd_self _ _ (σ.lt h3),?_⟩;have e1:=congrArg (fun x:List JU×Nat=>x.1) cm;have e2:=congrArg (fun x:List JU×Nat=>x.2) cm;simp only at e1 e2;have k1:=GB (clock:=clock) b8 h6 hv h4.1;have k2:=h4.2.put (k:=e.1) (v:=evV vx);rw[e1] at k1 k2;rw[e2] at k2;exact⟨k1,k2⟩
   ·cases h
  ·cases h
 ·cases h
theorem Rr (hG:Gam P B F pl tb s env σ) {o ty:Nat}{k:Kind}{xs ys:List k.T}{nl:Bool}(ho:Q7 s.own o=.lst ty k xs nl) {size lo n:Nat}(aC:k.size=size) (pI:lo+n≤xs.length) {dv sv:Value}{a b:Operand}(kz:evV a=dv) (tw:evV b=sv)
  (hs:SlRel σ k.size (KC B k) ys sv) (hd:(n=0∧∃ c,dv=.slice none 0 c∨∃ x,dv=.slice x 0 c)∨∃ i len cap aq,pl o=.slice (some ⟨i,0,none⟩) len cap∧dv=.slice (some ⟨i,lo*size,none⟩) n aq)
  {s':St}(bc:s'=⟨s.env,oset s.own o (.lst ty k (xs.take lo++(ys.take n++xs.drop (lo+Nat.min ys.length n))) nl),s.nx⟩) (h:K (.val (.i .i64) (Nat.min ys.length n:Nat)) s'):NOk P B F tb (.ext (.copy size a b)) evV env σ K o s pl:=by
 subst bc;have ai:(Q7 s.own o).live=true:=by rw[ho];rfl
 have ak:=hG.obj o;rw[ho] at ak;by_cases hm:Nat.min ys.length n=0
 ·have oH:xs.take lo++(ys.take n++xs.drop (lo+Nat.min ys.length n))=xs:=by
   rw[hm,Nat.add_zero];have:ys.take n=[]:=by
    have:min ys.length n=0:=hm;rcases Nat.le_total ys.length n with h|h
    ·have:ys.length=0:=by omega
     rw[List.length_eq_zero_iff.1 this];simp
    ·have:n=0:=by omega
     rw[this];rfl
   rw[this,List.nil_append,List.take_append_drop]
  refine⟨.int .i64 0,σ,pl,_,_,?_,h,?_,?_⟩
  ·obtain⟨aa,cc,e⟩:=hs.len;have oD:∃ x c,dv=.slice x n c:=by
    rcases hd with⟨rfl,c,hd|⟨x,hd⟩⟩|⟨i,len,cap,aq,_,hd⟩
    ·exact⟨_,_,hd⟩
    ·exact⟨_,_,hd⟩
    ·exact⟨_,_,hd⟩
   obtain⟨x,c,oD⟩:=oD;simp only[Q5,Zm,kz,tw,oD,e];rw[if_pos (show min ys.length n=0 from hm)]
  ·rw[oH];exact hG.writeF o _ hG.le ai (fun _ _ _ _ _=>rfl) ak
  ·rw[hm];exact XY _ _
 ·have pZ:0<min ys.length n:=Nat.pos_of_ne_zero hm;have na:Nat.min ys.length n≤n:=Nat.min_le_right _ _;have w_:Nat.min ys.length n≤ys.length:=Nat.min_le_left _ _;rcases hd with⟨rfl,_⟩|⟨i,len,cap,aq,h1,h2⟩
  ·simp at pZ
  rcases hs with⟨rfl,_⟩|⟨si,so,jK,sc,se,xc,st,h3,h4,h5,h6,h7,h8⟩
  ·simp at pZ
  rcases ak with⟨_,_,h9⟩|⟨rfl,i',eT,c,t,h9,bW,fN,nj,p5⟩
  ·rw[h1] at h9;cases h9
  rw[h1] at h9;obtain⟨rfl,rfl,rfl⟩:=(by simpa using h9:i=i'∧len=xs.length∧cap=eT);have a8:F.get i=none:=hG.fresh o i ai (by rw[h1];rfl);have a7:∀ j i',j≠o→(Q7 s.own j).live=true→Oid (pl j) i'→i'≠i:=fun j i' hj hl hi e=>by subst e;exact hG.sep j o i' hj hl ai hi (by rw[h1];rfl)
  have cF:=h8.take KC.rows_len (Nat.min ys.length n);have oI:Nat.min ys.length n*k.size≤ys.length*k.size:=Nat.mul_le_mul_right _ (Nat.min_le_left _ _);rw[List.take_take,Nat.min_eq_left oI] at cF;have ah:=cF.cellOk;have hlen:((sc.drop so).take (Nat.min ys.length n*k.size)).length=Nat.min ys.length n*k.size:=by rw[cF.length KC.rows_len,show (ys.take (Nat.min ys.length n)).length=Nat.min ys.length n by rw[List.length_take];exact Nat.min_eq_left (Nat.min_le_left _ _)]
  have mX:σ.sl size (.slice (some ⟨si,so,none⟩) (min ys.length n) jK)=some ((sc.drop so).take (Nat.min ys.length n*k.size)):=by simp only[Heap.sl,h5];rw[if_pos ⟨by rw[h6,aC],by rw[←aC];have:min ys.length n*k.size≤ys.length*k.size:=oI;omega⟩,←aC]
  have aL:lo*k.size+Nat.min ys.length n*k.size≤xs.length*k.size:=by rw[←Nat.add_mul];exact Nat.mul_le_mul_right _ (by omega)
  have dV:=Nat.mul_le_mul_right k.size bW;refine⟨.int .i64 (Nat.min ys.length n:Nat),σ.upd i (.cells (Q8 c (lo*k.size) ((sc.drop so).take (Nat.min ys.length n*k.size))) ⟨k.size,ty⟩ true t),pl,_,_,?_,h,?_,XY _ _⟩
  ·simp only[Q5,Zm,kz,tw,h2,h3];rw[if_neg (show ¬ min ys.length n=0 from hm)];simp only[mX,fN];rw[if_pos ⟨trivial,aC,by rw[hlen,←aC];omega,ah⟩,←aC]
  ·have l6:(xs.take lo++(ys.take n++xs.drop (lo+Nat.min ys.length n))).length=xs.length:=by
    have:Nat.min ys.length n=min n ys.length:=Nat.min_comm _ _;simp only[List.length_append,List.length_take,List.length_drop];omega
   refine hG.writeF o _ (hG.le.upd a8 _) ai (fun j i' hj hl hi=>Heap.get_upd_ne _ _ (a7 j i' hj hl hi)) (.inr ⟨rfl,i,cap,_,t,by rw[l6];exact h1,by rw[l6];exact bW,Heap.get_upd_self _ _ (σ.lt fN),by rw[Wz];exact nj,?_⟩);rw[l6];have e1:=IP ((sc.drop so).take (Nat.min ys.length n*k.size)) c (m:=xs.length*k.size) (p:=lo*k.size) (n:=Nat.min ys.length n*k.size) (off:=0) (by omega) aL (by omega);rw[Nat.add_zero] at e1;rw[e1];have e2:Q8 (((c.take (xs.length*k.size)).drop (lo*k.size)).take (Nat.min ys.length n*k.size)) 0 ((sc.drop so).take (Nat.min ys.length n*k.size))=(sc.drop so).take (Nat.min ys.length n*k.size):=by
    have l1:(((c.take (xs.length*k.size)).drop (lo*k.size)).take (Nat.min ys.length n*k.size)).length=Nat.min ys.length n*k.size:=by simp;omega
    generalize ((c.take (xs.length*k.size)).drop (lo*k.size)).take (Nat.min ys.length n*k.size)=row at l1;generalize (sc.drop so).take (Nat.min ys.length n*k.size)=us at hlen;rw[Gz (by omega),Nat.zero_add,List.take_zero,List.nil_append,List.drop_of_length_le (by omega),List.append_nil]
   rw[e2,List.append_assoc];have e3:ys.take n=ys.take (Nat.min ys.length n):=by
    rcases Nat.le_total ys.length n with h|h
    ·rw[show Nat.min ys.length n=ys.length from Nat.min_eq_left h,List.take_of_length_le h,List.take_of_length_le (Nat.le_refl _)]
    ·rw[show Nat.min ys.length n=n from Nat.min_eq_right h]
   rw[e3];have hd:=p5.drop KC.rows_len (lo+Nat.min ys.length n);rw[Nat.add_mul] at hd;exact(p5.take KC.rows_len lo).append (cF.append hd)
theorem Lb:∀ xs:List UInt8,Rows (KC B (.i .u8)) (xs.map fun b=>(b.toNat:Int)) (xs.map fun b=>Value.int .u8 (b.toNat:Int))
 |[]=>.nil
 |x::xs=>.cons (c:=[.int .u8 (x.toNat:Int)]) rfl (Lb xs)
theorem Ln (af:∀ x,SR P B pl tb (ev x) (evV x)) (hG:Gam P B F pl tb s env σ) {e:Nat}{x:Operand}(h:gn C d (.ext (.strBytes e x)) ev s K):NOk P B F tb (.ext (.strBytes e x)) evV env σ K (Qt d (.ext (.strBytes e x)) ev) s pl:=by
 simp only[gn] at h;split at h
 ·rename_i xs h1;have e1:=Ux h1 (af x);obtain⟨hlen,h⟩:=h;have hlen:xs.length≤4611686018427387904:=hlen;have aC:(⟨xs.toArray⟩:ByteArray).size=xs.length:=by show xs.toArray.size=_;simp
  refine⟨.slice (some ⟨σ.n,0,none⟩) xs.length xs.length,σ.push (.cells (xs.map fun b=>Value.int .u8 (b.toNat:Int)) ⟨1,e⟩ true false),X4 pl d (.slice (some ⟨σ.n,0,none⟩) xs.length xs.length),_,_,?_,h,hG.pushF d _ _ _ rfl ?_,?_⟩
  ·simp only[Q5,Zm,e1,aC];rw[if_pos (by exact hlen)]
  ·refine .inr ⟨rfl,σ.n,xs.length,_,false,by rw[List.length_map],by rw[List.length_map];exact Nat.le_refl _,Heap.get_push_self _ _,by rw[List.length_map];simp[Kind.size],?_⟩;rw[List.take_of_length_le (by simp[Kind.size])];exact Lb xs
  ·simp only[SR,WA];exact⟨trivial,_,_,_,rfl⟩
 ·cases h
theorem R_ (af:∀ x,SR P B pl tb (ev x) (evV x)) (hG:Gam P B F pl tb s env σ) {e:Nat}{a n:Operand}(h:gn C d (.ext (.unsafeStr e a n)) ev s K):NOk P B F tb (.ext (.unsafeStr e a n)) evV env σ K (Qt d (.ext (.unsafeStr e a n)) ev) s pl:=by
 have ha:=af a;simp only[gn] at h;split at h
 ·rename_i k h1 h2;have hn:=ZY h2 (af n);obtain⟨hk,hK⟩:=h;have hk:k=0:=hk;rw[h1] at ha;simp only[SR] at ha;refine⟨.string ⟨#[]⟩,σ,pl,_,_,?_,hK,⟨hG,fun q _=>⟨rfl,rfl,fun _ _ _=>rfl⟩⟩,Rm []⟩;simp only[Q5,Zm,ha,hn,hk,if_true]
 ·rename_i o k h1 h2;have hn:=ZY h2 (af n);have hT:Qt d (.ext (.unsafeStr e a n)) ev=o:=by simp only[Qt,h1]
  rw[hT];rw[h1] at ha;simp only[SR,DR] at ha;split at h
  ·rename_i ty xs nl ho;split at h
   ·rename_i ji;obtain⟨hk,hlen,hK⟩:=h;have hk:k=xs.length:=hk;have hlen:xs.length≤4611686018427387904:=hlen;have ak:=hG.obj o;rw[ho] at ak;have bg:∀ {σ':Heap},F.Le σ'→(∀ j i,j≠o→(Q7 s.own j).live=true→Oid (pl j) i→σ'.get i=σ.get i)→Gam P B F (X4 pl o poison) tb (s.make o .dead) env σ'∧Fr o s (s.make o .dead) pl (X4 pl o poison) σ σ':=fun {σ'} h3 h4 =>
     hG.makeF o .dead poison h3 h4 trivial fun i hl=>by cases hl
    rcases ak with⟨_,hx,hp⟩|⟨_,i,cap,c,t,hp,cR,hg,cG,cj⟩
    ·subst hx;refine⟨.string ⟨#[]⟩,σ,_,_,_,?_,hK,bg hG.le (fun _ _ _ _ _=>rfl),Rm []⟩;rcases ha with⟨_,hv⟩|⟨b,n',aq,hv,m_,_⟩
     ·simp only[Q5,Zm,hv,hn,hk];rfl
     ·rw[hp] at hv;cases hv
    ·rcases ha with⟨hv,_⟩|⟨b,n',aq,hv,m_,vL⟩
     ·rw[hp] at hv;cases hv
     ·rw[hp] at hv;have hv:=hv;simp only[phd,Value.slice.injEq,Option.some.injEq] at hv;obtain⟨hb,oJ,_⟩:=hv;have vM:i=b:=by injection hb
      subst vM;subst oJ;have aC:Kind.size (.i .u8)=1:=rfl;rw[aC,Nat.mul_one] at cj cG;have nR:=Eb cj;have ai:(Q7 s.own o).live=true:=by rw[ho];rfl
      have a8:F.get i=none:=hG.fresh o i ai (by rw[hp];rfl);refine⟨.string ⟨(xs.map fun x=>x.toNat.toUInt8).toArray⟩,σ.upd i (.cells c ⟨1,ty⟩ false t),_,_,_,?_,hK,bg (hG.le.upd a8 _) (fun j i' hj hl hi=>Heap.get_upd_ne _ _ fun e=>by
       subst e;exact hG.sep j o i' hj hl ai hi (by rw[hp];rfl)),Rm _⟩
      have g7:¬ k=0:=by omega
      have jy:k.toNat=xs.length:=by omega
      simp only[Q5,Zm,vL,hn,if_neg g7,hg,aC];rw[if_pos ⟨by omega,by omega,ji,by omega⟩];simp only[List.drop_zero,jy,nR]
   ·cases h
  ·cases h
 ·cases h
theorem Q5n (af:∀ x,SR P B pl tb (ev x) (evV x)) (hG:Gam P B F pl tb s env σ) {size:Nat}{a b:Operand}(h:gn C d (.ext (.copy size a b)) ev s K):NOk P B F tb (.ext (.copy size a b)) evV env σ K (Qt d (.ext (.copy size a b)) ev) s pl:=by
 have ha:=af a;simp only[gn] at h;split at h
 ·rename_i o h1;have hT:Qt d (.ext (.copy size a b)) ev=o:=by simp only[Qt,h1]
  rw[hT];rw[h1] at ha;simp only[SR] at ha;split at h
  ·rename_i ty k xs nl ho;split at h
   ·rename_i aC;split at h
    ·rename_i ys hy;have hs:=YN hG.leB hG.obj hy (af b);have ak:=hG.obj o;rw[ho] at ak;refine Rr hG ho (lo:=0) (n:=xs.length) aC (by omega) ha.1 rfl hs ?_ ?_ h
     ·rcases ak with⟨_,rfl,h3⟩|⟨_,i,cap,c,t,h3,_⟩
      ·exact .inl ⟨rfl,0,.inl h3⟩
      ·exact .inr ⟨i,_,cap,cap,h3,by rw[h3];simp⟩
     ·have:xs.drop ys.length=xs.drop (0+Nat.min ys.length xs.length):=by
       rcases Nat.le_total ys.length xs.length with h|h
       ·rw[show Nat.min ys.length xs.length=ys.length from Nat.min_eq_left h,Nat.zero_add]
       ·rw[show Nat.min ys.length xs.length=xs.length from Nat.min_eq_right h,Nat.zero_add,List.drop_of_length_le h,List.drop_of_length_le (Nat.le_refl _)]
      rw[this];rfl
    ·cases h
   ·cases h
  ·cases h
 ·rename_i o lo n sz h1;have hT:Qt d (.ext (.copy size a b)) ev=o:=by simp only[Qt,h1]
  rw[hT];rw[h1] at ha;simp only[SR] at ha;split at h
  ·rename_i ty k xs nl ho;split at h
   ·rename_i aC;split at h
    ·rename_i ys hy;have hs:=YN hG.leB hG.obj hy (af b);have ak:=hG.obj o;rw[ho] at ak;rcases ha with⟨rfl,rfl,h2,h3⟩|⟨i,len,cap,aq,h2,h3,h4,h5⟩
     ·refine Rr hG ho (lo:=0) (n:=0) aC.1 (by omega) h2 rfl hs (.inl ⟨rfl,0,.inl rfl⟩) rfl h
     ·rcases ak with⟨_,_,h6⟩|⟨_,i',eT,c,t,h6,_⟩
      ·rw[h2] at h6;cases h6
      ·rw[h2] at h6;obtain⟨rfl,rfl,rfl⟩:=(by simpa using h6:i=i'∧len=xs.length∧cap=eT);exact Rr hG ho (lo:=lo) (n:=n) aC.1 h3 h5 rfl hs (.inr ⟨i,_,cap,aq,h2,by rw[aC.2]⟩) rfl h
    ·cases h
   ·cases h
  ·cases h
 ·cases h
end
theorem Q27 (hG:Gam P B F pl tb s env σ) (d:Nat) (kk vk:Kind):Gam P B F (X4 pl d (.map (some σ.n))) tb (s.make d (.map kk vk [])) env (σ.push (.obj (.map [] 0) true))∧SR P B (X4 pl d (.map (some σ.n))) tb (.map d) (.map (some σ.n)):=by refine⟨hG.push d _ _ _ rfl ⟨σ.n,[],0,rfl,Heap.get_push_self _ _,rfl,List.nodup_nil,fun _ h=>by cases h⟩,?_⟩;simp only[SR,WA];exact⟨trivial,_,rfl⟩
end
end Go.V
namespace Go.V
open Go
def Q54 (ρ1 ρ2:Plc):Prop:=∀ i p2,ρ2 i=some p2→∃ p1,ρ1 i=some p1∧p2.blk=p1.blk∧p2.shift=p1.shift∧p2.ext=p1.ext∧p2.esz=p1.esz∧(p2.tight=true→p1.tight=true)
theorem VRel.loose {ρ1 ρ2:Plc}{n:Nat}(hl:Q54 ρ1 ρ2) {v c:Value}(h:VRel ρ1 n v c):VRel ρ2 n v c:=by
 induction h with
 |poison c=>exact .poison c
 |bool b=>exact .bool b
 |int k x=>exact .int k x
 |string s=>exact .string s
 |nilPtr=>exact .nilPtr
 |nilSl=>exact .nilSl
 |nilMap=>exact .nilMap
 |nilFunc=>exact .nilFunc
 |nilIface=>exact .nilIface
 |glob g o s=>exact .glob g o s
 |ptr i o a hi h =>refine .ptr i o a hi fun p hp=>?_;obtain⟨p1,h1,h2,h3,_⟩:=hl i p hp;rw[h2,h3];exact h p1 h1
 |sl i o len cap a aq hi h =>refine .sl i o len cap a aq hi fun p hp=>?_;obtain⟨p1,h1,h2,h3,h4,h5,h6⟩:=hl i p hp;obtain⟨k1,k2,k3⟩:=h p1 h1;rw[h2,h3,h4,h5];exact⟨k1,fun ht=>k2 (h6 ht),k3⟩
 |map i r hi h =>refine .map i r hi fun p hp=>?_;obtain⟨p1,h1,h2,_⟩:=hl i p hp;rw[h2];exact h p1 h1
 |yield i r hi h =>refine .yield i r hi fun p hp=>?_;obtain⟨p1,h1,h2,_⟩:=hl i p hp;rw[h2];exact h p1 h1
 |iface t v c _ ih=>exact .iface t v c ih
 |func fn fs gs cs ds hf hc _ _ ju jv=>exact .func fn fs gs cs ds hf hc ju jv
 |agg cs ds hc _ ih=>exact .agg cs ds hc ih
 |tuple cs ds hc _ ih=>exact .tuple cs ds hc ih
theorem LRel.loose {ρ1 ρ2:Plc}{n:Nat}(hl:Q54 ρ1 ρ2) {v c:List Value}(h:LRel ρ1 n v c):LRel ρ2 n v c:=⟨h.1,fun i a b h1 h2=>(h.2 i a b h1 h2).loose hl⟩
theorem ORel.loose {ρ1 ρ2:Plc}{n:Nat}(hl:Q54 ρ1 ρ2) {o:VObj}{O:Obj}(h:ORel ρ1 n o O):ORel ρ2 n o O:=by
 cases o with
 |map es clock =>obtain⟨entries,h1,h2,h3⟩:=h;exact⟨entries,h1,h2,fun k kv hk=>let ⟨e,he,h4,h5,hv⟩:=h3 k kv hk;⟨e,he,h4,h5,hv.loose hl⟩⟩
 |iter m since seen last=>obtain⟨rm,h1,h2⟩:=h;exact⟨rm,h1,h2.loose hl⟩
 |lp env r st pend=>exact⟨h.1,h.2.loose hl⟩
inductive Weak (n0:Nat→Prop):Value→Value→Prop
 |refl (v:Value):Weak n0 v v
 |sl (i len cap:Nat) (hi:n0 i) (hc:len≤cap):Weak n0 (.slice (some ⟨i,0,none⟩) len cap) (.slice (some ⟨i,0,none⟩) len len)
 |agg (cs ds:List Value) (hc:cs.length=ds.length) (h:∀ (i:Nat) (a b:Value),cs[i]?=some a→ds[i]?=some b→Weak n0 a b):Weak n0 (.agg cs.toArray) (.agg ds.toArray)
 |tuple (cs ds:List Value) (hc:cs.length=ds.length) (h:∀ (i:Nat) (a b:Value),cs[i]?=some a→ds[i]?=some b→Weak n0 a b):Weak n0 (.tuple cs.toArray) (.tuple ds.toArray)
theorem Weak.rel {ρ:Plc}{n:Nat}{n0:Nat→Prop}(hρ:∀ i p,n0 i→ρ i=some p→p.tight=false) {v v':Value}(h:Weak n0 v v'):∀ {c:Value},VRel ρ n v c→VRel ρ n v' c:=by
 induction h with
 |refl v=>exact fun h=>h
 |sl i len cap hi hc =>
  intro c h;cases h with
  |sl _ _ _ _ a aq b6 h =>
   refine .sl _ _ _ _ _ _ b6 fun p hp=>?_;obtain⟨k1,k2,o',k3,k4,k5⟩:=h p hp;refine⟨by omega,(fun ht=>by rw[hρ i p hi hp] at ht;cases ht),o',k3,k4,?_⟩;rcases k5 with k5|k5
   ·exact .inl k5
   ·exact .inr ⟨k5.1,k5.1⟩
 |agg cs ds hc h ih =>
  intro c hr;cases hr with
  |agg _ es cA hr =>
   refine .agg _ _ (by simpa [hc] using cA) fun i h1 h2=>?_;have l1:i<cs.length:=by simpa [hc] using h1
   have l2:i<ds.length:=by simpa using h1
   have:=ih i cs[i] ds[i] (List.getElem?_eq_getElem l1) (List.getElem?_eq_getElem l2) (hr i (by simpa using l1) h2);simpa using this
 |tuple cs ds hc h ih =>
  intro c hr;cases hr with
  |tuple _ es cA hr =>
   refine .tuple _ _ (by simpa [hc] using cA) fun i h1 h2=>?_;have l1:i<cs.length:=by simpa [hc] using h1
   have l2:i<ds.length:=by simpa using h1
   have:=ih i cs[i] ds[i] (List.getElem?_eq_getElem l1) (List.getElem?_eq_getElem l2) (hr i (by simpa using l1) h2);simpa using this
theorem DropTo.trans {σ0 σ1 σ2 σ3:Heap}{v1 v2 v3:Value}(h:DropTo σ0 v1 σ1 v2 σ2) (k:DropTo σ0 v2 σ2 v3 σ3):DropTo σ0 v1 σ1 v3 σ3:=by intro ρ0 w0 ρ w c fZ hE hH hv;obtain⟨ρ',gu,gB,bU⟩:=h ρ0 w0 ρ w c fZ hE hH hv;exact k ρ0 w0 ρ' w c fZ bU gB gu
theorem DropTo.weaken {σ0 σ1 σ2:Heap}{v v':Value}(S:Nat→Bool) (hS:∀ i,S i=true→σ0.n≤i) (hn:σ2.n=σ1.n) (h0:σ0.n≤σ1.n) (h1:∀ i,S i=false→σ2.get i=σ1.get i)
  (h2:∀ i,S i=true→∃ c e wr t m,σ1.get i=some (.cells c e wr t)∧σ2.get i=some (.cells (c.take m) e wr false)) (hv:Weak (fun i=>S i=true) v v'):DropTo σ0 v σ1 v' σ2:=by
 intro ρ0 w0 ρ w c fZ hE hH eA;let ρ':Plc:=fun i=>if S i=false then ρ i else (ρ i).map fun p=>{p with tight:=false}
 have hl:Q54 ρ ρ':=fun i p2 hp=>by
  change (if S i=false then ρ i else (ρ i).map fun p=>{p with tight:=false})=some p2 at hp;by_cases hi:S i=false
  ·rw[if_pos hi] at hp;exact⟨p2,hp,rfl,rfl,rfl,rfl,fun h=>h⟩
  ·rw[if_neg hi,Option.map_eq_some_iff] at hp;obtain⟨p1,gC,rfl⟩:=hp;exact⟨p1,gC,rfl,rfl,rfl,rfl,fun h=>by cases h⟩
 have eD:∀ i p2,ρ' i=some p2→∃ p1,ρ i=some p1∧p2.blk=p1.blk∧p2.ext=p1.ext:=fun i p2 hp=>by obtain⟨p1,k1,k2,k3,k4,_⟩:=hl i p2 hp;exact⟨p1,k1,k2,k4⟩
 have gm:∀ i b,σ2.get i=some b→∃ b1,σ1.get i=some b1∧b.wr=b1.wr:=fun i b hb=>by
  by_cases hi:S i=false
  ·rw[h1 i hi] at hb;exact⟨b,hb,rfl⟩
  ·obtain⟨c,e,wr,t,m,k1,k2⟩:=h2 i (by simpa using hi);rw[k2] at hb;obtain rfl:=osj hb;exact⟨_,k1,rfl⟩
 have hX:Ext ρ0 σ0 w0 ρ' σ2 w:=by
  refine⟨hE.os,hE.tape,hE.output,hE.size,hE.keep,?_,by omega,fun i hi p hp=>?_⟩
  ·rintro B hB ⟨i,p,b,hp,hb,hw,rfl⟩;obtain⟨p1,k1,k2,_⟩:=eD i p hp;obtain⟨b1,k7,k8⟩:=gm i b hb;exact hE.wr _ hB ⟨i,p1,b1,k1,k7,by rw[←k8];exact hw,k2.symm⟩
  ·have:S i=false:=by
    cases hs:S i with
    |false=>rfl
    |true=>have:=hS i hs;omega
   simp only[ρ',this,if_true] at hp;exact hE.pl i hi p hp
 refine⟨ρ',?_,fZ.ext ⟨fun i b hb=>?_,fun i hi=>?_,fun i p hp=>?_,fun i j p q b ct hp hq hb hw hx=>?_⟩ hX,hX⟩
 ·rw[hn];refine hv.rel (fun i p hi hp=>?_) (eA.loose hl);have:¬ S i=false:=by simp[hi]
  change (if S i=false then ρ i else (ρ i).map fun p=>{p with tight:=false})=some p at hp;rw[if_neg this,Option.map_eq_some_iff] at hp;obtain⟨p1,_,rfl⟩:=hp;rfl
 ·by_cases hi:S i=false
  ·rw[h1 i hi] at hb;obtain⟨p,hp,hB⟩:=hH.live i b hb;refine⟨p,by simp only[ρ',hi,if_true];exact hp,?_⟩;rw[hn];cases b with
   |cells c e wr t =>obtain⟨k1,k2,k3,k4,k5,k6⟩:=hB;exact⟨k1,k2,k3,k4,fun k v hk=>let ⟨u,a1,a2⟩:=k5 k v hk;⟨u,a1,a2.loose hl⟩,k6⟩
   |obj o wr =>obtain⟨k1,O,k2,k3⟩:=hB;exact⟨k1,O,k2,k3.loose hl⟩
  ·obtain⟨c,e,wr,t,m,k1,k2⟩:=h2 i (by simpa using hi);rw[k2] at hb;obtain rfl:=osj hb;obtain⟨p,hp,hB⟩:=hH.live i _ k1;obtain⟨a1,a2,a3,a4,a5,a6⟩:=hB;refine⟨{p with tight:=false},by simp[ρ',hi,hp],a1,rfl,by simp;omega,a4,fun k v hk=>?_,fun gm=>⟨(fun h=>by cases h),(a6 gm).2⟩⟩;rw[List.getElem?_take] at hk;split at hk
   ·obtain⟨u,b1,b2⟩:=a5 k v hk;rw[hn];exact⟨u,b1,b2.loose hl⟩
   ·cases hk
 ·have hd:σ1.get i=none:=by
   by_cases b6:S i=false
   ·rw[←h1 i b6];exact hi
   ·obtain⟨c,e,wr,t,m,k1,k2⟩:=h2 i (by simpa using b6);rw[k2] at hi;cases hi
  have:=hH.dead i hd;simp only[ρ',this];split<;>rfl
 ·obtain⟨p1,k1,k2,_⟩:=eD i p hp;rw[k2];exact hH.lt i p1 k1
 ·obtain⟨p1,k1,k2,k3⟩:=eD i p hp;obtain⟨q1,k4,k5,k6⟩:=eD j q hq;obtain⟨b1,k7,k8⟩:=gm i b hb;rw[k2,k5];exact hH.sep i j p1 q1 b1 ct k1 k4 k7 (by rw[←k8];exact hw) (by rw[←k6];exact hx)
def mkP (σ:Heap) (v:Value) (is:List Nat):Value:=.tuple (v::is.map fun i=>match σ.get i with|some b=>Z5m i b|none=>.bool true).toArray
theorem KO.imp {H H':Heap}:∀ {k:Kind}{q:Option Nat}{x:k.T}{cs:List Value}{is:List Nat},KO H q k x cs is→(∀ i∈is,H'.get i=H.get i)→KO H' q k x cs is
 |.i _,_,_,_,_,h,_|.bo,_,_,_,_,h,_|.st,_,_,_,_,h,_=>by simp only[KO] at h ⊢;exact h
 |.list k,q,l,cs,is,h,g=>by
  simp only[KO] at h ⊢;rcases h with h|⟨i,cap,c,e,t,js,h1,rfl,h3,h4,h5,h6,h7,h8⟩
  ·exact .inl h
  ·refine .inr ⟨i,cap,c,e,t,js,h1,rfl,h3,by rw[g i List.mem_cons_self];exact h4,h5,h6,h7,?_⟩;have key:∀ {xs:List k.T}{cs:List Value}{js:List Nat},RowsO (fun x c is=>KO H none k x c is) xs cs js→(∀ i∈js,H'.get i=H.get i)→RowsO (fun x c is=>KO H' none k x c is) xs cs js:=fun h=>by
    induction h with
    |nil=>exact fun _=>.nil
    |cons h _ ih=>exact fun g=>.cons (KO.imp (k:=k) h fun i hi=>g i (List.mem_append_left _ hi)) (ih fun i hi=>g i (List.mem_append_right _ hi))
   exact key h8 fun i hi=>g i (List.mem_cons_of_mem _ hi)
 |.pair a b,_,x,cs,is,h,g=>by simp only[KO] at h ⊢;obtain⟨c1,c2,i1,i2,h1,rfl,h3,h4⟩:=h;exact⟨c1,c2,i1,i2,h1,rfl,h3.imp fun i hi=>g i (List.mem_append_left _ hi),h4.imp fun i hi=>g i (List.mem_append_right _ hi)⟩
theorem KO.cells {H:Heap}:∀ {k:Kind}{q:Option Nat}{x:k.T}{cs:List Value}{is:List Nat},KO H q k x cs is→∀ i∈is,∃ c e t,H.get i=some (.cells c e true t)
 |.i _,_,_,_,_,h,i,hi|.bo,_,_,_,_,h,i,hi|.st,_,_,_,_,h,i,hi=>by simp only[KO] at h;rw[h.2] at hi;cases hi
 |.list k,q,l,cs,is,h,i,hi=>by
  simp only[KO] at h;rcases h with⟨_,_,rfl⟩|⟨i',cap,c,e,t,js,h1,rfl,h3,h4,h5,h6,h7,h8⟩
  ·cases hi
  ·rcases List.mem_cons.1 hi with rfl|hi
   ·exact⟨_,_,_,h4⟩
   ·have key:∀ {xs:List k.T}{cs:List Value}{js:List Nat},RowsO (fun x c is=>KO H none k x c is) xs cs js→∀ i∈js,∃ c e t,H.get i=some (.cells c e true t):=fun h=>by
     induction h with
     |nil=>exact fun i hi=>by cases hi
     |cons h _ ih=>exact fun i hi=>(List.mem_append.1 hi).elim (KO.cells (k:=k) h i) (ih i)
    exact key h8 i hi
 |.pair a b,_,x,cs,is,h,i,hi=>by simp only[KO] at h;obtain⟨c1,c2,i1,i2,h1,rfl,h3,h4⟩:=h;exact(List.mem_append.1 hi).elim (h3.cells i) (h4.cells i)
theorem KO.weak {H:Heap}:∀ {k:Kind}{q:Option Nat}{x:k.T}{cs:List Value}{is:List Nat},KO H q k x cs is→KO H none k x cs is
 |.i _,_,_,_,_,h|.bo,_,_,_,_,h|.st,_,_,_,_,h=>by simp only[KO] at h ⊢;exact h
 |.list k,q,l,cs,is,h=>by
  simp only[KO] at h ⊢;rcases h with h|⟨i,cap,c,e,t,js,h1,h2,h3,h4,h5,h6,h7,h8⟩
  ·exact .inl h
  ·exact .inr ⟨i,cap,c,e,t,js,h1,h2,h3,h4,h5,(fun _ e=>by cases e),h7,h8⟩
 |.pair a b,_,x,cs,is,h=>by simp only[KO] at h ⊢;exact h
theorem KO.rows_len {H:Heap}{q:Option Nat}{k:Kind}:∀ (x:k.T) (c:List Value) (is:List Nat),KO H q k x c is→c.length=k.size:=fun _ _ _ h=>KC.length h.kc
section
variable {α:Type}{R R':α→List Value→List Nat→Prop}{sz:Nat}
theorem RowsH.imp:∀ {xs:List α}{h:Option Nat}{j:Nat}{cs:List Value}{is:List Nat},RowsH R sz h j xs cs is→(∀ x c js,R x c js→(∀ i∈js,i∈is)→R' x c js)→RowsH R' sz h j xs cs is
 |[],_,_,_,_,h,_=>h
 |x::xs,hh,j,cs,is,h,g=>by
  obtain⟨c,cs',i1,i2,rfl,rfl,h1,h2⟩:=h;refine⟨c,cs',i1,i2,rfl,rfl,?_,h2.imp fun x c js hr hj=>g x c js hr fun i hi=>List.mem_append_right _ (hj i hi)⟩;by_cases e:hh=some j
  ·rw[if_pos e] at h1 ⊢;exact h1
  ·rw[if_neg e] at h1 ⊢;exact g _ _ _ h1 fun i hi=>List.mem_append_left _ hi
theorem RowsH.hole:∀ {xs:List α}{h h':Option Nat}{j j':Nat}{cs:List Value}{is:List Nat},RowsH R sz h j xs cs is→(∀ m,h=some (j+m)↔h'=some (j'+m))→RowsH R sz h' j' xs cs is
 |[],_,_,_,_,_,_,h,_=>h
 |x::xs,h,h',j,j',cs,is,hr,g=>by
  obtain⟨c,cs',i1,i2,rfl,rfl,h1,h2⟩:=hr;refine⟨c,cs',i1,i2,rfl,rfl,?_,h2.hole fun m=>?_⟩
  ·have:=g 0;simp only[Nat.add_zero] at this;by_cases e:h=some j
   ·rw[if_pos e] at h1;rw[if_pos (this.1 e)];exact h1
   ·rw[if_neg e] at h1;rw[if_neg fun e'=>e (this.2 e')];exact h1
  ·have:=g (1+m);rw[←Nat.add_assoc,←Nat.add_assoc] at this;exact this
theorem RowsH.length (hR:∀ x c is,R x c is→c.length=sz):∀ {xs:List α}{h:Option Nat}{j:Nat}{cs:List Value}{is:List Nat},RowsH R sz h j xs cs is→cs.length=xs.length*sz
 |[],_,_,_,_,h=>by rw[h.1];simp
 |x::xs,_,j,cs,is,h=>by
  obtain⟨c,cs',i1,i2,rfl,rfl,h1,h2⟩:=h;have hc:c.length=sz:=by
   split at h1
   ·exact h1.1
   ·exact hR _ _ _ h1
  rw[List.length_append,hc,h2.length hR,List.length_cons,Nat.add_mul,Nat.one_mul,Nat.add_comm]
theorem RowsH.append:∀ {xs ys:List α}{j j':Nat}{cs ds:List Value}{is js:List Nat},RowsH R sz none j xs cs is→RowsH R sz none j' ys ds js→RowsH R sz none j (xs++ys) (cs++ds) (is++js)
 |[],ys,j,j',cs,ds,is,js,h,h'=>by obtain⟨rfl,rfl⟩:=h;exact h'.hole fun m=>by simp
 |x::xs,ys,j,j',cs,ds,is,js,h,h'=>by obtain⟨c,cs',i1,i2,rfl,rfl,h1,h2⟩:=h;exact⟨c,cs'++ds,i1,i2++js,by rw[List.append_assoc],by rw[List.append_assoc],h1,h2.append h'⟩
theorem RowsH.replicate {x:α}{c:List Value}(h:R x c []):∀ (n j:Nat),RowsH R sz none j (List.replicate n x) (List.replicate n c).flatten []
 |0,_=>⟨rfl,rfl⟩
 |n+1,j=>⟨c,_,[],[],rfl,rfl,by rw[if_neg (by simp)];exact h,RowsH.replicate h n (j+1)⟩
theorem RowsH.take (hR:∀ x c is,R x c is→c.length=sz):∀ {xs:List α}{j:Nat}{cs:List Value},RowsH R sz none j xs cs []→∀ n,RowsH R sz none j (xs.take n) (cs.take (n*sz)) []
 |[],j,cs,h,n=>by obtain⟨rfl,_⟩:=h;simp[RowsH]
 |x::xs,j,cs,h,0=>by simp[RowsH]
 |x::xs,j,cs,h,n+1=>by
  obtain⟨c,cs',i1,i2,rfl,e,h1,h2⟩:=h;obtain⟨rfl,rfl⟩:=List.append_eq_nil_iff.1 e.symm;have hc:c.length=sz:=by rw[if_neg (by simp)] at h1;exact hR _ _ _ h1
  refine⟨c,cs'.take (n*sz),[],[],?_,rfl,h1,h2.take hR n⟩;rw[Nat.add_mul,Nat.one_mul,Nat.add_comm,List.take_append,hc,List.take_of_length_le (by omega),Nat.add_sub_cancel_left]
theorem RowsH.set (hR:∀ x c is,R x c is→c.length=sz):∀ {xs:List α}{h h':Option Nat}{j i:Nat}{cs:List Value}{is:List Nat}{x:α}{c':List Value}{inew:List Nat},
  RowsH R sz h j xs cs is→(hi:i<xs.length)→(∀ m,m≠i→(h=some (j+m)↔h'=some (j+m)))→c'.length=sz→(if h'=some (j+i) then inew=[] else R x c' inew) →
  ∃ oK ix oL,is=oK++ix++oL∧RowsH R sz h' j (xs.set i x) (cs.take (i*sz)++c'++cs.drop (i*sz+sz)) (oK++inew++oL)∧(if h=some (j+i) then ix=[] else R xs[i] ((cs.drop (i*sz)).take sz) ix)
 |[],_,_,_,_,_,_,_,_,_,_,hi,_,_,_=>by simp at hi
 |y::ys,h,h',j,0,cs,is,x,c',inew,hr,hi,g,hl,hn=>by
  obtain⟨c,cs',i1,i2,rfl,rfl,h1,h2⟩:=hr;have hc:c.length=sz:=by
   split at h1
   ·exact h1.1
   ·exact hR _ _ _ h1
  have ht:RowsH R sz h' (j+1) ys cs' i2:=h2.hole fun m=>by have:=g (m+1) (by omega);rw[show j+1+m=j+(m+1) by omega];exact this
  refine⟨[],i1,i2,rfl,?_,?_⟩
  ·rw[List.set_cons_zero];refine⟨c',cs',inew,i2,?_,rfl,?_,ht⟩
   ·rw[Nat.zero_mul,List.take_zero,List.nil_append,Nat.zero_add,List.drop_append,hc,Nat.sub_self,List.drop_zero,List.drop_of_length_le (by omega),List.nil_append]
   ·rw[Nat.add_zero] at hn;split
    ·rename_i e;rw[if_pos e] at hn;exact⟨hl,hn⟩
    ·rename_i e;rw[if_neg e] at hn;exact hn
  ·rw[Nat.add_zero];split
   ·rename_i e;rw[if_pos e] at h1;exact h1.2
   ·rename_i e;rw[if_neg e] at h1;rw[Nat.zero_mul,List.drop_zero,List.take_append,hc,Nat.sub_self,List.take_zero,List.append_nil,List.take_of_length_le (by omega)];exact h1
 |y::ys,h,h',j,i+1,cs,is,x,c',inew,hr,hi,g,hl,hn=>by
  obtain⟨c,cs',i1,i2,rfl,rfl,h1,h2⟩:=hr;have hc:c.length=sz:=by
   split at h1
   ·exact h1.1
   ·exact hR _ _ _ h1
  obtain⟨oK,ix,oL,rfl,k1,k2⟩:=RowsH.set hR h2 (i:=i) (h':=h') (x:=x) (c':=c') (inew:=inew) (by simpa using hi) (fun m hm=>by
   have:=g (m+1) (by omega);rw[show j+1+m=j+(m+1) by omega];exact this) hl (by rw[show j+1+i=j+(i+1) by omega];exact hn)
  have e0:(i+1)*sz=sz+i*sz:=by rw[Nat.add_mul,Nat.one_mul,Nat.add_comm]
  refine⟨i1++oK,ix,oL,by simp[List.append_assoc],?_,?_⟩
  ·rw[List.set_cons_succ];refine⟨c,_,i1,oK++inew++oL,?_,by simp[List.append_assoc],?_,k1⟩
   ·have e1:(c++cs').take ((i+1)*sz)=c++cs'.take (i*sz):=by
     rw[e0,List.take_append,hc,List.take_of_length_le (by omega),Nat.add_sub_cancel_left]
    have e2:(c++cs').drop ((i+1)*sz+sz)=cs'.drop (i*sz+sz):=by rw[e0,List.drop_append,hc,List.drop_of_length_le (by omega),List.nil_append];congr 1;omega
    rw[e1,e2];simp[List.append_assoc]
   ·have:=g 0 (by omega);rw[Nat.add_zero] at this;by_cases e:h=some j
    ·rw[if_pos e] at h1;rw[if_pos (this.1 e)];exact h1
    ·rw[if_neg e] at h1;rw[if_neg fun e'=>e (this.2 e')];exact h1
  ·rw[show j+(i+1)=j+1+i by omega];have e3:(c++cs').drop ((i+1)*sz)=cs'.drop (i*sz):=by
    rw[e0,List.drop_append,hc,List.drop_of_length_le (by omega),List.nil_append];congr 1;omega
   rw[e3];exact k2
end
theorem DO.imp {H H':Heap}{ty:Nat}{q:Option Nat}{k:Kind}{xs:List k.T}{h:Option Nat}{v:Value}{is:List Nat}(hd:DO H ty q k xs h v is) (g:∀ i∈is,H'.get i=H.get i):DO H' ty q k xs h v is:=by
 rcases hd with hd|⟨i,cap,c,t,js,h1,rfl,h3,h4,h5,h6⟩
 ·exact .inl hd
 ·exact .inr ⟨i,cap,c,t,js,h1,rfl,h3,by rw[g i List.mem_cons_self];exact h4,h5,h6.imp fun x c xd hr hj=>KO.imp hr fun i hi=>g i (List.mem_cons_of_mem _ (hj i hi))⟩
theorem RowsH.cells {H:Heap}{q:Option Nat}{k:Kind}{sz:Nat}:∀ {xs:List k.T}{h:Option Nat}{j:Nat}{cs:List Value}{is:List Nat},RowsH (KO H q k) sz h j xs cs is→∀ i∈is,∃ c e t,H.get i=some (.cells c e true t)
 |[],_,_,_,_,h,i,hi=>by rw[h.2] at hi;cases hi
 |x::xs,_,j,cs,is,h,i,hi=>by
  obtain⟨c,cs',i1,i2,rfl,rfl,h1,h2⟩:=h;rcases List.mem_append.1 hi with hi|hi
  ·split at h1
   ·rw[h1.2] at hi;cases hi
   ·exact KO.cells h1 i hi
  ·exact h2.cells i hi
theorem DO.cells {H:Heap}{ty:Nat}{q:Option Nat}{k:Kind}{xs:List k.T}{h:Option Nat}{v:Value}{is:List Nat}(hd:DO H ty q k xs h v is):∀ i∈is,∃ c e t,H.get i=some (.cells c e true t):=by
 rcases hd with⟨_,_,rfl⟩|⟨i,cap,c,t,js,h1,rfl,h3,h4,h5,h6⟩
 ·exact fun i hi=>by cases hi
 ·exact fun j hj=>(List.mem_cons.1 hj).elim (fun e=>by subst e;exact⟨_,_,_,h4⟩) (h6.cells j)
theorem DP.open {σ:Heap}{p:Value}{ty:Nat}{q:Option Nat}{k:Kind}{xs:List k.T}{nl:Bool}{h:Option Nat}(hd:DP σ p ty q k xs nl h) :
  ∃ is,is.Nodup∧DO σ ty q k xs h (phd p) is∧(∀ i,Oid p i↔i∈is)∧(nl=true↔phd p=.slice none 0 0):=by
 obtain⟨is,hO,h1,h2,h3,h4,h5⟩:=hd;refine⟨is,h1,h2.imp fun i hi=>?_,fun i=>(hO i).trans (h3 i),h5⟩;obtain⟨b,hb⟩:=(h3 i).2 hi;rw[hb,h4 i b hb]
end Go.V
namespace Go.V
open Go
section
variable {P:Program}{B F:Heap}{pl:Nat→Value}{tb:Nat→Option Bool}{s:St}{env:Env}{σ σ':Heap}
theorem KO.nil {H:Heap}{q:Option Nat}{k:Kind}:KO H q (.list k) [] [.slice none 0 0] []:=by unfold KO;exact .inl ⟨rfl,rfl,rfl⟩
def FrL (Ts:List Nat) (s s':St) (pl pl':Nat→Value) (σ σ':Heap):Prop :=
 ∀ q,q∉Ts→(Q7 s'.own q).live=(Q7 s.own q).live∧pl' q=pl q∧((Q7 s.own q).live=true→∀ i,Oid (pl q) i→σ'.get i=σ.get i)
theorem FrL.mono {Ts tx:List Nat}{s s':St}{pl pl':Nat→Value}{σ σ':Heap}(h:FrL Ts s s' pl pl' σ σ') (hs:∀ t∈Ts,t∈tx):FrL tx s s' pl pl' σ σ':=fun q hq=>h q fun h=>hq (hs q h)
def Q95 (P:Program) (B F:Heap) (tb:Nat→Option Bool) (o:VOp) (evV:Operand→Value) (env:Env) (σ:Heap) (K:SV→St→Prop) (Ts:List Nat) (s:St) (pl:Nat→Value):Prop :=
 ∃ u σ' pl' v s',Q5 o evV σ=some (u,σ')∧K v s'∧(Gam P B F pl' tb s' env σ'∧FrL Ts s s' pl pl' σ σ')∧SR P B pl' tb v u
section
variable {C:Cx}{d:Nat}{ev:Operand→SV}{evV:Operand→Value}{K:SV→St→Prop}
theorem DO.sl {ty:Nat}{q:Option Nat}{k:Kind}{xs:List k.T}{v:Value}{is:List Nat}(hd:DO σ ty q k xs none v is) (hn:is.Nodup) :
  ∃ a cap cs js,v=.slice a xs.length cap∧σ.sl k.size v=some cs∧RowsH (KO σ q k) k.size none 0 xs cs js∧(∀ i∈js,i∈is)∧js.Nodup∧cs.all cellOk=true∧cs.length=xs.length*k.size:=by
 rcases hd with⟨rfl,rfl,rfl⟩|⟨i,cap,c,t,js,rfl,rfl,h1,h3,h4,h5⟩
 ·exact⟨_,_,[],[],rfl,rfl,⟨rfl,rfl⟩,fun i hi=>hi,List.nodup_nil,rfl,by simp⟩
 ·have hl:=h5.length KO.rows_len;refine⟨_,_,c.take (xs.length*k.size),js,rfl,?_,h5,fun i hi=>List.mem_cons_of_mem _ hi,(List.nodup_cons.1 hn).2,(h5.rows (R':=KC σ k) fun _ _ _ h=>h.kc).cellOk,hl⟩;have:=Nat.mul_le_mul_right k.size h1;simp only[Heap.sl,h3];rw[if_pos ⟨trivial,by omega⟩];simp
theorem TX (af:∀ x,SR P B pl tb (ev x) (evV x)) (hG:Gam P B F pl tb s env σ) {o:VOp}(h:gnd C d o ev s K):Q95 P B F tb o evV env σ K (Ea d o ev) s pl:=h.elim
end
end
end Go.V
namespace Go.V
open Go
def X0:Nat→Value:=fun _=>poison
def ZF:Nat→Option Bool:=fun _=>none
def hNil:Heap:=⟨fun _=>none,0,fun _ _=>rfl⟩
theorem IH (B:Heap):hNil.Le B:=⟨Nat.zero_le _,fun i b h=>by cases h⟩
section
variable {P:Program}
mutual
theorem SR.retd {B B':Heap}{pl pl':Nat→Value}{tb tb':Nat→Option Bool}{n:Nat}(hp:∀ j,j<n→pl' j=pl j) :
  ∀ (s:SV) (v:Value),s.ret n=true→SR P B pl tb s v→SR P B' pl' tb' s v
 |.any,_,h,_|.bid _ _,_,h,_|.grd _ _,_,h,_|.sub _ _ _ _,_,h,_|.elp _ _ _ _,_,h,_|.rop _ _ _ _,_,h,_|.cp _ _,_,h,_|.fn _ _ _,_,h,_|.pf _ _ _ _,_,h,_=>by cases h
 |.val k x,v,h,hs=>by simp only[SR] at hs ⊢;exact KC.flat h hs
 |.nilS,v,_,hs|.nilP,v,_,hs|.nilM,v,_,hs|.nilF,v,_,hs=>by simp only[SR] at hs ⊢;exact hs
 |.lst j,v,h,hs=>by
  have hj:j<n:=by simpa [SV.ret,Nat.blt_eq] using h
  simp only[SR] at hs ⊢;rw[hp j hj];exact hs
 |.map j,v,h,hs=>by
  have hj:j<n:=by simpa [SV.ret,Nat.blt_eq] using h
  simp only[SR] at hs ⊢;rw[hp j hj];exact hs
 |.dd j w,v,h,hs=>by
  cases w with
  |out =>
   have hj:j<n:=by simpa [SV.ret,Nat.blt_eq] using h
   simp only[SR] at hs ⊢;rw[hp j hj];exact hs
  |_=>cases h
 |.box j off,v,h,hs=>by
  have hj:j<n:=by simpa [SV.ret,Nat.blt_eq] using h
  simp only[SR] at hs ⊢;rw[hp j hj];exact hs
 |.agg l,v,h,hs=>by simp only[SR] at hs ⊢;obtain⟨cs,h1,h2⟩:=hs;exact⟨cs,h1,SRs.retd hp l cs h h2⟩
 |.tup l,v,h,hs=>by simp only[SR] at hs ⊢;obtain⟨cs,h1,h2⟩:=hs;exact⟨cs,h1,SRs.retd hp l cs h h2⟩
theorem SRs.retd {B B':Heap}{pl pl':Nat→Value}{tb tb':Nat→Option Bool}{n:Nat}(hp:∀ j,j<n→pl' j=pl j) :
  ∀ (s:List SV) (v:List Value),SVs.ret n s=true→SRs P B pl tb s v→SRs P B' pl' tb' s v
 |[],v,_,hs=>by simp only[SRs] at hs ⊢;exact hs
 |s::ss,v,h,hs=>by simp only[SVs.ret,Bool.and_eq_true] at h;simp only[SRs] at hs ⊢;obtain⟨x,y,h1,h2,h3⟩:=hs;exact⟨x,y,h1,SR.retd hp s x h.1 h2,SRs.retd hp ss y h.2 h3⟩
end
mutual
theorem SR.ren {B:Heap}{pl pl':Nat→Value}{tb tb':Nat→Option Bool}{n d nt:Nat}(hp:∀ j,j<n→pl' (d+j*nt)=pl j) :
  ∀ (s:SV) (v:Value),s.ret n=true→SR P B pl tb s v→SR P B pl' tb' (s.ren d nt) v
 |.any,_,h,_|.bid _ _,_,h,_|.grd _ _,_,h,_|.sub _ _ _ _,_,h,_|.elp _ _ _ _,_,h,_|.rop _ _ _ _,_,h,_|.cp _ _,_,h,_|.fn _ _ _,_,h,_|.pf _ _ _ _,_,h,_=>by cases h
 |.val k x,v,h,hs=>by simp only[SR,SV.ren] at hs ⊢;exact hs
 |.nilS,v,_,hs|.nilP,v,_,hs|.nilM,v,_,hs|.nilF,v,_,hs=>by simp only[SR,SV.ren] at hs ⊢;exact hs
 |.lst j,v,h,hs=>by
  have hj:j<n:=by simpa [SV.ret,Nat.blt_eq] using h
  simp only[SR,SV.ren] at hs ⊢;rw[hp j hj];exact hs
 |.map j,v,h,hs=>by
  have hj:j<n:=by simpa [SV.ret,Nat.blt_eq] using h
  simp only[SR,SV.ren] at hs ⊢;rw[hp j hj];exact hs
 |.dd j w,v,h,hs=>by
  cases w with
  |out =>
   have hj:j<n:=by simpa [SV.ret,Nat.blt_eq] using h
   simp only[SR,SV.ren] at hs ⊢;rw[hp j hj];exact hs
  |_=>cases h
 |.box j off,v,h,hs=>by
  have hj:j<n:=by simpa [SV.ret,Nat.blt_eq] using h
  simp only[SR,SV.ren] at hs ⊢;rw[hp j hj];exact hs
 |.agg l,v,h,hs=>by simp only[SR,SV.ren] at hs ⊢;obtain⟨cs,h1,h2⟩:=hs;exact⟨cs,h1,SRs.ren hp l cs h h2⟩
 |.tup l,v,h,hs=>by simp only[SR,SV.ren] at hs ⊢;obtain⟨cs,h1,h2⟩:=hs;exact⟨cs,h1,SRs.ren hp l cs h h2⟩
theorem SRs.ren {B:Heap}{pl pl':Nat→Value}{tb tb':Nat→Option Bool}{n d nt:Nat}(hp:∀ j,j<n→pl' (d+j*nt)=pl j) :
  ∀ (s:List SV) (v:List Value),SVs.ret n s=true→SRs P B pl tb s v→SRs P B pl' tb' (SVs.ren d nt s) v
 |[],v,_,hs=>by simp only[SRs,SVs.ren] at hs ⊢;exact hs
 |s::ss,v,h,hs=>by simp only[SVs.ret,Bool.and_eq_true] at h;simp only[SRs,SVs.ren] at hs ⊢;obtain⟨x,y,h1,h2,h3⟩:=hs;exact⟨x,y,h1,SR.ren hp s x h.1 h2,SRs.ren hp ss y h.2 h3⟩
end
theorem MR.flat {B B':Heap}{kk vk:Kind}(h1:kk.flat=true) (h2:vk.flat=true):∀ {m:List (kk.T×vk.T)}{es:List JU},MR B kk vk m es→MR B' kk vk m es
 |[],es,h=>h
 |m::ms,es,h=>by obtain⟨e,bR,k1,k2,k3,k4⟩:=h;exact⟨e,bR,k1,k2.flat h1,k3.flat h2,MR.flat h1 h2 k4⟩
theorem OR.retd {B B':Heap}{pl pl':Nat→Value}{tb tb':Nat→Option Bool}{σ σ':Heap}{p:Value}{b:OB}(hb:b.ret=true) (h:OR P B pl tb σ p b) (hg:∀ i,Oid p i→σ'.get i=σ.get i):OR P B' pl' tb' σ' p b:=by
 cases b with
 |dead=>trivial
 |lst ty k xs nl =>
  rcases h with h|⟨h0,i,cap,c,t,h1,h2,h3,h4,h5⟩
  ·exact .inl h
  ·exact .inr ⟨h0,i,cap,c,t,h1,h2,by rw[hg i (by rw[h1];rfl)];exact h3,h4,h5.mono fun _ _ e=>KC.flat hb e⟩
 |cells l u =>obtain⟨i,c,e,t,h1,h2,h3,h4⟩:=h;exact⟨i,c,e,t,h1,by rw[hg i (by rw[h1];rfl)];exact h2,SRs.retd (n:=0) (fun j hj=>by omega) l c hb h3,h4⟩
 |map kk vk m =>simp only[OB.ret,Bool.and_eq_true] at hb;obtain⟨i,es,clock,h1,h2,h3⟩:=h;exact⟨i,es,clock,h1,by rw[hg i (by rw[h1];rfl)];exact h2,h3.1.flat hb.1 hb.2,h3.2⟩
 |stk l vals=>cases hb
 |deep ty q k xs nl hh=>exact DP.mono h hg
 |mapE kk vk m key n=>cases hb
 |iter kk vk m dn=>cases hb
 |lpf l q s=>cases hb
def CZ:(k:Kind)→k.T→List Value
 |.i ik,x=>[.int ik x]
 |.bo,x=>[.bool x]
 |.st,x=>[.string ⟨x.toArray⟩]
 |.list _,_=>[]
 |.pair a b,x=>CZ a x.1++CZ b x.2
def Q3j:OB→Option Blk
 |.lst ty k xs nl=>if nl then none else some (.cells (xs.map (CZ k)).flatten ⟨k.size,ty⟩ true false)
 |_=>none
def Tz (σ:Heap) (bs:List OB):Heap where
 get i:=if i<σ.n then σ.get i else (bs[i-σ.n]?).bind Q3j
 n:=σ.n+bs.length
 wf i h:=by rw[if_neg (by omega),List.getElem?_eq_none (by omega)];rfl
def L9 (σ:Heap) (bs:List OB) (j:Nat):Value:=match bs[j]? with
 |some (.lst _ _ xs nl)=>if nl then .slice none 0 0 else .slice (some ⟨σ.n+j,0,none⟩) xs.length xs.length
 |_=>poison
mutual
def UK (p:Nat→Value):SV→Value
 |.val k x=>(CZ k x).headD poison
 |.nilS=>.slice none 0 0
 |.nilP=>.pointer none
 |.nilM=>.map none
 |.nilF=>.nilFunc
 |.lst j=>p j
 |.agg l=>.agg (KY p l).toArray
 |.tup l=>.tuple (KY p l).toArray
 |_=>poison
def KY (p:Nat→Value):List SV→List Value
 |[]=>[]
 |s::ss=>UK p s::KY p ss
end
def Dead (σ σ':Heap):Prop:=σ.n≤σ'.n∧∀ i,i<σ.n→σ.get i=none→σ'.get i=none
theorem Dead.refl (σ:Heap):Dead σ σ:=⟨Nat.le_refl _,fun _ _ h=>h⟩
theorem Dead.trans {σ0 σ σ':Heap}(h:Dead σ0 σ) (h':Dead σ σ'):Dead σ0 σ':=⟨Nat.le_trans h.1 h'.1,fun i hi hg=>h'.2 i (Nat.lt_of_lt_of_le hi h.1) (h.2 i hi hg)⟩
def Ret (P:Program) (σ:Heap) (v:SV) (bs:List OB) (u:Value) (σ':Heap):Prop :=
 (σ.Le σ'∧Dead σ σ')∧(bs=[]→σ'=σ)∧∃ pl:Nat→Value,(∀ j b,bs[j]?=some b→OR P hNil pl ZF σ' (pl j) b∧∀ i,Oid (pl j) i→σ.get i=none∧σ.n≤i) ∧
  (∀ j j' i,j<bs.length→j'<bs.length→j≠j'→Oid (pl j) i→Oid (pl j') i→False)∧SR P hNil pl ZF v u
def Q2u (P:Program) (ap:SV→List SV→Option (Prop×SV)):Prop :=
 ∀ σ f args c v fV vs,SR P σ X0 ZF f fV→SRs P σ X0 ZF args vs→ap f args=some (c,v)→c→v.ret 0=true∧∃ g a b,fV=.func (.func g) a b∧VCalled P g (a.toList++vs++b.toList) σ fun u σ'=>σ'=σ∧SR P hNil X0 ZF v u
def OkC (P:Program) (f:Nat) (sp:CSp):Prop :=
 ∀ ap,Q2u P ap→∀ σ args vs c v bs,SRs P σ X0 ZF args vs→sp ap args=some (c,v,bs)→v.ret bs.length=true→bs.all OB.ret=true→c→(VCalled P f vs σ fun u σ'=>Ret P σ v bs u σ') ∧
  (bs.all OB.isL=true→Uz v=true→VCalled P f vs σ fun u σ'=>u=UK (L9 σ bs) v∧σ'=Tz σ bs)
def CsOk (P:Program) (cs:List (Nat×CSp)):Prop:=∀ f sp,Qm cs f=some sp→OkC P f sp
theorem VCalled.mono {f:FuncId}{args:List Value}{σ:Heap}{R R':Value→Heap→Prop}(h:VCalled P f args σ R) (hr:∀ v σ',R v σ'→R' v σ'):VCalled P f args σ R':=by
 intro ρ w az hH hL;rcases h ρ w az hH hL with⟨h1,h2⟩|⟨c,h1,h2⟩
 ·exact .inl ⟨h1,h2.mono fun _ _ ⟨c,he,hg⟩=>⟨c,he,hg.mono hr⟩⟩
 ·exact .inr ⟨c,h1.mono hr,h2⟩
theorem TS {B:Heap}{pl:Nat→Value}{tb:Nat→Option Bool}{k:Kind}{v:SV}{u:Value}{x:k.T}(h:gap.asV k v=some x) (hs:SR P B pl tb v u):KV B k x u:=by
 unfold gap.asV at h;cases bQ:k.one with
 |true =>rw[bQ] at h;exact .inl ⟨bQ,QA h (by simp only[SRs];exact⟨u,[],rfl,hs,rfl⟩)⟩
 |false =>
  rw[bQ] at h;simp only[_root_.cond_false] at h;split at h
  ·simp only[SR] at hs;obtain⟨cs,rfl,hs⟩:=hs;exact .inr ⟨bQ,cs,rfl,QA h hs⟩
  ·cases h
theorem L8 {B:Heap}{pl:Nat→Value}{tb:Nat→Option Bool}:∀ {ks:List Kind}{args:List SV}{x:AT ks}{vs:List Value},gap.deca ks args=some x→SRs P B pl tb args vs→L1 B ks x vs
 |[],[],x,vs,_,hs=>by simp only[SRs] at hs;exact hs
 |[],_::_,x,vs,h,_=>by cases h
 |[k],[],x,vs,h,_=>by cases h
 |[k],[v],x,vs,h,hs=>by obtain⟨u,rfl,h1⟩:=hs.one;exact⟨u,rfl,TS h h1⟩
 |[k],_::_::_,x,vs,h,_=>by cases h
 |k::k'::ks,[],x,vs,h,_=>by cases h
 |k::k'::ks,v::args,x,vs,h,hs=>by
  simp only[gap.deca] at h;split at h
  ·rename_i y z h1 h2;obtain rfl:=osj h;simp only[SRs] at hs;obtain⟨u,us,rfl,h3,h4⟩:=hs;exact⟨u,us,rfl,TS h1 h3,L8 h2 h4⟩
  ·cases h
theorem Ret.flat {σ σ':Heap}{v:SV}{u:Value}(h:Ret P σ v [] u σ') (hv:v.ret 0=true):σ'=σ∧SR P hNil X0 ZF v u:=by obtain⟨_,h2,pl,_,_,h5⟩:=h;exact⟨h2 rfl,h5.retd (fun j hj=>by omega) _ _ hv⟩
theorem KV.vcall {B σ:Heap}(hB:B.Le σ) {k:Kind}{x:k.T}{v:Value}(h:KV B k x v):KV σ k x v:=by
 rcases h with⟨h1,h2⟩|⟨h1,cs,h2,h3⟩
 ·exact .inl ⟨h1,h2.mono hB⟩
 ·exact .inr ⟨h1,cs,h2,h3.mono hB⟩
theorem HD:∀ {k:Kind}{x:k.T},k.flat=true→SVs.ret 0 (Ga k x)=true
 |.i _,_,_|.bo,_,_|.st,_,_=>rfl
 |.list _,_,h=>by cases h
 |.pair a b,x,h=>by
  simp only[Kind.flat,Bool.and_eq_true] at h;have app:∀ l m:List SV,SVs.ret 0 l=true→SVs.ret 0 m=true→SVs.ret 0 (l++m)=true:=by
   intro l m hl hm;induction l with
   |nil=>exact hm
   |cons s l ih =>simp only[SVs.ret,Bool.and_eq_true,List.cons_append] at hl ⊢;exact⟨hl.1,ih hl.2⟩
  exact app _ _ (HD h.1) (HD h.2)
theorem Q4l {k:Kind}{x:k.T}(h:k.flat=true):(Q1l k x).ret 0=true:=by
 cases k with
 |pair a b=>exact HD (k:=.pair a b) h
 |list k=>cases h
 |_=>rfl
theorem BU {cs:List (Nat×CSp)}(h:CsOk P cs):∀ n,Q2u P (gap cs n)
 |0=>fun σ f args c v fV vs _ _ h=>by cases h
 |n+1=>by
  intro σ f args c v fV vs hf ha hg hc;cases f with
  |fn g a b =>
   simp only[gap] at hg;split at hg
   ·rename_i sp eH;split at hg
    ·rename_i c' v' heq;cases hv:v'.ret 0 with
     |false=>rw[hv] at hg;cases hg
     |true =>rw[hv] at hg;simp only[_root_.cond_true,Option.some.injEq,Prod.mk.injEq] at hg;obtain⟨rfl,rfl⟩:=hg;simp only[SR] at hf;obtain⟨x,y,rfl,h1,h2⟩:=hf;refine⟨hv,g,x.toArray,y.toArray,rfl,?_⟩;have:=(h g sp eH (gap cs n) (BU h n) σ (a++args++b) (x++vs++y) c' v' [] ((h1.append ha).append h2) heq hv rfl hc).1;simpa using this.mono fun u σ' hr=>hr.flat hv
    ·cases hg
   ·cases hg
  |pf ks r cO p =>
   simp only[gap] at hg;split at hg
   ·rename_i x hx;cases hr:r.flat with
    |false=>rw[hr] at hg;cases hg
    |true =>rw[hr] at hg;obtain⟨rfl,rfl⟩:=Z1 hg;simp only[SR] at hf;obtain⟨g,first,cap,rfl,aB⟩:=hf;have h2:=aB x hc σ vs (Heap.Le.refl _) (L8 hx ha);have dC:=Q4l (x:=p x) hr;exact⟨dC,g,first,cap,rfl,h2.mono fun u σ' hu=>⟨hu.1,(XO (P:=P) (pl:=X0) (tb:=ZF) hu.2).retd (fun j hj=>by omega) _ _ dC⟩⟩
   ·cases hg
  |_=>cases hg
end
end Go.V
namespace Go.V
open Go
theorem DropTo.rename2 {σ0 σf σ':Heap}{v v':Value}(π:Nat→Nat) (h1:σ0.n≤σ'.n)
  (h2:∀ i,i<σ0.n→π i=i∧σ'.get i=σf.get i∧(σf.get i=σ0.get i∨∃ b,σf.get i=some b∧b.plain=true))
  (h3:∀ i,σ0.n≤i→i<σ'.n→σ0.n≤π i∧((σ'.get i=none∧σf.get (π i)=none)∨∃ b' b,σ'.get i=some b'∧σf.get (π i)=some b∧BRen σ'.n π b' b))
  (h4:∀ i j,σ0.n≤i→i<σ'.n→σ0.n≤j→j<σ'.n→π i=π j→i=j) (h5:Ren σ'.n π v' v):DropTo σ0 v σf v' σ':=by
 intro ρ0 w0 ρ w c fZ hE hH hv;have hπ:∀ i,i<σ0.n→π i=i:=fun i hi=>(h2 i hi).1;have aF:∀ i b',σ'.get i=some b'→∃ b,σf.get (π i)=some b∧BRen σ'.n π b' b:=fun i b' hb=>by
  have hi:=σ'.lt hb;rcases Nat.lt_or_ge i σ0.n with aj|bC
  ·obtain⟨k1,k2,k3⟩:=h2 i aj;rw[k1];rw[k2] at hb;refine⟨b',hb,?_⟩;rcases k3 with k3|⟨b,k3,k4⟩
   ·rw[k3] at hb;obtain⟨p,_,hB⟩:=fZ.live i b' hb;exact hB.ren h1 hπ
   ·rw[k3] at hb;obtain rfl:=osj hb;exact BRen.plain k4
  ·obtain⟨_,⟨k1,_⟩|⟨b1,b,k1,k2,k3⟩⟩:=h3 i bC hi
   ·rw[k1] at hb;cases hb
   ·rw[k1] at hb;obtain rfl:=osj hb;exact⟨b,k2,k3⟩
 have dQ:∀ i j,i<σ'.n→j<σ'.n→π i=π j→i=j:=fun i j hi hj he=>by
  rcases Nat.lt_or_ge i σ0.n with aj|bC<;>rcases Nat.lt_or_ge j σ0.n with bX|iI
  ·rw[hπ i aj,hπ j bX] at he;exact he
  ·have:=(h3 j iI hj).1;rw[hπ i aj] at he;omega
  ·have:=(h3 i bC hi).1;rw[hπ j bX] at he;omega
  ·exact h4 i j bC hi iI hj he
 have hX:Ext ρ0 σ0 w0 (fun i=>if i<σ'.n then ρ (π i) else none) σ' w:=by
  refine⟨hE.os,hE.tape,hE.output,hE.size,hE.keep,?_,h1,fun i hi p hp=>?_⟩
  ·rintro B hB ⟨i,p,b,hp,hb,hw,rfl⟩;change (if i<σ'.n then ρ (π i) else none)=some p at hp;split at hp
   ·obtain⟨b0,bp,b_⟩:=aF i b hb;exact hE.wr _ hB ⟨π i,p,b0,hp,bp,by rw[←b_.wr];exact hw,rfl⟩
   ·cases hp
  ·change (if i<σ'.n then ρ (π i) else none)=some p at hp;split at hp
   ·rw[hπ i hi] at hp;exact hE.pl i hi p hp
   ·cases hp
 refine⟨fun i=>if i<σ'.n then ρ (π i) else none,h5.rel hv,fZ.ext ⟨fun i b' hb=>?_,fun i hi=>?_,fun i p hp=>?_,fun i j p q b ct hp hq hb hw hx=>?_⟩ hX,hX⟩
 ·obtain⟨b,bp,b_⟩:=aF i b' hb;obtain⟨p,hp,hB⟩:=hH.live _ b bp;exact⟨p,by simp[σ'.lt hb,hp],b_.rel hB⟩
 ·show (if i<σ'.n then ρ (π i) else none)=none;split
  ·rename_i aj;rcases Nat.lt_or_ge i σ0.n with bX|bC
   ·obtain⟨k1,k2,_⟩:=h2 i bX;rw[k1];exact hH.dead i (by rw[←k2];exact hi)
   ·obtain⟨_,⟨_,k2⟩|⟨b1,b,k1,_⟩⟩:=h3 i bC aj
    ·exact hH.dead _ k2
    ·rw[k1] at hi;cases hi
  ·rfl
 ·change (if i<σ'.n then ρ (π i) else none)=some p at hp;split at hp
  ·exact hH.lt _ p hp
  ·cases hp
 ·change (if i<σ'.n then ρ (π i) else none)=some p at hp;change (if j<σ'.n then ρ (π j) else none)=some q at hq;split at hp
  ·rename_i hi;split at hq
   ·rename_i hj;obtain⟨b0,bp,b_⟩:=aF i b hb;exact hH.sep (π i) (π j) p q b0 (fun e=>ct (dQ i j hi hj e)) hp hq bp (by rw[←b_.wr];exact hw) hx
   ·cases hq
  ·cases hp
theorem KC.enc {h:Heap}:∀ {k:Kind}{x:k.T}{cs:List Value},k.flat=true→KC h k x cs→cs=CZ k x
 |.i _,_,_,_,e|.bo,_,_,_,e|.st,_,_,_,e=>e
 |.list _,_,_,f,_=>by cases f
 |.pair a b,x,cs,f,e=>by simp only[Kind.flat,Bool.and_eq_true] at f;obtain⟨c1,c2,rfl,h1,h2⟩:=e;rw[KC.enc f.1 h1,KC.enc f.2 h2];rfl
theorem Rows.enc {h:Heap}{k:Kind}(hk:k.flat=true) {xs:List k.T}{cs:List Value}(hr:Rows (KC h k) xs cs):cs=(xs.map (CZ k)).flatten:=by
 induction hr with
 |nil=>rfl
 |cons h _ ih=>rw[List.map_cons,List.flatten_cons,←ih,KC.enc hk h]
theorem BV:∀ {k:Kind}{x:k.T},k.flat=true→(CZ k x).all QG=true
 |.i _,_,_|.bo,_,_|.st,_,_=>rfl
 |.list _,_,h=>by cases h
 |.pair a b,x,h=>by simp only[Kind.flat,Bool.and_eq_true] at h;simp only[CZ,List.all_append,Bool.and_eq_true];exact⟨BV h.1,BV h.2⟩
section
variable {P:Program}
mutual
theorem US {B:Heap}{pl:Nat→Value}{tb:Nat→Option Bool}{n:Nat}:∀ (s:SV) (v:Value),s.ret n=true→Uz s=true→SR P B pl tb s v→v=UK pl s
 |.val k x,v,h,_,hs=>by simp only[SR] at hs;have:=KC.enc h hs;simp only[UK,←this,List.headD_cons]
 |.nilS,v,_,_,hs|.nilP,v,_,_,hs|.nilM,v,_,_,hs|.nilF,v,_,_,hs=>by simp only[SR] at hs;exact hs
 |.lst j,v,_,_,hs=>by simp only[SR] at hs;exact hs.1
 |.agg l,v,h,hb,hs=>by simp only[SR] at hs;obtain⟨cs,rfl,h2⟩:=hs;rw[B6 l cs h hb h2];rfl
 |.tup l,v,h,hb,hs=>by simp only[SR] at hs;obtain⟨cs,rfl,h2⟩:=hs;rw[B6 l cs h hb h2];rfl
 |.box _ _,_,_,hb,_|.map _,_,_,hb,_=>by cases hb
 |.any,_,h,_,_|.bid _ _,_,h,_,_|.grd _ _,_,h,_,_|.sub _ _ _ _,_,h,_,_|.elp _ _ _ _,_,h,_,_|.rop _ _ _ _,_,h,_,_|.cp _ _,_,h,_,_|.fn _ _ _,_,h,_,_|.pf _ _ _ _,_,h,_,_=>by cases h
theorem B6 {B:Heap}{pl:Nat→Value}{tb:Nat→Option Bool}{n:Nat}:∀ (s:List SV) (v:List Value),SVs.ret n s=true→MS s=true→SRs P B pl tb s v→v=KY pl s
 |[],v,_,_,hs=>by simp only[SRs] at hs;exact hs
 |s::ss,v,h,hb,hs=>by simp only[SVs.ret,Bool.and_eq_true] at h;simp only[MS,Bool.and_eq_true] at hb;simp only[SRs] at hs;obtain⟨x,y,rfl,h1,h2⟩:=hs;rw[US s x h.1 hb.1 h1,B6 ss y h.2 hb.2 h2];rfl
end
theorem Q0g {k:Kind}{x:k.T}(h:k.flat=true):QG ((CZ k x).headD poison)=true∨(CZ k x).headD poison=poison:=by
 have:=BV (x:=x) h;cases e:CZ k x with
 |nil=>exact .inr rfl
 |cons a l=>rw[e] at this;simp only[List.all_cons,Bool.and_eq_true] at this;exact .inl this.1
mutual
theorem FK {n m:Nat}{π:Nat→Nat}{p q:Nat→Value}(h:∀ j,j<m→Ren n π (p j) (q j)):∀ (s:SV),s.ret m=true→Uz s=true→Ren n π (UK p s) (UK q s)
 |.val k x,hr,_=>by
  simp only[UK];rcases Q0g (x:=x) hr with h|h
  ·exact .plain _ h
  ·rw[h];exact .poison _
 |.nilS,_,_|.nilP,_,_|.nilM,_,_|.nilF,_,_=>.plain _ rfl
 |.lst j,hr,_=>h j (by simpa [SV.ret,Nat.blt_eq] using hr)
 |.agg l,hr,hb=>by have:=TR h l hr hb;simp only[UK];refine .agg _ _ (by simpa using this.1) fun i h1 h2=>this.2 i _ _ (by simp) (by simp)
 |.tup l,hr,hb=>by have:=TR h l hr hb;simp only[UK];refine .tuple _ _ (by simpa using this.1) fun i h1 h2=>this.2 i _ _ (by simp) (by simp)
 |.box _ _,_,hb|.map _,_,hb=>by cases hb
 |.any,h,_|.bid _ _,h,_|.grd _ _,h,_|.sub _ _ _ _,h,_|.elp _ _ _ _,h,_|.rop _ _ _ _,h,_|.cp _ _,h,_|.fn _ _ _,h,_|.pf _ _ _ _,h,_=>by cases h
theorem TR {n m:Nat}{π:Nat→Nat}{p q:Nat→Value}(h:∀ j,j<m→Ren n π (p j) (q j)):∀ (s:List SV),SVs.ret m s=true→MS s=true→LRen n π (KY p s) (KY q s)
 |[],_,_=>⟨rfl,fun i v c hv=>by simp[KY] at hv⟩
 |s::ss,hr,hb=>by
  simp only[SVs.ret,Bool.and_eq_true] at hr;simp only[MS,Bool.and_eq_true] at hb;have h1:=FK h s hr.1 hb.1;have h2:=TR h ss hr.2 hb.2;refine⟨by simp[KY,h2.1],fun i v c hv hc=>?_⟩;cases i with
  |zero=>simp[KY] at hv hc;subst hv;subst hc;exact h1
  |succ i=>simp[KY] at hv hc;exact h2.2 i v c hv hc
end
mutual
theorem AU {m:Nat}{S:Nat→Prop}{p q:Nat→Value}(h:∀ j,j<m→Weak S (p j) (q j)):∀ (s:SV),s.ret m=true→Uz s=true→Weak S (UK p s) (UK q s)
 |.val k x,_,_=>.refl _
 |.nilS,_,_|.nilP,_,_|.nilM,_,_|.nilF,_,_=>.refl _
 |.lst j,hr,_=>h j (by simpa [SV.ret,Nat.blt_eq] using hr)
 |.agg l,hr,hb=>by have:=HT h l hr hb;simp only[UK];exact .agg _ _ this.1 this.2
 |.tup l,hr,hb=>by have:=HT h l hr hb;simp only[UK];exact .tuple _ _ this.1 this.2
 |.box _ _,_,hb|.map _,_,hb=>by cases hb
 |.any,h,_|.bid _ _,h,_|.grd _ _,h,_|.sub _ _ _ _,h,_|.elp _ _ _ _,h,_|.rop _ _ _ _,h,_|.cp _ _,h,_|.fn _ _ _,h,_|.pf _ _ _ _,h,_=>by cases h
theorem HT {m:Nat}{S:Nat→Prop}{p q:Nat→Value}(h:∀ j,j<m→Weak S (p j) (q j)):∀ (s:List SV),SVs.ret m s=true→MS s=true→(KY p s).length=(KY q s).length∧∀ (i:Nat) (a b:Value),(KY p s)[i]?=some a→(KY q s)[i]?=some b→Weak S a b
 |[],_,_=>⟨rfl,fun i v c hv=>by simp[KY] at hv⟩
 |s::ss,hr,hb=>by
  simp only[SVs.ret,Bool.and_eq_true] at hr;simp only[MS,Bool.and_eq_true] at hb;have h1:=AU h s hr.1 hb.1;have h2:=HT h ss hr.2 hb.2;refine⟨by simp[KY,h2.1],fun i v c hv hc=>?_⟩;cases i with
  |zero=>simp[KY] at hv hc;subst hv;subst hc;exact h1
  |succ i=>simp[KY] at hv hc;exact h2.2 i v c hv hc
end
theorem KC.ofEnc {h:Heap}:∀ {k:Kind}{x:k.T},k.flat=true→KC h k x (CZ k x)
 |.i _,_,_|.bo,_,_|.st,_,_=>by simp[KC,CZ]
 |.list _,_,f=>by cases f
 |.pair a b,x,f=>by simp only[Kind.flat,Bool.and_eq_true] at f;exact⟨_,_,rfl,KC.ofEnc f.1,KC.ofEnc f.2⟩
theorem Rows.ofEnc {h:Heap}{k:Kind}(hk:k.flat=true):∀ xs:List k.T,Rows (KC h k) xs (xs.map (CZ k)).flatten
 |[]=>.nil
 |x::xs=>by rw[List.map_cons,List.flatten_cons];exact .cons (KC.ofEnc hk) (Rows.ofEnc hk xs)
mutual
theorem C3 {pl:Nat→Value}{m:Nat}(h:∀ j,j<m→∃ a n c,pl j=.slice a n c):∀ (s:SV),s.ret m=true→Uz s=true→SR P hNil pl ZF s (UK pl s)
 |.val k x,hr,hb=>by have h1:=KC.ofEnc (h:=hNil) (x:=x) hr;have h2:=KC.length h1;rw[Kind.one_size hb] at h2;obtain⟨c,e⟩:=List.length_eq_one_iff.1 h2;simp only[UK,SR,e,List.headD_cons];rw[e] at h1;exact h1
 |.nilS,_,_|.nilP,_,_|.nilM,_,_|.nilF,_,_=>by simp[UK,SR]
 |.lst j,hr,_=>by simp only[UK,SR];exact⟨trivial,h j (by simpa [SV.ret,Nat.blt_eq] using hr)⟩
 |.agg l,hr,hb=>by simp only[UK,SR];exact⟨_,rfl,LS h l hr hb⟩
 |.tup l,hr,hb=>by simp only[UK,SR];exact⟨_,rfl,LS h l hr hb⟩
 |.box _ _,_,hb|.map _,_,hb=>by cases hb
 |.any,h,_|.bid _ _,h,_|.grd _ _,h,_|.sub _ _ _ _,h,_|.elp _ _ _ _,h,_|.rop _ _ _ _,h,_|.cp _ _,h,_|.fn _ _ _,h,_|.pf _ _ _ _,h,_=>by cases h
theorem LS {pl:Nat→Value}{m:Nat}(h:∀ j,j<m→∃ a n c,pl j=.slice a n c):∀ (s:List SV),SVs.ret m s=true→MS s=true→SRs P hNil pl ZF s (KY pl s)
 |[],_,_=>by simp[KY,SRs]
 |s::ss,hr,hb=>by simp only[SVs.ret,Bool.and_eq_true] at hr;simp only[MS,Bool.and_eq_true] at hb;simp only[KY,SRs];exact⟨_,_,rfl,C3 h s hr.1 hb.1,LS h ss hr.2 hb.2⟩
end
theorem Q71 {σ:Heap}{bs:List OB}(hl:bs.all OB.isL=true) {j:Nat}(hj:j<bs.length):∃ a n c,L9 σ bs j=.slice a n c:=by
 have hb:=List.all_eq_true.1 hl _ (List.getElem_mem hj);simp only[L9,List.getElem?_eq_getElem hj];cases e:bs[j] with
 |lst ty k xs nl=>cases nl<;>simp
 |_=>rw[e] at hb;cases hb
theorem Oo {σ0 σf:Heap}(hA:Agree σ0 σf) (hn:σ0.n≤σf.n) {v:SV}{bs:List OB}(hv:v.ret bs.length=true) (cE:Uz v=true) (hb:bs.all OB.ret=true) (hl:bs.all OB.isL=true) {pl:Nat→Value}{u:Value}
  (ak:∀ j b,bs[j]?=some b→OR P hNil pl ZF σf (pl j) b∧∀ i,oid (pl j)=some i→σ0.n≤i)
  (dk:∀ j j' i,j<bs.length→j'<bs.length→j≠j'→oid (pl j)=some i→oid (pl j')=some i→False) (hu:SR P hNil pl ZF v u) :
  DropTo σ0 u σf (UK (L9 σ0 bs) v) (Tz σ0 bs):=by
 have cf:=US v u hv cE hu;subst cf;have kind:∀ j,j<bs.length→∃ ty k xs nl,bs[j]?=some (.lst ty k xs nl)∧k.flat=true∧((nl=true∧xs=[]∧pl j=.slice none 0 0)∨(nl=false∧∃ i cap c t,pl j=.slice (some ⟨i,0,none⟩) xs.length cap∧xs.length≤cap∧σ0.n≤i∧σf.get i=some (.cells c ⟨k.size,ty⟩ true t)∧c.take (xs.length*k.size)=(xs.map (CZ k)).flatten∧Rows (KC hNil k) xs (xs.map (CZ k)).flatten)):=by
  intro j hj;have e:=List.getElem?_eq_getElem hj;have h1:=List.all_eq_true.1 hb _ (List.getElem_mem hj);have h2:=List.all_eq_true.1 hl _ (List.getElem_mem hj);obtain⟨ho,hi⟩:=ak j _ e;cases cK:bs[j] with
  |lst ty k xs nl =>
   rw[cK] at e ho h1;refine⟨ty,k,xs,nl,e,h1,?_⟩;rcases ho with⟨k1,k2,k3⟩|⟨k0,i,cap,c,t,k1,k2,k3,k4,k5⟩
   ·exact .inl ⟨k1,k2,k3⟩
   ·have k6:=Rows.enc h1 k5;exact .inr ⟨k0,i,cap,c,t,k1,k2,hi i (by rw[k1];rfl),k3,k6,by rw[←k6];exact k5⟩
  |_=>rw[cK] at h2;cases h2
 let S:Nat→Bool:=fun i=>(List.range bs.length).any fun j=>decide (oid (pl j)=some i);have hS:∀ i,S i=true↔∃ j,j<bs.length∧oid (pl j)=some i:=fun i=>by simp only[S,List.any_eq_true,List.mem_range,decide_eq_true_eq]
 let σw:Heap:=⟨fun i=>if S i=true then ((List.range bs.length).find? fun j=>decide (oid (pl j)=some i)).bind fun j=>(bs[j]?).bind Q3j else σf.get i,σf.n,fun i hi=>by
  by_cases h:S i=true
  ·obtain⟨j,hj,a8⟩:=(hS i).1 h;obtain⟨ty,k,xs,nl,_,_,h3⟩:=kind j hj;rcases h3 with⟨_,_,k3⟩|⟨_,i',cap,c,t,k1,_,_,k3,_⟩
   ·rw[k3] at a8;cases a8
   ·rw[k1] at a8;obtain rfl:=osj a8;exact absurd (σf.lt k3) (Nat.not_lt.2 hi)
  ·rw[if_neg h];exact σf.wf i hi⟩
 have cQ:∀ j i,j<bs.length→oid (pl j)=some i→σw.get i=(bs[j]?).bind Q3j:=fun j i hj a8=>by
  have h1:S i=true:=(hS i).2 ⟨j,hj,a8⟩;show (if S i=true then _ else _)=_;rw[if_pos h1];cases hf:(List.range bs.length).find? fun j=>decide (oid (pl j)=some i) with
  |none=>have:=List.find?_eq_none.1 hf j (List.mem_range.2 hj);simp[a8] at this
  |some j' =>have h2:=List.find?_some hf;have h3:=List.mem_range.1 (List.mem_of_find?_eq_some hf);have h4:j'=j:=Classical.byContradiction fun aA=>dk j' j i h3 hj aA (by simpa using h2) a8;subst h4;rfl
 let q:Nat→Value:=fun j=>match pl j with
  |.slice (some a) n _=>.slice (some a) n n
  |v=>v
 have hq:∀ j,j<bs.length→Weak (fun i=>S i=true) (pl j) (q j):=fun j hj=>by
  obtain⟨ty,k,xs,nl,_,_,h3⟩:=kind j hj;rcases h3 with⟨_,_,k3⟩|⟨_,i',cap,c,t,k1,k2,_,k3,_⟩
  ·simp only[q,k3];exact .refl _
  ·simp only[q,k1];exact .sl _ _ _ ((hS i').2 ⟨j,hj,by rw[k1];rfl⟩) k2
 have oM:DropTo σ0 (UK pl v) σf (UK q v) σw:=by
  refine DropTo.weaken S (fun i hi=>?_) rfl hn (fun i hi=>?_) (fun i hi=>?_) (AU hq v hv cE)
  ·obtain⟨j,hj,a8⟩:=(hS i).1 hi;exact(ak j _ (List.getElem?_eq_getElem hj)).2 i a8
  ·show (if S i=true then _ else _)=_;rw[if_neg (by simp[hi])]
  ·obtain⟨j,hj,a8⟩:=(hS i).1 hi;obtain⟨ty,k,xs,nl,e,_,h3⟩:=kind j hj;rcases h3 with⟨_,_,k3⟩|⟨k0,i',cap,c,t,k1,k2,_,k3,k4,_⟩
   ·rw[k3] at a8;cases a8
   ·rw[k1] at a8;obtain rfl:=osj a8;refine⟨c,_,true,t,xs.length*k.size,k3,?_⟩;rw[cQ j _ hj (by rw[k1];rfl),e];simp only[Option.bind_some,Q3j,k0];rw[k4];rfl
 have eF:∀ j i,j<bs.length→oid (pl j)=some i→i<σf.n:=fun j i hj a8=>by
  obtain⟨ty,k,xs,nl,_,_,h3⟩:=kind j hj;rcases h3 with⟨_,_,k3⟩|⟨_,i',cap,c,t,k1,_,_,k3,_⟩
  ·rw[k3] at a8;cases a8
  ·rw[k1] at a8;obtain rfl:=osj a8;exact σf.lt k3
 let π:Nat→Nat:=fun i=>if i<σ0.n then i else match oid (pl (i-σ0.n)) with
  |some id=>id
  |none=>σf.n+i
 have vN:σw.n=σf.n:=rfl;have oN:DropTo σ0 (UK q v) σw (UK (L9 σ0 bs) v) (Tz σ0 bs):=by
  refine DropTo.rename2 π (by simp[Tz]) (fun i hi=>⟨by simp[π,hi],?_,.inl ?_⟩) (fun i h1 h2=>?_) (fun i j h1 h2 h3 h4 he=>?_) (FK (fun j hj=>?_) v hv cE)
  ·have hs:S i=false:=by
    cases hs:S i with
    |false=>rfl
    |true=>obtain⟨j,hj,a8⟩:=(hS i).1 hs;have:=(ak j _ (List.getElem?_eq_getElem hj)).2 i a8;omega
   show (if i<σ0.n then _ else _)=(if S i=true then _ else _);rw[if_pos hi,if_neg (by simp[hs]),hA i hi]
  ·have hs:S i=false:=by
    cases hs:S i with
    |false=>rfl
    |true=>obtain⟨j,hj,a8⟩:=(hS i).1 hs;have:=(ak j _ (List.getElem?_eq_getElem hj)).2 i a8;omega
   show (if S i=true then _ else _)=_;rw[if_neg (by simp[hs]),hA i hi]
  ·have hj:i-σ0.n<bs.length:=by simp[Tz] at h2;omega
   have bC:¬ i<σ0.n:=by omega
   obtain⟨ty,k,xs,nl,e,q8,h3⟩:=kind _ hj;have oO:(Tz σ0 bs).get i=(bs[i-σ0.n]?).bind Q3j:=by show (if i<σ0.n then _ else _)=_;rw[if_neg bC]
   rcases h3 with⟨k0,_,k3⟩|⟨k0,i',cap,c,t,k1,k2,l7,k3,k4,_⟩
   ·have hp:π i=σf.n+i:=by simp only[π,if_neg bC,k3,oid]
    refine⟨by omega,.inl ⟨?_,σw.wf _ (by rw[hp,vN];omega)⟩⟩;rw[oO,e];simp[Q3j,k0]
   ·have hp:π i=i':=by simp only[π,if_neg bC,k1,oid]
    rw[hp];have hw:=cQ _ i' hj (by rw[k1];rfl);rw[e] at hw;simp only[Option.bind_some,Q3j,k0] at hw;refine⟨l7,.inr ⟨_,_,?_,hw,BRen.plain ?_⟩⟩
    ·rw[oO,e];simp[Q3j,k0]
    ·simp only[Blk.plain,List.all_flatten,List.all_map];rw[List.all_eq_true];intro x _;exact BV q8
  ·have hi:i-σ0.n<bs.length:=by simp[Tz] at h2;omega
   have hj:j-σ0.n<bs.length:=by simp[Tz] at h4;omega
   have gf:¬ i<σ0.n:=by omega
   have vO:¬ j<σ0.n:=by omega
   simp only[π,if_neg gf,if_neg vO] at he;cases e1:oid (pl (i-σ0.n)) with
   |none =>
    cases e2:oid (pl (j-σ0.n)) with
    |none=>rw[e1,e2] at he;simp only at he;omega
    |some b=>rw[e1,e2] at he;have:=eF _ b hj e2;simp only at he;omega
   |some a =>
    cases e2:oid (pl (j-σ0.n)) with
    |none=>rw[e1,e2] at he;have:=eF _ a hi e1;simp only at he;omega
    |some b =>rw[e1,e2] at he;simp only at he;subst he;have:i-σ0.n=j-σ0.n:=Classical.byContradiction fun aA=>dk _ _ a hi hj aA e1 e2;omega
  ·obtain⟨ty,k,xs,nl,e,_,h3⟩:=kind j hj;rcases h3 with⟨k0,kx,k3⟩|⟨k0,i',cap,c,t,k1,k2,_,k3,_⟩
   ·simp only[L9,e,k0,if_true,q,k3];exact .plain _ rfl
   ·simp only[L9,e,k0,Bool.false_eq_true,if_false,q,k1];have hp:π (σ0.n+j)=i':=by
     have:¬ σ0.n+j<σ0.n:=by omega
     simp only[π,if_neg this,Nat.add_sub_cancel_left,k1,oid]
    have:=Ren.sl (n:=(Tz σ0 bs).n) (π:=π) (σ0.n+j) 0 xs.length xs.length (by simp[Tz];omega)
    rwa [hp] at this
 exact oM.trans oN
def OB.wfL:OB→Prop
 |.lst _ _ xs nl=>nl=true→xs=[]
 |_=>True
theorem AV (σ0:Heap) {v:SV}{bs:List OB}(hv:v.ret bs.length=true) (cE:Uz v=true) (hb:bs.all OB.ret=true) (hl:bs.all OB.isL=true) (hw:∀ b∈bs,b.wfL):Ret P σ0 v bs (UK (L9 σ0 bs) v) (Tz σ0 bs):=by
 have kind:∀ j,j<bs.length→∃ ty k xs nl,bs[j]?=some (.lst ty k xs nl)∧k.flat=true∧(nl=true→xs=[]):=fun j hj=>by
  have e:=List.getElem?_eq_getElem hj;have h1:=List.all_eq_true.1 hb _ (List.getElem_mem hj);have h2:=List.all_eq_true.1 hl _ (List.getElem_mem hj);have h3:=hw _ (List.getElem_mem hj);cases cK:bs[j] with
  |lst ty k xs nl=>rw[cK] at e h1 h3;exact⟨ty,k,xs,nl,e,h1,h3⟩
  |_=>rw[cK] at h2;cases h2
 refine⟨⟨?_,?_⟩,?_,L9 σ0 bs,fun j b hj=>?_,fun j j' i hj cu aA h1 h2=>?_,C3 (fun j hj=>Q71 hl hj) v hv cE⟩
 ·refine⟨by simp[Tz],fun i b hg=>?_⟩;show (if i<σ0.n then _ else _)=_;rw[if_pos (σ0.lt hg)];exact hg
 ·refine⟨by simp[Tz],fun i hi hg=>?_⟩;show (if i<σ0.n then _ else _)=_;rw[if_pos hi];exact hg
 ·rintro rfl;apply Heap.ext'
  ·intro i;show (if i<σ0.n then _ else _)=_;by_cases hi:i<σ0.n
   ·rw[if_pos hi]
   ·rw[if_neg hi,σ0.wf i (by omega)];rfl
  ·simp[Tz]
 ·have bZ:j<bs.length:=(List.getElem?_eq_some_iff.1 hj).1;obtain⟨ty,k,xs,nl,e,q8,h3⟩:=kind j bZ;obtain rfl:=osj (e.symm.trans hj);cases nl with
  |true =>
   have hp:L9 σ0 bs j=.slice none 0 0:=by simp[L9,e]
   rw[hp];exact⟨.inl ⟨rfl,h3 rfl,rfl⟩,fun i hi=>by cases hi⟩
  |false =>
   have hp:L9 σ0 bs j=.slice (some ⟨σ0.n+j,0,none⟩) xs.length xs.length:=by simp[L9,e]
   have k5:=Rows.ofEnc (h:=hNil) q8 xs;have dK:=k5.length KC.rows_len;rw[hp];refine⟨.inr ⟨rfl,σ0.n+j,xs.length,(xs.map (CZ k)).flatten,false,rfl,Nat.le_refl _,?_,by omega,?_⟩,fun i hi=>?_⟩
   ·show (if σ0.n+j<σ0.n then _ else _)=_;rw[if_neg (by omega),Nat.add_sub_cancel_left,e];simp[Q3j]
   ·rw[List.take_of_length_le (by omega)];exact k5
   ·obtain rfl:=osj hi;exact⟨σ0.wf _ (by simp),by simp⟩
 ·obtain⟨ty,k,xs,nl,e,_,h3⟩:=kind j hj;obtain⟨gH,k',cz,hZ,e',_,kU⟩:=kind j' cu;simp only[L9,e] at h1;simp only[L9,e'] at h2;cases nl with
  |true=>simp[Oid,oid] at h1
  |false =>
   cases hZ with
   |true=>simp[Oid,oid] at h2
   |false=>simp[Oid,oid] at h1 h2;omega
end
end Go.V
namespace Go.V
open Go
section
variable {P:Program}{B F:Heap}{pl:Nat→Value}{tb:Nat→Option Bool}{own:Own}{σ:Heap}
mutual
theorem Ou {bx:List SV→Nat→SV}(hle:B.Le σ) (ax:∀ d,OR P B pl tb σ (pl d) (Q7 own d))
  (kV:∀ l off b c e t,σ.get b=some (.cells c e true t)→SRs P B pl tb l c→SR P σ X0 ZF (bx l off) (.pointer (some ⟨b,off,none⟩))) :
  ∀ (s:SV) (v:Value),SR P B pl tb s v→SR P σ X0 ZF (S3 own bx s) v
 |.any,v,h=>by simp[S3,SR]
 |.val k x,v,h=>by simp only[S3,SR] at h ⊢;exact h.mono hle
 |.bid n c,v,h=>by simp only[S3,SR] at h ⊢;obtain⟨rfl,_⟩:=h;rfl
 |.grd gs s,v,h=>by simp[S3,SR]
 |.nilS,v,h=>by simp only[S3,SR] at h ⊢;exact h
 |.nilP,v,h=>by simp only[S3,SR] at h ⊢;exact h
 |.nilM,v,h=>by simp only[S3,SR] at h ⊢;exact h
 |.nilF,v,h=>by simp only[S3,SR] at h ⊢;exact h
 |.lst o,v,h=>by
  simp only[S3];split
  ·rename_i ty k xs nl ho;have:view own k (.lst o)=some xs:=by simp[view,ho,Mo]
   simp only[SR,KC];exact⟨v,rfl,(YN hle ax this h).mono (Heap.Le.refl _) fun _ _ e=>e.mono hle⟩
  ·simp[SR]
 |.sub o lo n sz,v,h=>by
  simp only[S3];split
  ·rename_i ty k xs nl ho;split
   ·rename_i aC;have:view own k (.sub o lo n sz)=some ((xs.drop lo).take n):=by simp[view,ho,Mo,aC]
    simp only[SR,KC];exact⟨v,rfl,(YN hle ax this h).mono (Heap.Le.refl _) fun _ _ e=>e.mono hle⟩
   ·simp[SR]
  ·simp[SR]
 |.elp o i off sz,v,h=>by simp[S3,SR]
 |.dd o w,v,h=>by
  simp only[S3];simp only[SR] at h;split
  ·rename_i ty q k xs nl hole ho;have ak:=ax o;rw[ho] at ak;have dj:=DP.le ak;split
   ·split
    ·obtain⟨h1,_⟩:=h;simp only[SR,KC];refine⟨v,rfl,?_⟩;rw[h1];exact(DP.sl ak).mono dj fun _ _ e=>e.mono dj
    ·simp[SR]
   ·simp only[SR];exact KC.mono dj h
   ·simp only[SR];exact KC.mono dj h.1
   ·simp[SR]
  ·simp[SR]
 |.map o,v,h=>by simp[S3,SR]
 |.tup l,v,h=>by simp[S3,SR]
 |.box o off,v,h=>by
  simp only[S3];split
  ·rename_i l _ ho;have ak:=ax o;rw[ho] at ak;obtain⟨i,c,e,t,h1,h2,h3,_⟩:=ak;simp only[SR] at h;obtain⟨b,h4,rfl⟩:=h;rw[h4] at h1;obtain rfl:=(by simpa using h1:b=i);exact kV l off b c e t h2 h3
  ·simp[SR]
 |.rop k l i off,v,h=>by simp only[S3];exact SR.mono (tb:=tb) hle (fun n c hn=>hn) (.rop k l i off) v h |> fun h=>by simp only[SR] at h ⊢;exact h
 |.cp l off,v,h=>by simp only[S3,SR] at h ⊢;obtain⟨b,c,e,wr,t,h1,h2,h3⟩:=h;exact⟨b,c,e,wr,t,hle.2 _ _ h1,h2,XA hle ax kV l c h3⟩
 |.agg l,v,h=>by simp only[S3,SR] at h ⊢;obtain⟨cs,h1,h2⟩:=h;exact⟨cs,h1,XA hle ax kV l cs h2⟩
 |.fn f a b,v,h=>by simp only[S3,SR] at h ⊢;obtain⟨x,y,h1,h2,h3⟩:=h;exact⟨x,y,h1,XA hle ax kV a x h2,XA hle ax kV b y h3⟩
 |.pf ks r cO p,v,h=>by simp only[S3,SR] at h ⊢;exact h.mono hle
theorem XA {bx:List SV→Nat→SV}(hle:B.Le σ) (ax:∀ d,OR P B pl tb σ (pl d) (Q7 own d))
  (kV:∀ l off b c e t,σ.get b=some (.cells c e true t)→SRs P B pl tb l c→SR P σ X0 ZF (bx l off) (.pointer (some ⟨b,off,none⟩))) :
  ∀ (s:List SV) (v:List Value),SRs P B pl tb s v→SRs P σ X0 ZF (RA own bx s) v
 |[],v,h=>by simp only[RA,SRs] at h ⊢;exact h
 |s::ss,v,h=>by simp only[RA,SRs] at h ⊢;obtain⟨x,y,h1,h2,h3⟩:=h;exact⟨x,y,h1,Ou hle ax kV s x h2,XA hle ax kV ss y h3⟩
end
theorem Vc (hle:B.Le σ) (ax:∀ d,OR P B pl tb σ (pl d) (Q7 own d)) {l:List SV}{v:List Value}(h:SRs P B pl tb l v):SRs P σ X0 ZF (T7 own l) v:=by
 have h0:∀ {l v},SRs P B pl tb l v→SRs P σ X0 ZF (Z4x own l) v:=fun h=>XA hle ax (fun _ _ _ _ _ _ _ _=>by simp[SR]) _ _ h;have h1:∀ {l v},SRs P B pl tb l v→SRs P σ X0 ZF (Z52 own l) v:=fun h=>XA hle ax (fun l off b c e t hg hs=>by
  simp only[SR];exact⟨b,c,e,true,t,hg,rfl,h0 hs⟩) _ _ h
 exact XA hle ax (fun l off b c e t hg hs=>by
  simp only[SR];exact⟨b,c,e,true,t,hg,rfl,h1 hs⟩) _ _ h
mutual
theorem Q35 {p q:Nat→Value}{n:Nat}(h:∀ j,j<n→p j=q j):∀ (s:SV),s.ret n=true→UK p s=UK q s
 |.val _ _,_|.nilS,_|.nilP,_|.nilM,_|.nilF,_=>by simp[UK]
 |.lst j,hr=>by simp only[UK];exact h j (by simpa [SV.ret,Nat.blt_eq] using hr)
 |.agg l,hr=>by simp only[UK];rw[Cb h l hr]
 |.tup l,hr=>by simp only[UK];rw[Cb h l hr]
 |.box _ _,_|.map _,_=>by simp[UK]
 |.dd _ _,_=>by simp[UK]
 |.any,h|.bid _ _,h|.grd _ _,h|.sub _ _ _ _,h|.elp _ _ _ _,h|.rop _ _ _ _,h|.cp _ _,h|.fn _ _ _,h|.pf _ _ _ _,h=>by cases h
theorem Cb {p q:Nat→Value}{n:Nat}(h:∀ j,j<n→p j=q j):∀ (s:List SV),SVs.ret n s=true→KY p s=KY q s
 |[],_=>rfl
 |s::ss,hr=>by simp only[SVs.ret,Bool.and_eq_true] at hr;simp only[KY];rw[Q35 h s hr.1,Cb h ss hr.2]
end
theorem J5 {cs:List (Nat×CSp)}(aw:CsOk P cs) {f:SV}{args:List SV}{c:Prop}{v:SV}{bs:List OB}{fV:Value}{vs:List Value}(hf:SR P σ X0 ZF f fV) (ha:SRs P σ X0 ZF args vs)
  (h:UE cs f args=some (c,v,bs)) (hv:v.ret bs.length=true) (hb:bs.all OB.ret=true) (hc:c):∃ g a b,fV=.func (.func g) a b∧(VCalled P g (a.toList++vs++b.toList) σ fun u σ'=>Ret P σ v bs u σ') ∧
  (bs.all OB.isL=true→Uz v=true→VCalled P g (a.toList++vs++b.toList) σ fun u σ'=>u=UK (L9 σ bs) v∧σ'=Tz σ bs):=by
 have gen:(gap cs 3 f args).map (fun x=>(x.1,x.2,([]:List OB)))=some (c,v,bs)→∃ g a b,fV=.func (.func g) a b∧(VCalled P g (a.toList++vs++b.toList) σ fun u σ'=>Ret P σ v bs u σ') ∧
   (bs.all OB.isL=true→Uz v=true→VCalled P g (a.toList++vs++b.toList) σ fun u σ'=>u=UK (L9 σ bs) v∧σ'=Tz σ bs):=fun h=>by
  simp only[Option.map_eq_some_iff] at h;obtain⟨⟨c',v'⟩,h1,h2⟩:=h;simp only[Prod.mk.injEq] at h2;obtain⟨rfl,rfl,rfl⟩:=h2;obtain⟨h3,g,a,b,rfl,h4⟩:=BU aw 3 σ f args c' v' fV vs hf ha h1 hc;refine⟨g,a,b,rfl,h4.mono fun u σ' hu=>?_,fun _ cE=>h4.mono fun u σ' hu=>?_⟩
  ·obtain⟨rfl,hu⟩:=hu;exact⟨⟨Heap.Le.refl _,Dead.refl _⟩,fun _=>rfl,X0,(fun j b hj=>by simp at hj),(fun j j' i hj=>by simp at hj),hu⟩
  ·obtain⟨rfl,hu⟩:=hu;have hz:Tz σ' []=σ':=(AV (P:=P) σ' (v:=v') (bs:=[]) h3 cE rfl rfl (fun b hb=>by cases hb)).2.1 rfl;refine⟨?_,hz.symm⟩;rw[US v' u h3 cE hu];exact Q35 (fun j hj=>by omega) v' h3
 cases f with
 |fn g a b =>
  simp only[UE] at h;split at h
  ·rename_i sp eH;simp only[SR] at hf;obtain⟨x,y,rfl,h1,h2⟩:=hf;refine⟨g,x.toArray,y.toArray,rfl,?_⟩;simpa using aw g sp eH (gap cs 3) (BU aw 3) σ (a++args++b) (x++vs++y) c v bs ((h1.append ha).append h2) h hv hb hc
  ·cases h
 |_=>exact gen h
theorem Gam.heap_get {s:St}{env:Env}{σ':Heap}(h:Gam P B F pl tb s env σ) (hl:σ.Le σ') {d:Nat}(ai:(Q7 s.own d).live=true) {i:Nat}(hi:Oid (pl d) i):σ'.get i=σ.get i:=by
  have aj:=(h.obj d).id_lt ai hi;cases hb:σ.get i with
  |none =>
   have ak:=h.obj d;cases ho:Q7 s.own d with
   |dead=>rw[ho] at ai;cases ai
   |lst ty k xs nl =>
    rw[ho] at ak;rcases ak with⟨_,_,h2⟩|⟨_,i',cap,c,t,h2,_,h3,_⟩
    ·rw[h2] at hi;cases hi
    ·rw[h2] at hi;obtain rfl:=osj hi;rw[h3] at hb;cases hb
   |cells l u=>rw[ho] at ak;obtain⟨i',c,e,t,h2,h3,_⟩:=ak;rw[h2] at hi;obtain rfl:=osj hi;rw[h3] at hb;cases hb
   |mapE kk vk m key n=>rw[ho] at ak;obtain⟨i',es,cl,r,e,h2,h3,_⟩:=ak;rw[h2] at hi;obtain rfl:=osj hi;rw[h3] at hb;cases hb
   |map kk vk m=>rw[ho] at ak;obtain⟨i',es,cl,h2,h3,_⟩:=ak;rw[h2] at hi;obtain rfl:=osj hi;rw[h3] at hb;cases hb
   |stk l vals=>rw[ho] at ai;cases ai
   |lpf l q s=>rw[ho] at ak ai;obtain⟨h2,_,h3⟩:=ak;rw[h2] at hi;obtain rfl:=osj hi;have h3:=h3 ai;rw[hb] at h3;cases h3
   |iter kk vk m dn=>rw[ho] at ak;obtain⟨j',i',es,cl,wr,seen,h2,h3,_⟩:=ak;rw[h2] at hi;obtain rfl:=osj hi;rw[h3] at hb;cases hb
   |deep ty q k xs nl hh =>rw[ho] at ak;obtain⟨is,_,d2,d3,_⟩:=DP.open ak;obtain⟨c,e,t,h⟩:=d2.cells i ((d3 i).1 hi);rw[h] at hb;cases hb
  |some b=>rw[hl.2 i b hb]
theorem Gam.heap {s:St}{env:Env}{σ':Heap}(h:Gam P B F pl tb s env σ) (hl:σ.Le σ'):Gam P B F pl tb s env σ' :=
 ⟨h.bf,h.le.trans hl,h.env,fun d=>(h.obj d).mono (Heap.Le.refl _) (fun _ _ h=>h) fun ai _i hi=>h.heap_get hl ai hi,h.fresh,h.sep,h.free⟩
theorem RB {env:Env}{σ0:Heap}{d nt:Nat}(cW:0<nt) (dm:Nat→Value) (bs:List OB) (hB:F.Le σ0)
  (ak:∀ j b,bs[j]?=some b→b.ret=true∧OR P hNil dm ZF σ (dm j) b∧∀ i,Oid (dm j) i→σ0.n≤i)
  (dk:∀ j j' i,j<bs.length→j'<bs.length→j≠j'→Oid (dm j) i→Oid (dm j') i→False) :
  ∀ (r:List OB) (j:Nat) (pl:Nat→Value) (s:St),bs.drop j=r→Gam P B F pl tb s env σ→(∀ k i,(Q7 s.own k).live=true→Oid (pl k) i→i<σ0.n∨∃ j'<j,j'<bs.length∧Oid (dm j') i∧k=d+j'*nt)→(∀ j'<j,j'<bs.length→pl (d+j'*nt)=dm j') →
   ∃ pl',Gam P B F pl' tb (s.makes d nt j r) env σ∧(∀ j'<bs.length,pl' (d+j'*nt)=dm j')∧∀ q,(∀ j'<bs.length,q≠d+j'*nt)→pl' q=pl q∧(Q7 (s.makes d nt j r).own q).live=(Q7 s.own q).live
 |[],j,pl,s,hr,hG,_,hp=>⟨pl,hG,fun j' cu=>hp j' (by
   have:=congrArg List.length hr;simp at this;omega) cu,fun q _=>⟨rfl,rfl⟩⟩
 |b::r,j,pl,s,hr,hG,hinv,hp=>by
  have bZ:j<bs.length:=by
   rcases Nat.lt_or_ge j bs.length with h|h
   ·exact h
   ·rw[List.drop_eq_nil_of_le h] at hr;cases hr
  have cK:bs[j]?=some b:=by
   have:(bs.drop j)[0]?=some b:=by rw[hr];rfl
   simpa using this
  have fX:bs.drop (j+1)=r:=by
   have:(bs.drop j).drop 1=r:=by rw[hr];rfl
   simpa [List.drop_drop,Nat.add_comm] using this
  obtain⟨h1,h2,h3⟩:=ak j b cK;have aN:∀ j' ,j'≠j→d+j'*nt≠d+j*nt:=fun j' aA e=>aA (Nat.eq_of_mul_eq_mul_right cW (by omega));obtain⟨pl',k1,k2,k3⟩:∃ pl',Gam P B F pl' tb ((s.make (d+j*nt) b).makes d nt (j+1) r) env σ∧(∀ j'<bs.length,pl' (d+j'*nt)=dm j')∧∀ q,(∀ j'<bs.length,q≠d+j'*nt)→pl' q=X4 pl (d+j*nt) (dm j) q∧(Q7 ((s.make (d+j*nt) b).makes d nt (j+1) r).own q).live=(Q7 (s.make (d+j*nt) b).own q).live:=by
   refine RB cW dm bs hB ak dk r (j+1) (X4 pl (d+j*nt) (dm j)) _ fX (hG.make (d+j*nt) b (dm j) hG.le (fun _ _ _ _ _=>rfl) (h2.retd h1 fun _ _=>rfl) fun i _ hi=>⟨F.wf _ (by have:=h3 i hi;have:=hB.1;omega),fun k hk hl e=>?_⟩) (fun k i hl hi=>?_) fun j' cu l8=>?_
   ·rcases hinv k i hl e with h|⟨j',cu,eL,he,_⟩
    ·have:=h3 i hi;omega
    ·exact dk j j' i bZ eL (by omega) hi he
   ·by_cases hk:k=d+j*nt
    ·subst hk;simp only[X4,if_true] at hi;exact .inr ⟨j,by omega,bZ,hi,rfl⟩
    ·have cn:(Q7 s.own k).live=true:=by
      simp only[St.make,St.kill,Qb,Vb,if_neg hk] at hl
      rwa [OB.live_kill] at hl
     simp only[X4,if_neg hk] at hi;rcases hinv k i cn hi with h|⟨j',cu,h5⟩
     ·exact .inl h
     ·exact .inr ⟨j',by omega,h5⟩
   ·by_cases e:j'=j
    ·subst e;simp[X4]
    ·simp only[X4,if_neg (aN j' e)];exact hp j' (by omega) l8
  refine⟨pl',k1,k2,fun q hq=>?_⟩;obtain⟨e1,e2⟩:=k3 q hq;refine⟨by rw[e1];simp[X4,hq j bZ],?_⟩;show (Q7 ((s.make (d+j*nt) b).makes d nt (j+1) r).own q).live=_;rw[e2];simp only[St.make,St.kill,Qb,Vb,if_neg (hq j bZ),OB.live_kill]
theorem Ret.gamF {s:St}{env:Env}{d nt:Nat}(cW:0<nt) (hG:Gam P B F pl tb s env σ) {v:SV}{bs:List OB}{u:Value}{σ':Heap}(hv:v.ret bs.length=true) (hb:bs.all OB.ret=true) (h:Ret P σ v bs u σ') :
  ∃ pl',Gam P B F pl' tb (s.makes d nt 0 bs) env σ'∧SR P B pl' tb (v.ren d nt) u∧∀ q,(∀ j'<bs.length,q≠d+j'*nt)→(Q7 (s.makes d nt 0 bs).own q).live=(Q7 s.own q).live∧pl' q=pl q∧((Q7 s.own q).live=true→∀ i,Oid (pl q) i→σ'.get i=σ.get i):=by
 obtain⟨⟨h1,_⟩,_,dm,h2,h3,h4⟩:=h
 obtain⟨pl',h5,h6,h7⟩:=RB (tb:=tb) (d:=d) cW dm bs hG.le (fun j b hj=>⟨List.all_eq_true.1 hb b (List.mem_of_getElem? hj),(h2 j b hj).1,fun i hi=>((h2 j b hj).2 i hi).2⟩) h3 bs 0 pl s rfl (hG.heap h1)
  (fun k i hl hi=>.inl ((hG.obj k).id_lt hl hi)) (fun j' cu=>by omega)
 exact⟨pl',h5,SR.ren (tb:=ZF) (fun j hj=>h6 j hj) _ _ hv (SR.mono (tb:=ZF) (tb':=ZF) (IH B) (fun _ _ h=>h) _ _ h4),fun q hq=>⟨(h7 q hq).2,(h7 q hq).1,fun hl i hi=>hG.heap_get h1 hl hi⟩⟩
theorem Ret.gam {s:St}{env:Env}{d nt:Nat}(cW:0<nt) (hG:Gam P B F pl tb s env σ) {v:SV}{bs:List OB}{u:Value}{σ':Heap}(hv:v.ret bs.length=true) (hb:bs.all OB.ret=true) (h:Ret P σ v bs u σ') :
  ∃ pl',Gam P B F pl' tb (s.makes d nt 0 bs) env σ'∧SR P B pl' tb (v.ren d nt) u:=by
 obtain⟨pl',h1,h2,_⟩:=h.gamF cW hG hv hb;exact⟨pl',h1,h2⟩
end
end Go.V
namespace Go.V
open Go
section
variable {P:Program}
structure GBase (B0 F0 D0 B F σ:Heap):Prop where
 b:B0.Le B
 f:F0.Le F
 x:∀ i b,F0.get i=some b→B0.get i=none→B.get i=none
 d:Dead D0 σ
theorem GBase.of {B F σ:Heap}{σ':Heap}(_hB:B.Le F) (h:Dead σ σ'):GBase B F σ B F σ':=⟨.refl _,.refl _,fun _ _ _ h=>h,h⟩
theorem GBase.trans {B0 F0 D0 B F σ B' F' σ':Heap}(h:GBase B0 F0 D0 B F σ) (h':GBase B F σ B' F' σ'):GBase B0 F0 D0 B' F' σ' :=
 ⟨h.b.trans h'.b,h.f.trans h'.f,fun i b h1 h2=>h'.x i b (h.f.2 _ _ h1) (h.x i b h1 h2),h.d.trans h'.d⟩
def GRel (P:Program) (B0 F0 D0:Heap) (s:St) (env:Env) (σ:Heap):Prop:=∃ B F pl tb,GBase B0 F0 D0 B F σ∧Gam P B F pl tb s env σ
theorem De {B0 F0 D0 B F:Heap}{σ σ':Heap}(hB:GBase B0 F0 D0 B F σ) (h:Dead σ σ'):GBase B0 F0 D0 B F σ':=⟨hB.b,hB.f,hB.x,hB.d.trans h⟩
theorem Gam.evs {B F:Heap}{pl:Nat→Value}{tb:Nat→Option Bool}{s:St}{env:Env}{σ:Heap}(h:Gam P B F pl tb s env σ) {gs:List Gd}(hg:Gds tb gs) (x:Operand):SR P B pl tb (gev gs s.env x) (Q3 env x):=Q15 hg h.env x
theorem Gds.nil {tb:Nat→Option Bool}:Gds tb []:=fun _ h=>by cases h
theorem OJ {gs:List Gd}{c:Prop}(h:Q7m gs c) (hg:∀ g∈gs,g.c=g.want):c:=by
 induction gs with
 |nil=>exact h
 |cons g gs ih=>exact ih (h (hg g (by simp))) fun g' dG=>hg g' (by simp[dG])
theorem ZC {gs:List Gd}{cs:List Prop}{q:Prop}(h:CW gs cs q):q∧((∀ g∈gs,g.c=g.want)→∀ c∈cs,c):=by
 induction cs with
 |nil=>exact⟨h,fun _ c hc=>by cases hc⟩
 |cons c cs ih =>
  obtain⟨h1,h2⟩:=h;obtain⟨h3,h4⟩:=ih h2;exact⟨h3,fun hg c' cA=>by
   rcases List.mem_cons.1 cA with rfl|cA
   ·exact OJ h1 hg
   ·exact h4 hg c' cA⟩
theorem Dead.push (σ:Heap) (b:Blk):Dead σ (σ.push b):=⟨by simp,fun i hi h=>by rw[Heap.get_push_lt _ _ hi];exact h⟩
theorem Dead.upd (σ:Heap) (j:Nat) (b:Blk) (hj:(σ.get j).isSome=true):Dead σ (σ.upd j b):=⟨by simp,fun i hi h=>by
 have:i≠j:=fun e=>by subst e;rw[h] at hj;cases hj
 rw[Heap.get_upd_ne _ _ this];exact h⟩
theorem Dead.kill (σ:Heap) (j:Nat):Dead σ (σ.kill j):=⟨by simp,fun i hi h=>by
 by_cases e:i=j
 ·subst e;exact Heap.get_kill_self _ _
 ·rw[Heap.get_kill_ne _ e];exact h⟩
theorem Ev {e:El}{bytes m:Nat}{σ σ':Heap}{s u:Value}{xs:List Value}(h:Kn e bytes σ s m xs=some (u,σ')):Dead σ σ':=by
 unfold Kn at h;split at h
 ·split at h
  ·obtain⟨rfl,rfl⟩:=Z1 h;exact Dead.refl _
  ·split at h
   ·obtain⟨rfl,rfl⟩:=Z1 h;exact Dead.push _ _
   ·cases h
 ·split at h
  ·rename_i hg;split at h
   ·split at h
    ·obtain⟨rfl,rfl⟩:=Z1 h;exact Dead.refl _
    ·split at h
     ·split at h
      ·obtain⟨rfl,rfl⟩:=Z1 h;exact Dead.upd _ _ _ (by rw[hg];rfl)
      ·cases h
     ·split at h
      ·split at h
       ·obtain⟨rfl,rfl⟩:=Z1 h;exact Dead.push _ _
       ·split at h
        ·obtain⟨rfl,rfl⟩:=Z1 h;exact(Dead.kill _ _).trans (Dead.push _ _)
        ·cases h
      ·cases h
   ·cases h
  ·cases h
 ·cases h
theorem Vr {o:VOp}{ev:Operand→Value}{σ σ':Heap}{u:Value}(h:Q5 o ev σ=some (u,σ')):Dead σ σ':=by
 by_cases hk:o.kind=2
 ·cases o<;>first|(cases hk;done)|skip
  case alloc t z=>obtain⟨rfl,rfl⟩:=Z1 h;exact Dead.push _ _
  case box t x =>
   simp only[Q5] at h;split at h
   ·obtain⟨rfl,rfl⟩:=Z1 h;exact Dead.push _ _
   ·cases h
  case buildSlice e z n ps =>
   simp only[Q5] at h;split at h
   ·obtain⟨rfl,rfl⟩:=Z1 h;exact Dead.push _ _
   ·cases h
  case makeSlice e b z l c =>
   simp only[Q5] at h;split at h
   ·split at h
    ·obtain⟨rfl,rfl⟩:=Z1 h;exact Dead.push _ _
    ·cases h
   ·cases h
  case store size a x =>
   simp only[Q5] at h;split at h
   ·split at h
    ·rename_i hg;split at h
     ·obtain⟨rfl,rfl⟩:=Z1 h;exact Dead.upd _ _ _ (by rw[hg];rfl)
     ·cases h
    ·cases h
   ·cases h
  case append e b x y =>
   simp only[Q5] at h;split at h
   ·split at h
    ·exact Ev h
    ·cases h
   ·cases h
  case slice size x lo hi mx =>
   simp only[Q5] at h;split at h
   ·have sl:∀ {l hh:Nat}{m:Option Nat}{v:Value},KG size σ v l hh m=some (u,σ')→Dead σ σ':=fun {l hh m v} h=>by
     unfold KG at h;split at h
     ·split at h
      ·obtain⟨rfl,rfl⟩:=Z1 h;exact Dead.refl _
      ·cases h
     ·split at h
      ·split at h
       ·split at h
        ·obtain⟨rfl,rfl⟩:=Z1 h;exact Dead.refl _
        ·cases h
       ·split at h
        ·split at h
         ·obtain⟨rfl,rfl⟩:=Z1 h;exact Dead.push _ _
         ·obtain⟨rfl,rfl⟩:=Z1 h;exact Dead.refl _
        ·cases h
      ·cases h
     ·cases h
    split at h
    ·exact sl h
    ·split at h
     ·exact sl h
     ·cases h
    ·cases h
   ·cases h
  case callF f a=>cases h
  case callV f a=>cases h
  case ext x =>
   cases x<;>first|(cases hk;done)|skip
   case makeMap=>obtain⟨rfl,rfl⟩:=Z1 h;exact Dead.push _ _
   case mapUpdate mk m k v =>
    simp only[Q5,Zm] at h;split at h
    ·split at h
     ·rename_i hm;split at h
      ·obtain⟨rfl,rfl⟩:=Z1 h;refine Dead.upd _ _ _ ?_;unfold Heap.mapAt at hm;split at hm
       ·rename_i hg;rw[hg];rfl
       ·cases hm
      ·cases h
     ·cases h
    ·cases h
   case mapEntry mk z m k =>
    simp only[Q5,Zm] at h;split at h
    ·split at h
     ·rename_i hm;split at h
      ·split at h
       all_goals
        obtain⟨rfl,rfl⟩:=Z1 h;refine Dead.upd _ _ _ ?_;unfold Heap.mapAt at hm;split at hm
        ·rename_i hg;rw[hg];rfl
        ·cases hm
      ·cases h
     ·cases h
    ·cases h
   case entryStore m s v =>
    simp only[Q5,Zm] at h;split at h
    ·split at h
     ·rename_i hm;split at h
      ·split at h
       ·obtain⟨rfl,rfl⟩:=Z1 h;refine Dead.upd _ _ _ ?_;unfold Heap.mapAt at hm;split at hm
        ·rename_i hg;rw[hg];rfl
        ·cases hm
       ·cases h
      ·cases h
     ·cases h
    ·cases h
   case delete mk m k =>
    simp only[Q5,Zm] at h;split at h
    ·split at h
     ·rename_i hm;split at h
      ·obtain⟨rfl,rfl⟩:=Z1 h;refine Dead.upd _ _ _ ?_;unfold Heap.mapAt at hm;split at hm
       ·rename_i hg;rw[hg];rfl
       ·cases hm
      ·cases h
     ·cases h
    ·cases h
   case rangeMap x =>
    simp only[Q5,Zm] at h;split at h
    ·split at h
     ·obtain⟨rfl,rfl⟩:=Z1 h;exact Dead.push _ _
     ·cases h
    ·cases h
   case nextMap x=>cases h
   case copy size a b =>
    simp only[Q5,Zm] at h;split at h
    ·split at h
     ·obtain⟨rfl,rfl⟩:=Z1 h;exact Dead.refl _
     ·split at h
      ·split at h
       ·rename_i hg;split at h
        ·obtain⟨rfl,rfl⟩:=Z1 h;exact Dead.upd _ _ _ (by rw[hg];rfl)
        ·cases h
       ·cases h
      ·cases h
    ·cases h
   case clear z x =>
    simp only[Q5,Zm] at h;split at h
    ·split at h
     ·obtain⟨rfl,rfl⟩:=Z1 h;exact Dead.refl _
     ·split at h
      ·split at h
       ·rename_i hg;split at h
        ·obtain⟨rfl,rfl⟩:=Z1 h;exact Dead.upd _ _ _ (by rw[hg];rfl)
        ·cases h
       ·cases h
      ·cases h
    ·cases h
   case strBytes e x =>
    simp only[Q5,Zm] at h;split at h
    ·split at h
     ·obtain⟨rfl,rfl⟩:=Z1 h;exact Dead.push _ _
     ·cases h
    ·cases h
   case unsafeStr e x n =>
    simp only[Q5,Zm] at h;split at h
    ·split at h
     ·obtain⟨rfl,rfl⟩:=Z1 h;exact Dead.refl _
     ·split at h
      ·split at h
       ·rename_i hg;split at h
        ·split at h
         ·obtain⟨rfl,rfl⟩:=Z1 h;exact Dead.upd _ _ _ (by rw[hg];rfl)
         ·cases h
        ·cases h
       ·cases h
      ·cases h
    ·cases h
 ·obtain rfl:=B_ hk h;exact Dead.refl _
theorem Gp {B F:Heap}{pl:Nat→Value}{tb:Nat→Option Bool}{s:St}{env:Env}{σ:Heap}(hG:Gam P B F pl tb s env σ) {x:Operand}{b:Bool}(h:Ay s.env x=some b):Q3 env x=.bool b:=by
 unfold Ay at h;split at h
 ·rename_i j;split at h
  ·rename_i gs v he;split at h
   ·split at h
    ·rename_i k y;split at h
     ·obtain rfl:=osj h;have:=hG.env.getD j undef;rw[he] at this;simp only[SR] at this;have h2:=this.2.1 (fun g hg=>by cases hg);have h3:[env.getD j undef]=[Value.bool _]:=h2;exact(List.cons.inj h3).1
     ·cases h
    ·cases h
   ·cases h
  ·cases h
 ·cases h
theorem Vu {B F:Heap}{pl:Nat→Value}{tb:Nat→Option Bool}{s:St}{env:Env}{σ:Heap}(hG:Gam P B F pl tb s env σ) {g:Option (Nat×Bool)}{t:Bool}(h:Q28 s.env g=some t):Jj env g=some t:=by
 unfold Q28 at h;split at h
 ·cases h
 ·rename_i j want;split at h
  ·rename_i b hb;obtain rfl:=osj h;have:=Gp hG hb;simp only[Q3] at this;simp only[Jj,this]
  ·cases h
theorem Nm {B F:Heap}{pl:Nat→Value}{tb:Nat→Option Bool}{s:St}{env:Env}{σ:Heap}(hG:Gam P B F pl tb s env σ) {gs:List Gd}(hg:Gds tb gs) {c a b:Operand}{v:SV}(h:Q06 gs s.env c a b=some v) :
  ∃ u,Q5 (.pick c a b) (Q3 env) σ=some (u,σ)∧SR P B pl tb v u:=by
 unfold Q06 at h;split at h
 ·rename_i t ht;have e:=Gp hG ht;obtain rfl:=osj h;cases t with
  |true=>exact⟨Q3 env a,by simp only[Q5,e];rfl,hG.evs hg a⟩
  |false=>exact⟨Q3 env b,by simp only[Q5,e];rfl,hG.evs hg b⟩
 have hc:=hG.evs hg c;unfold Q62 at h;split at h
 ·rename_i n t heq;rw[heq] at hc;simp only[SR] at hc;obtain⟨e,cP⟩:=hc;have ht:∀ w,t=w→Gds tb (gs++[⟨n,w,t⟩]):=fun w hw g dG=>by
   rcases List.mem_append.1 dG with h1|h1
   ·exact hg g h1
   ·obtain rfl:=List.mem_singleton.1 h1;exact⟨hw,cP⟩
  have hv:∀ u,(if t then Q3 env a else Q3 env b)=u→Q5 (.pick c a b) (Q3 env) σ=some (u,σ):=fun u hu=>by simp only[Q5,e];rw[←hu]
  split at h
  ·rename_i b';simp only[Option.map_eq_some_iff] at h;obtain⟨y,h1,rfl⟩:=h;refine⟨.bool (t||y),hv _ ?_,Jb _⟩;cases t with
   |true=>rfl
   |false=>simpa using Wu h1 (hG.evs (ht false rfl) _)
  ·rename_i a' aA;simp only[Option.map_eq_some_iff] at h;obtain⟨x,h1,rfl⟩:=h;refine⟨.bool (t&&x),hv _ ?_,Jb _⟩;cases t with
   |true=>simpa using Wu h1 (hG.evs (ht true rfl) _)
   |false=>rfl
  ·split at h
   ·rename_i k x k' y h1 h2;split at h
    ·rename_i hk;subst hk;obtain rfl:=osj h;refine⟨.int k (if t then x else y),hv _ ?_,XY _ _⟩;cases t with
     |true=>have:=hG.evs (ht true rfl) a;rw[h1] at this;exact ZY rfl this
     |false=>have:=hG.evs (ht false rfl) b;rw[h2] at this;exact ZY rfl this
    ·cases h
   ·rename_i x y h1 h2;obtain rfl:=osj h;refine⟨.bool (if t then x else y),hv _ ?_,Jb _⟩;cases t with
    |true=>have:=hG.evs (ht true rfl) a;rw[h1] at this;exact Wu rfl this
    |false=>have:=hG.evs (ht false rfl) b;rw[h2] at this;exact Wu rfl this
   ·cases h
 ·cases h
theorem Gam.bid {B F:Heap}{pl:Nat→Value}{tb:Nat→Option Bool}{s:St}{env:Env}{σ:Heap}(hG:Gam P B F pl tb s env σ) {j:Nat}{v:SV}{c:Bool}(hv:∀ tb',(∀ n c,tb n=some c→tb' n=some c)→tb' s.nx=some c→SR P B pl tb' v (env.getD j undef)) :
  ∃ tb',(∀ n c,tb n=some c→tb' n=some c)∧tb' s.nx=some c∧Gam P B F pl tb' ⟨s.env.set j v,s.own,s.nx+1⟩ env σ:=by
 refine⟨fun n=>if n=s.nx then some c else tb n,?_,by simp,?_⟩
 ·intro n c' hn;by_cases e:n=s.nx
  ·rw[e,hG.free _ (Nat.le_refl _)] at hn;cases hn
  ·simp only[if_neg e];exact hn
 ·have hm:∀ n c',tb n=some c'→(fun n=>if n=s.nx then some c else tb n) n=some c':=fun n c' hn=>by
   by_cases e:n=s.nx
   ·rw[e,hG.free _ (Nat.le_refl _)] at hn;cases hn
   ·simp only[if_neg e];exact hn
  refine⟨hG.bf,hG.le,?_,fun d=>(hG.obj d).mono (Heap.Le.refl _) hm fun _ _ _=>rfl,hG.fresh,hG.sep,fun n hn=>?_⟩
  ·have h1:=SRs.mono (Heap.Le.refl B) hm _ _ hG.env;by_cases hj:j<env.length
   ·have:=h1.set j (hv _ hm (by simp))
    rwa [List.getD_eq_getElem?_getD,List.getElem?_eq_getElem hj,Option.getD_some,List.set_getElem_self] at this
   ·have:s.env.set j v=s.env:=List.set_eq_of_length_le (by rw[hG.env.length];omega);rw[this];exact h1
  ·have:n≠s.nx:=by simp only at hn;omega
   simp only[if_neg this];exact hG.free n (by simp only at hn;omega)
theorem Q1j {gs:List Gd}(h:¬ ∀ g∈gs,g.c=g.want):∃ g∈gs,g.c≠g.want:=by
 rcases Classical.em (∃ g∈gs,g.c≠g.want) with h'|h'
 ·exact h'
 ·exact absurd (fun g hg=>Classical.byContradiction fun aA=>h' ⟨g,hg,aA⟩) h
theorem WM {B F:Heap}{pl:Nat→Value}{tb:Nat→Option Bool}{s:St}{env:Env}{σ:Heap}(hG:Gam P B F pl tb s env σ) {j:Nat}{want:Bool}{gs:List Gd}{s':St}(h:P5 s j want=some (gs,s')) :
  ∃ tb',Gam P B F pl tb' s' env σ∧(∀ g∈gs,tb' g.id=some g.c)∧∃ b,Jj env (some (j,want))=some b∧(b=true→∀ g∈gs,g.c=g.want)∧(b=false→∃ g∈gs,g.c≠g.want):=by
 have hj:=hG.env.getD j undef;unfold P5 at h;split at h
 ·rename_i c heq;obtain⟨rfl,rfl⟩:=Z1 h;rw[heq] at hj;have hb:env.getD j undef=.bool c:=Wu (s:=.val .bo c) rfl hj;obtain⟨tb',h1,h2,h3⟩:=hG.bid (j:=j) (v:=.bid s.nx c) (c:=c) fun tb' _ h=>by simp only[SR];exact⟨hb,h⟩
  refine⟨tb',h3,fun g hg=>by obtain rfl:=List.mem_singleton.1 hg;exact h2,c==want,by simp only[Jj,hb],fun e g hg=>?_,fun e=>⟨_,List.mem_singleton.2 rfl,?_⟩⟩
  ·obtain rfl:=List.mem_singleton.1 hg;simpa using e
  ·simpa using e
 ·rename_i n c heq;obtain⟨rfl,rfl⟩:=Z1 h;rw[heq] at hj;simp only[SR] at hj;refine⟨tb,hG,fun g hg=>by obtain rfl:=List.mem_singleton.1 hg;exact hj.2,c==want,by simp only[Jj,hj.1],fun e g hg=>?_,fun e=>⟨_,List.mem_singleton.2 rfl,?_⟩⟩
  ·obtain rfl:=List.mem_singleton.1 hg;simpa using e
  ·simpa using e
 ·rename_i p6 c heq;obtain⟨rfl,rfl⟩:=Z1 h;rw[heq] at hj;simp only[SR] at hj;obtain⟨⟨k1,k0⟩,k2,k3⟩:=hj;obtain⟨tb',h1,h2,h3⟩:=hG.bid (j:=j) (v:=.grd p6 (.bid s.nx c)) (c:=c) fun tb' hm h=>by
   simp only[SR];exact⟨⟨fun g hg=>hm _ _ (k1 g hg),h⟩,fun hall=>⟨Wu (s:=.val .bo c) (P:=P) (B:=B) (pl:=pl) (tb:=tb) rfl (by simpa only [SR] using k2 hall),h⟩,k3⟩
  refine⟨tb',h3,fun g hg=>?_,?_⟩
  ·rcases List.mem_append.1 hg with h4|h4
   ·exact h1 _ _ (k1 g h4)
   ·obtain rfl:=List.mem_singleton.1 h4;exact h2
  ·by_cases hall:∀ g∈p6,g.c=g.want
   ·have hb:env.getD j undef=.bool c:=Wu (s:=.val .bo c) (P:=P) (B:=B) (pl:=pl) (tb:=tb) rfl (by simpa only [SR] using k2 hall);refine⟨c==want,by simp only[Jj,hb],fun e g hg=>?_,fun e=>⟨_,List.mem_append.2 (.inr (List.mem_singleton.2 rfl)),by simpa using e⟩⟩;rcases List.mem_append.1 hg with h4|h4
    ·exact hall g h4
    ·obtain rfl:=List.mem_singleton.1 h4;simpa using e
   ·have hex:=Q1j hall;refine⟨false,by simp only[Jj,k3 hex];rfl,(fun e=>by cases e),fun _=>?_⟩;obtain⟨g,hg,aA⟩:=hex;exact⟨g,List.mem_append.2 (.inl hg),aA⟩
 ·rename_i p6 n c heq;obtain⟨rfl,rfl⟩:=Z1 h;rw[heq] at hj;simp only[SR] at hj;obtain⟨⟨k1,k0⟩,k2,k3⟩:=hj;refine⟨tb,hG,fun g hg=>?_,?_⟩
  ·rcases List.mem_append.1 hg with h4|h4
   ·exact k1 g h4
   ·obtain rfl:=List.mem_singleton.1 h4;exact k0
  ·by_cases hall:∀ g∈p6,g.c=g.want
   ·obtain⟨hb,cP⟩:=k2 hall;refine⟨c==want,by simp only[Jj,hb],fun e g hg=>?_,fun e=>⟨_,List.mem_append.2 (.inr (List.mem_singleton.2 rfl)),by simpa using e⟩⟩;rcases List.mem_append.1 hg with h4|h4
    ·exact hall g h4
    ·obtain rfl:=List.mem_singleton.1 h4;simpa using e
   ·have hex:=Q1j hall;refine⟨false,by simp only[Jj,k3 hex];rfl,(fun e=>by cases e),fun _=>?_⟩;obtain⟨g,hg,aA⟩:=hex;exact⟨g,List.mem_append.2 (.inl hg),aA⟩
 ·cases h
theorem Gam.gcall {B F:Heap}{pl:Nat→Value}{tb:Nat→Option Bool}{s:St}{env:Env}{σ:Heap}(hG:Gam P B F pl tb s env σ) {gs:List Gd}(hg:Gds tb gs) (args:List Operand):SRs P σ X0 ZF (T7 s.own (args.map (gev gs s.env))) (args.map (Q3 env)) :=
 Vc hG.leB hG.obj (SRs.map fun x _=>hG.evs hg x)
theorem Gam.gfun {B F:Heap}{pl:Nat→Value}{tb:Nat→Option Bool}{s:St}{env:Env}{σ:Heap}(hG:Gam P B F pl tb s env σ) {gs:List Gd}(hg:Gds tb gs) (f:Operand):SR P σ X0 ZF ((T7 s.own [gev gs s.env f]).getD 0 .any) (Q3 env f):=by have:=(Vc hG.leB hG.obj (show SRs P B pl tb [gev gs s.env f] [Q3 env f] by simp only[SRs];exact⟨_,[],rfl,hG.evs hg f,rfl⟩)).getD 0 poison;simpa using this
theorem MP {env:Env}{f:Operand}{args:List Operand}{σ:Heap}{K:Value→Heap→Prop}{g:FuncId}{a b:Array Value}(e:Q3 env f=.func (.func g) a b) (h:VCalled P g (a.toList++args.map (Q3 env)++b.toList) σ K) :
  vop (Q2 P) (.callV f args) env σ K:=by
 simp only[vop,e];exact h
def XOk (P:Program) (f:Nat) (x:XSp):Prop :=
 ∀ (B F:Heap) (pl:Nat→Value) (tb:Nat→Option Bool) (s:St) (env:Env) (σ:Heap) (d:Nat) (args:List SV) (vs:List Value) (K:SV→St→Prop) (R:Value→Heap→Prop),
  Gam P B F pl tb s env σ→SRs P B pl tb args vs→x d args s K →
  (∀ v s' B' F' pl' tb' u σ',K v s'→GBase B F σ B' F' σ'→Gam P B' F' pl' tb' s' env σ'→SR P B' pl' tb' v u→R u σ')→VCalled P f vs σ R
def Q44 (P:Program) (f:Nat) (x:XSp) (j:Nat):Prop :=
 ∀ (B F:Heap) (pl:Nat→Value) (tb:Nat→Option Bool) (s:St) (env:Env) (σ:Heap) (d:Nat) (args:List SV) (vs:List Value) (K:SV→St→Prop) (R:Value→Heap→Prop) (t:Nat),
  Gam P B F pl tb s env σ→SRs P B pl tb args vs→AM s.own j args=some t→x d args s K →
  (∀ v s' u σ',K v s'→Dead σ σ'→Gam P B F pl tb s' env σ'→SR P B pl tb v u→FrL [t] s s' pl pl σ σ'→R u σ')→VCalled P f vs σ R
def Q9p (P:Program) (f:Nat) (it:ISp):Prop:=We P f ∧
 ∀ (B:Heap) (args:List SV) (vs:List Value) (c:Prop) (m ar:Nat) (xs:Nat→List SV),SRs P B X0 ZF args vs→it args=some (c,m,ar,xs)→c →
  (∀ k,(xs k).length=ar∧SVs.pure (xs k)=true)∧∀ (i:Nat) (Y:SC) (J:Nat→Heap→Prop) (E:Heap→Prop) (τ0:Heap),UC P i Y→(∀ k τ,J k τ→B.Le τ) →
   (∀ k us τ,k<m→J k τ→SRs P B X0 ZF (xs k) us→Y us τ fun v τ'=>(v=.bool true∧J (k+1) τ')∨(v=.bool false∧E τ')) →
   J 0 τ0→VCallsTo P f (.func (.yield i) #[] #[]::vs) τ0 fun _ τ=>J m τ∨E τ
def Q45 (P:Program) (o:Nat) (y:YSp):Prop :=
 ∀ (B F:Heap) (pl:Nat→Value) (tb:Nat→Option Bool) (s:St) (env:Env) (σ:Heap) (args:List SV) (us:List Value) (K:SV→St→Prop) (R:Value→Heap→Prop) (i:Nat),
  Gam P B F pl tb s env σ→SRs P B pl tb args us→y args s K→pl o=.pointer (some ⟨i,0,none⟩) →
  (∀ v s' B' F' pl' tb' u σ',K v s'→GBase B F σ B' F' σ'→Gam P B' F' pl' tb' s' env σ'→SR P B' pl' tb' v u→R u σ')→Ty P i us σ R
def Z02 (P:Program) (f:Nat) (x:Q91):Prop:=We P f ∧
 ∀ (B F:Heap) (pl:Nat→Value) (tb:Nat→Option Bool) (s:St) (env:Env) (σ:Heap) (o:Nat) (args:List SV) (vs:List Value) (y:YSp) (K:St→Prop) (R:Heap→Prop),
  Gam P B F pl tb s env σ→SRs P B pl tb args vs→Q45 P o y→x o args (o,y) s K →
  (∀ s' B' F' pl' tb' ae σ',K s'→GBase B F σ B' F' σ'→Gam P B' F' pl' tb' s' ae σ'→R σ')→VCallsTo P f vs σ fun _=>R
structure COk (P:Program) (C:Cx):Prop where
 cs:CsOk P C.cs
 xs:∀ f x,Qm C.xs f=some x→XOk P f x
 it:∀ f x,Qm C.it f=some x→Q9p P f x
 yl:∀ o y,Qm C.yl o=some y→Q45 P o y
 iy:∀ f x,Qm C.iy f=some x→Z02 P f x
 xf:∀ f j,Qm C.xf f=some j→∀ x,Qm C.xs f=some x→Q44 P f x j
theorem TQ {C:Cx}(aw:CsOk P C.cs) {B F:Heap}{pl:Nat→Value}{tb:Nat→Option Bool}{s:St}{env:Env}{σ:Heap}(hG:Gam P B F pl tb s env σ) {gs:List Gd}(hg:Gds tb gs) {raw:Bool}{o:VOp}{cs:List Prop}{v:SV}
  (h:gqc C raw o (gev gs s.env) s.own=some (cs,v)) (hc:∀ c∈cs,c) {K:Value→Heap→Prop}(hK:∀ u,SR P B pl tb v u→K u σ):vop (Q2 P) o env σ K:=by
 have flat:∀ {c:Prop}{v':SV},(bif v'.ret 0 then some ([c],v') else none)=some (cs,v)→v'.ret 0=true∧c∧v'=v:=fun {c v'} h=>by
  cases hv:v'.ret 0 with
  |false=>rw[hv] at h;cases h
  |true =>rw[hv] at h;obtain⟨rfl,rfl⟩:=Z1 h;exact⟨rfl,hc _ (by simp),rfl⟩
 have quiet:∀ o,gq C.kt raw o (gev gs s.env) s.own=some (cs,v)→(∀ K,QV (Q5 o (Q3 env) σ) (fun p=>K p.1 p.2)→vop (Q2 P) o env σ K)→vop (Q2 P) o env σ K:=fun o h hv=>by obtain⟨u,h1,h2⟩:=C2 (hG.evs hg) (fun _=>rfl) hG.leB hG.obj h hc;exact hv K (by rw[h1];exact hK u h2)
 cases o
 case callF f args =>
  simp only[gqc] at h;split at h
  ·rename_i c v' heq;obtain⟨h1,h2,rfl⟩:=flat h;obtain⟨g,a,b,h3,h4,_⟩:=J5 aw (show SR P σ X0 ZF (.fn f [] []) (.func (.func f) #[] #[]) by simp only[SR,SRs];exact⟨[],[],rfl,rfl,rfl⟩) (hG.gcall hg args) heq h1 rfl h2;obtain⟨rfl,rfl,rfl⟩:=(by simpa using h3:f=g∧#[]=a∧#[]=b);have:=h4.mono (R':=K) fun u σ' hr=>by
    obtain⟨rfl,hu⟩:=hr.flat h1;exact hK u (hu.retd (fun j hj=>by omega) _ _ h1)
   show VCalled P f (args.map (Q3 env)) σ K;simpa using this
  ·cases h
 case callV f args =>
  simp only[gqc] at h;split at h
  ·rename_i c v' heq;obtain⟨h1,h2,rfl⟩:=flat h;obtain⟨g,a,b,h3,h4,_⟩:=J5 aw (hG.gfun hg f) (hG.gcall hg args) heq h1 rfl h2;exact MP h3 (h4.mono fun u σ' hr=>by
    obtain⟨rfl,hu⟩:=hr.flat h1;exact hK u (hu.retd (fun j hj=>by omega) _ _ h1))
  ·cases h
 case ext x =>
  cases x
  case nextMap x=>cases h
  all_goals exact quiet _ h fun _ h=>h
 all_goals exact quiet _ h fun _ h=>h
end
end Go.V
namespace Go.V
open Go
section
variable {P:Program}
mutual
theorem Iz:∀ (v:SV) {K:SV→Prop},nmV v K→K v
 |.val k x,K,h=>by simp only[nmV] at h;exact h x rfl
 |.agg l,K,h=>by simp only[nmV] at h;exact RW l h
 |.tup l,K,h=>by simp only[nmV] at h;exact RW l h
 |.any,_,h|.dd _ _,_,h|.bid _ _,_,h|.grd _ _,_,h|.nilS,_,h|.nilP,_,h|.nilM,_,h|.nilF,_,h|.lst _,_,h|.sub _ _ _ _,_,h|.elp _ _ _ _,_,h|.rop _ _ _ _,_,h|.box _ _,_,h|.cp _ _,_,h|.map _,_,h|.fn _ _ _,_,h|.pf _ _ _ _,_,h=>by simp only[nmV] at h;exact h
theorem RW:∀ (l:List SV) {K:List SV→Prop},Q7l l K→K l
 |[],K,h=>by simp only[Q7l] at h;exact h
 |v::r,K,h=>by simp only[Q7l] at h;exact RW r (Iz v h)
end
theorem Zw {C:Cx}{o:VOp}{ev:Operand→SV}{v:SV}{K:SV→Prop}(h:gnm C o ev v K):K v:=by
 unfold gnm at h;cases hb:(C.nm&&Z4n o ev) with
 |true=>rw[hb] at h;exact Iz v h
 |false=>rw[hb] at h;exact h
theorem T8 {B:Heap}{pl:Nat→Value}{tb:Nat→Option Bool}{v:SV}{u:Value}(h:SR P B pl tb v u):SR P B pl tb (BE v) u∧gtb tb (BE v):=by
 cases v with
 |bid n c=>simp only[SR] at h;obtain⟨rfl,_⟩:=h;exact⟨Jb _,trivial⟩
 |_=>exact⟨h,trivial⟩
theorem T3 {tb:Nat→Option Bool}(v:SV):gtb tb (BE v):=by cases v<;>trivial
theorem HZ {C:Cx}(aw:COk P C) {B F:Heap}{pl:Nat→Value}{tb:Nat→Option Bool}{s:St}{env:Env}{σ:Heap}(hG:Gam P B F pl tb s env σ) {d:Nat}{f:SV}{args:List SV}{fV:Value}{vs:List Value}(hf:SR P B pl tb f fV) (ha:SRs P B pl tb args vs) {K:SV→St→Prop}(h:Is C d f args s K) {R:Value→Heap→Prop}
  (hK:∀ v s' B' F' pl' tb' u σ',K v s'→GBase B F σ B' F' σ'→Gam P B' F' pl' tb' s' env σ'→SR P B' pl' tb' v u→R u σ'):∃ g a b,fV=.func (.func g) a b∧VCalled P g (a.toList++vs++b.toList) σ R:=by
 unfold Is at h;have lQ:SR P σ X0 ZF ((T7 s.own [f]).getD 0 .any) fV:=by have:=(Vc hG.leB hG.obj (show SRs P B pl tb [f] [fV] by simp only[SRs];exact⟨_,[],rfl,hf,rfl⟩)).getD 0 poison;simpa using this
 have ki:=Vc hG.leB hG.obj ha;split at h
 ·rename_i c v bs heq;cases hb:(v.ret bs.length&&(bs.all OB.ret&&Nat.blt 0 C.nt)) with
  |false=>rw[hb] at h;exact h.elim
  |true =>rw[hb] at h;obtain⟨h1,h2⟩:=h;simp only[Bool.and_eq_true] at hb;obtain⟨g,a,b,e,aB,_⟩:=J5 aw.cs lQ ki heq hb.1 hb.2.1 h1;refine⟨g,a,b,e,aB.mono fun u σ' hr=>?_⟩;obtain⟨pl',h3,h4⟩:=hr.gam (nt:=C.nt) (d:=d) (by simpa [Nat.blt_eq] using hb.2.2) hG hb.1 hb.2.1;exact hK _ _ B F pl' tb u σ' h2 (.of hG.bf hr.1.2) h3 h4
 ·exact h.elim
theorem P2 {C:Cx}(aw:COk P C) {B F:Heap}{pl:Nat→Value}{tb:Nat→Option Bool}{s:St}{env:Env}{σ:Heap}(hG:Gam P B F pl tb s env σ) {d:Nat}{f:SV}{args:List SV}{fV:Value}{vs:List Value}(hf:SR P B pl tb f fV) (ha:SRs P B pl tb args vs) {K:SV→St→Prop}(h:Lr C d f args s K) (vP:∀ o,f≠.dd o .yv) {R:Value→Heap→Prop}
  (hK:∀ v s' B' F' pl' tb' u σ',K v s'→GBase B F σ B' F' σ'→Gam P B' F' pl' tb' s' env σ'→SR P B' pl' tb' v u→R u σ'):∃ g a b,fV=.func (.func g) a b∧VCalled P g (a.toList++vs++b.toList) σ R:=by
 unfold Lr at h;split at h
 ·rename_i g a b;split at h
  ·rename_i x hx;have xe:=hf;simp only[SR] at hf;obtain⟨a',b',rfl,h1,h2⟩:=hf;refine⟨g,a'.toArray,b'.toArray,rfl,?_⟩;have:=aw.xs g x hx B F pl tb s env σ d _ _ K R hG (h1.append (ha.append h2)) h hK;simpa using this
  ·exact HZ aw hG hf ha h hK
 ·exact(vP _ rfl).elim
 ·exact HZ aw hG hf ha h hK
theorem Q02 {C:Cx}{B F:Heap}{pl:Nat→Value}{tb:Nat→Option Bool}{s:St}{env:Env}{σ:Heap}(hG:Gam P B F pl tb s env σ) {d:Nat}{o:VOp}{K:SV→St→Prop}(h:gnd C d o (gev [] s.env) s K) {R:Value→Heap→Prop}
  (hK:∀ v s' B' F' pl' tb' u σ',K v s'→GBase B F σ B' F' σ'→Gam P B' F' pl' tb' s' env σ'→SR P B' pl' tb' v u→R u σ'):vop (Q2 P) o env σ R:=by
 obtain⟨u,σ',pl',v,s',h1,h2,h3,h4⟩:=TX (fun x=>hG.evs (Gds.nil (tb:=tb)) x) hG h;have fin:QV (Q5 o (Q3 env) σ) (fun p=>R p.1 p.2):=by rw[h1];exact hK v s' B F pl' tb u σ' h2 (.of hG.bf (Vr h1)) h3.1 h4
 cases o
 case buildSlice e z n ps=>exact fin
 case makeSlice e b z l c=>exact fin
 case append e b x y=>exact fin
 case store size a x=>exact fin
 all_goals exact h.elim
section
variable {B F:Heap}{pl:Nat→Value}{tb:Nat→Option Bool}{s:St}{env:Env}{σ:Heap}
def Heap.ins (B σ:Heap) (i:Nat) (h:B.n≤σ.n):Heap where
 get j:=if j=i then σ.get i else B.get j
 n:=σ.n
 wf j hj:=by
  by_cases e:j=i
  ·simp only[if_pos e];subst e;exact σ.wf j hj
  ·simp only[if_neg e];exact B.wf j (Nat.le_trans h hj)
theorem Heap.ins_self (B σ:Heap) (i:Nat) (h:B.n≤σ.n):(B.ins σ i h).get i=σ.get i:=by simp[Heap.ins]
theorem Heap.ins_ne (B σ:Heap) {i j:Nat}(h:B.n≤σ.n) (e:j≠i):(B.ins σ i h).get j=B.get j:=by simp[Heap.ins,e]
theorem Heap.Le.ins {B σ:Heap}(h:B.Le σ) (i:Nat):B.Le (B.ins σ i h.1):=⟨h.1,fun j b hb=>by
 by_cases e:j=i
 ·subst e;rw[Heap.ins_self];exact h.2 _ _ hb
 ·rw[Heap.ins_ne _ _ _ e];exact hb⟩
theorem Heap.Le.ins_le {B σ:Heap}(h:B.Le σ) (i:Nat):(B.ins σ i h.1).Le σ:=⟨Nat.le_refl _,fun j b hb=>by
 by_cases e:j=i
 ·subst e;rw[Heap.ins_self] at hb;exact hb
 ·rw[Heap.ins_ne _ _ _ e] at hb;exact h.2 _ _ hb⟩
theorem Heap.ins_ins {B F σ:Heap}(h:B.Le F) (i:Nat) (hB:B.n≤σ.n) (hF:F.n≤σ.n):(B.ins σ i hB).Le (F.ins σ i hF):=⟨Nat.le_refl _,fun j b hb=>by
 by_cases e:j=i
 ·subst e;rw[Heap.ins_self] at hb ⊢;exact hb
 ·rw[Heap.ins_ne _ _ _ e] at hb ⊢;exact h.2 _ _ hb⟩
theorem Gam.freeze (hG:Gam P B F pl tb s env σ) {o i:Nat}(hl:(Q7 s.own o).live=true) (hi:Oid (pl o) i) :
  GBase B F σ (B.ins σ i hG.leB.1) (F.ins σ i hG.le.1) σ∧Gam P (B.ins σ i hG.leB.1) (F.ins σ i hG.le.1) pl tb ⟨s.env,oset s.own o .dead,s.nx⟩ env σ:=by
 have nk:=hG.fresh o i hl hi;have lv:∀ d,(Q7 (oset s.own o .dead) d).live=true→d≠o∧(Q7 s.own d).live=true:=fun d h=>by
  rw[Qb] at h;by_cases e:d=o
  ·rw[if_pos e] at h;cases h
  ·rw[if_neg e] at h;exact⟨e,h⟩
 refine⟨⟨hG.leB.ins i,hG.le.ins i,fun j b h1 h2=>?_,.refl _⟩,⟨Heap.ins_ins hG.bf i _ _,hG.le.ins_le i,SRs.mono (hG.leB.ins i) (fun _ _ h=>h) _ _ hG.env,fun d=>?_,fun d j h1 h2=>?_,fun d d' j aA h1 h2 h3 h4=>hG.sep d d' j aA (lv d h1).2 (lv d' h2).2 h3 h4,hG.free⟩⟩
 ·have e:j≠i:=by rintro rfl;rw[nk] at h1;cases h1
  rw[Heap.ins_ne _ _ _ e];exact h2
 ·simp only[Qb];by_cases e:d=o
  ·rw[if_pos e];trivial
  ·rw[if_neg e];exact(hG.obj d).mono (hG.leB.ins i) (fun _ _ h=>h) fun _ _ _=>rfl
 ·obtain⟨aA,bP⟩:=lv d h1;have e:j≠i:=by rintro rfl;exact hG.sep d o j aA bP hl h2 hi
  rw[Heap.ins_ne _ _ _ e];exact hG.fresh d j bP h2
theorem Gam.own {s':St}(hG:Gam P B F pl tb s env σ) (h1:s'.env=s.env) (h2:∀ d,Q7 s'.own d=Q7 s.own d) (h3:s'.nx=s.nx):Gam P B F pl tb s' env σ :=
 ⟨hG.bf,hG.le,by rw[h1];exact hG.env,fun d=>by rw[h2];exact hG.obj d,fun d i=>by rw[h2];exact hG.fresh d i,fun d d' i aA=>by rw[h2,h2];exact hG.sep d d' i aA,fun n hn=>hG.free n (by rw[←h3];exact hn)⟩
theorem Gam.drop (hG:Gam P B F pl tb s env σ) (o:Nat):Gam P B F pl tb ⟨s.env,oset s.own o .dead,s.nx⟩ env σ:=by
 have lv:∀ d,(Q7 (oset s.own o .dead) d).live=true→d≠o∧(Q7 s.own d).live=true:=fun d h=>by
  rw[Qb] at h;by_cases e:d=o
  ·rw[if_pos e] at h;cases h
  ·rw[if_neg e] at h;exact⟨e,h⟩
 refine⟨hG.bf,hG.le,hG.env,fun d=>?_,fun d j h1 h2=>hG.fresh d j (lv d h1).2 h2,fun d d' j aA h1 h2 h3 h4=>hG.sep d d' j aA (lv d h1).2 (lv d' h2).2 h3 h4,hG.free⟩;simp only[Qb];by_cases e:d=o
 ·rw[if_pos e];trivial
 ·rw[if_neg e];exact hG.obj d
theorem E0 (s:St) (d:Nat) (b:OB) (q:Nat):Q7 (s.make d .dead).own q=Q7 (oset (s.make d b).own d .dead) q:=by
 simp only[St.make,Qb];by_cases e:q=d
 ·rw[if_pos e,if_pos e]
 ·rw[if_neg e,if_neg e,if_neg e]
theorem I_ {C:Cx}(hG:Gam P B F pl tb s env σ) {d:Nat}{x:Operand}{K:SV→St→Prop}(h:gn C d (.ext (.rangeMap x)) (gev [] s.env) s K) {R:Value→Heap→Prop}
  (hK:∀ v s' B' F' pl' tb' u σ',K v s'→GBase B F σ B' F' σ'→Gam P B' F' pl' tb' s' env σ'→SR P B' pl' tb' v u→R u σ'):vop (Q2 P) (.ext (.rangeMap x)) env σ R:=by
 have ha:=hG.evs (Gds.nil (tb:=tb)) x;simp only[gn] at h;split at h
 ·rename_i o h1;rw[h1] at ha;simp only[SR] at ha;split at h
  ·rename_i kk vk m ho;split at h
   ·have ak:=hG.obj o;rw[ho] at ak;obtain⟨i,es,clock,h2,h3,h4⟩:=ak;obtain⟨g1,g2⟩:=hG.freeze (o:=o) (i:=i) (by rw[ho];rfl) (by rw[h2];rfl)
    have iQ:=g2.push d (.iter kk vk m []) (.pointer (some ⟨σ.n,0,none⟩)) (.obj (.iter i clock [] clock) true) rfl
     ⟨σ.n,i,es,clock,true,[],rfl,Heap.get_push_self _ _,by rw[Heap.ins_self];exact h3,h4.mono g1.b,rfl,fun t r h=>by simp at h⟩
    show QV (Q5 (.ext (.rangeMap x)) (Q3 env) σ) _;have hv:Q5 (.ext (.rangeMap x)) (Q3 env) σ=some (.pointer (some ⟨σ.n,0,none⟩),σ.push (.obj (.iter i clock [] clock) true)):=by simp only[Q5,Zm,ha.1,h2,Heap.mapAt,h3]
    rw[hv];exact hK _ _ _ _ _ _ _ _ h (g1.trans (.of g2.bf (Dead.push _ _))) iQ (by simp only[SR,WA];exact⟨_,rfl,rfl⟩)
   ·exact h.elim
  ·exact h.elim
 ·exact h.elim
theorem Q0t {C:Cx}(hG:Gam P B F pl tb s env σ) {d:Nat}{x:Operand}{K:SV→St→Prop}(h:gn C d (.ext (.nextMap x)) (gev [] s.env) s K) {R:Value→Heap→Prop}
  (hK:∀ v s' B' F' pl' tb' u σ',K v s'→GBase B F σ B' F' σ'→Gam P B' F' pl' tb' s' env σ'→SR P B' pl' tb' v u→R u σ'):vop (Q2 P) (.ext (.nextMap x)) env σ R:=by
 have ha:=hG.evs (Gds.nil (tb:=tb)) x;simp only[gn] at h;split at h
 ·rename_i o f h1;rw[h1] at ha;simp only[SR] at ha;split at h
  ·rename_i kk vk m dn ho;split at h
   ·rename_i hf;obtain⟨rfl,oP⟩:=hf;have ai:(Q7 s.own o).live=true:=by rw[ho];rfl
    have ak:=hG.obj o;rw[ho] at ak;obtain⟨j,i,es,clock,wr,seen,h2,h3,h4,h5,h6⟩:=ak;obtain⟨b,e2,e3⟩:=ha;rw[h2] at e2;obtain rfl:j=b:=by simpa using e2
    have aD:σ.mapAt i=some (es,clock,wr):=by simp[Heap.mapAt,hG.leB.2 _ _ h4]
    have hlen:=h5.1.length;obtain⟨hA,hB⟩:=h;have a8:F.get j=none:=hG.fresh o j ai (by rw[h2];rfl);have a7:∀ q i',q≠o→(Q7 s.own q).live=true→Oid (pl q) i'→i'≠j:=fun q i' hq hl hi e=>by subst e;exact hG.sep q o i' hq hl ai hi (by rw[h2];rfl)
    show Fl (Q3 env x) σ R;unfold Fl;rw[e3];simp only[h3,aD];refine⟨?_,?_,fun hall=>?_,fun e he lX=>?_⟩
    ·cases es with
     |nil=>simp
     |cons e es=>simp[h5.2.2 e (by simp)]
    ·rw[List.all_eq_true];intro e he;obtain⟨r,hr⟩:=List.mem_iff_getElem?.1 he;obtain⟨_,k1,_⟩:=MR.at h5.1 hr;exact A4 oP k1
    ·refine hK _ _ _ _ _ _ _ _ (hA fun r hr=>?_) (.of hG.bf (Dead.refl σ)) hG (by simp only[SR,SRs];exact⟨[.bool false],rfl,_,[],rfl,rfl,rfl⟩);have dK:r<es.length:=by omega
     have he:=List.getElem?_eq_getElem dK;have:=List.all_eq_true.1 hall es[r] (List.getElem_mem dK);have aj:=h5.2.2 _ (List.getElem_mem dK);rw[Bool.or_eq_true,decide_eq_true_eq] at this;rcases this with this|this
     ·rw[List.contains_iff_mem] at this;obtain⟨t,ht⟩:=List.mem_iff_getElem?.1 this;have xg:t<seen.length:=(List.getElem?_eq_some_iff.1 ht).1;have tz:t<dn.length:=by have:=h6.1;omega
      obtain⟨e',k1,k2⟩:=h6.2 t dn[t] (List.getElem?_eq_getElem tz);rw[ht] at k2;have:=H0 h5.2 he k1 (osj k2);rw[this];exact List.getElem_mem tz
     ·omega
    ·obtain⟨r,hr⟩:=List.mem_iff_getElem?.1 he;have dK:r<es.length:=(List.getElem?_eq_some_iff.1 hr).1;have tA:r∉dn:=fun hm=>by
      obtain⟨t,ht⟩:=List.mem_iff_getElem?.1 hm;obtain⟨e',k1,k2⟩:=h6.2 t r ht;rw[hr] at k1;obtain rfl:=osj k1;have:seen.contains e.2.2=true:=by rw[List.contains_iff_mem];exact List.mem_of_getElem? k2
      rw[this] at lX;cases lX
     refine hK _ _ _ _ _ _ _ _ (hB r (by omega) tA) (.of hG.bf (Dead.upd _ _ _ (by rw[h3];rfl))) (hG.write o _ (hG.le.upd a8 _) ai (fun q i' hq hl hi=>Heap.get_upd_ne _ _ (a7 q i' hq hl hi)) ⟨j,i,es,clock,wr,seen++[e.2.2],h2,Heap.get_upd_self _ _ (σ.lt h3),h4,h5,?_,fun t r' ht=>?_⟩) (by simp only[SR,SRs];exact⟨[.bool true,e.1,e.2.1],rfl,_,_,rfl,rfl,_,_,rfl,trivial,_,_,rfl,trivial,rfl⟩)
     ·simp[h6.1]
     ·rw[List.getElem?_append] at ht;split at ht
      ·rename_i aj;obtain⟨e',k1,k2⟩:=h6.2 t r' ht;refine⟨e',k1,?_⟩;rw[List.getElem?_append_left (by have:=h6.1;omega)];exact k2
      ·rename_i bC;have h0:t-dn.length=0:=by
        cases hz:t-dn.length with
        |zero=>rfl
        |succ n=>rw[hz] at ht;simp at ht
       rw[h0] at ht;obtain rfl:r=r':=by simpa using ht
       refine⟨e,hr,?_⟩;rw[List.getElem?_append_right (by have:=h6.1;omega),show t-seen.length=0 by have:=h6.1;omega];rfl
   ·exact h.elim
  ·exact h.elim
 ·exact h.elim
theorem LY {d:Nat}(h_:B.Le F) {ty:Nat}{k:Kind}{xs:List k.T}{nl:Bool}(hk:k.flat=true) {pl':Nat→Value}{u:Value}{σ':Heap}(h1:Gam P B F pl' tb (s.make d (.lst ty k xs nl)) env σ') (h2:SR P B pl' tb (.lst d) u) (hd:Dead σ σ') :
  ∃ B' F',GBase B F σ B' F' σ'∧Gam P B' F' pl' tb (s.make d .dead) env σ'∧SR P B' pl' tb (.val (.list k) xs) u:=by
 have ak:=h1.obj d;have bB:Q7 (s.make d (.lst ty k xs nl)).own d=.lst ty k xs nl:=by simp only[St.make,Qb,if_true]
 rw[bB] at ak;simp only[SR] at h2;obtain⟨rfl,_⟩:=h2;rcases ak with⟨_,hx,hp⟩|⟨_,i,cap,c,t,hp,cR,hg,hlen,cj⟩
 ·refine⟨B,F,.of h_ hd,(h1.drop d).own rfl (E0 s d _) rfl,?_⟩;simp only[SR];exact⟨_,rfl,.inl ⟨hx,hp⟩⟩
 ·obtain⟨g1,g2⟩:=h1.freeze (o:=d) (i:=i) (by rw[bB];rfl) (by rw[hp];rfl);refine⟨_,_,(GBase.of h_ hd).trans g1,g2.own rfl (E0 s d _) rfl,?_⟩;simp only[SR];refine⟨_,rfl,.inr ⟨i,0,cap,c,⟨k.size,ty⟩,true,t,hp,cR,by rw[Heap.ins_self];exact hg,rfl,by have:=Nat.mul_le_mul_right k.size cR;omega,?_⟩⟩;rw[List.drop_zero];exact cj.mono fun _ _ e=>KC.flat hk e
theorem IE {d nt:Nat}(cW:0<nt) (hG:Gam P B F pl tb s env σ) {ty:Nat}{k:Kind}{xs:List k.T}{nl:Bool}(hk:k.flat=true) {u:Value}{σ':Heap}(h:Ret P σ (.lst 0) [.lst ty k xs nl] u σ') :
  ∃ B' F' pl',GBase B F σ B' F' σ'∧Gam P B' F' pl' tb (s.make d .dead) env σ'∧SR P B' pl' tb (.val (.list k) xs) u:=by
 obtain⟨pl',h1,h2⟩:=h.gam (d:=d) cW hG (by rfl) (by simp only[List.all_cons,List.all_nil,Bool.and_true,OB.ret];exact hk);simp only[St.makes,Nat.zero_mul,Nat.add_zero,SV.ren] at h1 h2;obtain⟨B',F',k⟩:=LY hG.bf hk h1 h2 h.1.2;exact⟨B',F',pl',k⟩
theorem Gq {nt:Nat}{r:Option (Prop×SV×List OB)}{c:Prop}{v:SV}(h:FN nt r=some (c,v)):∃ ty k xs nl,r=some (c,.lst 0,[.lst ty k xs nl])∧v=.val (.list k) xs∧k.flat=true∧0<nt:=by
 unfold FN at h;split at h
 ·split at h
  ·rename_i k xs _;cases hc:(k.flat&&Nat.blt 0 nt) with
   |false=>rw[hc] at h;cases h
   |true =>rw[hc] at h;obtain⟨rfl,rfl⟩:=Z1 h;simp only[Bool.and_eq_true,Nat.blt_eq] at hc;exact⟨_,_,_,_,rfl,rfl,hc.1,hc.2⟩
  ·cases h
 ·cases h
theorem Fv {C:Cx}(aw:CsOk P C.cs) (hG:Gam P B F pl tb s env σ) {gs:List Gd}(hg:Gds tb gs) {o:VOp}{c:Prop}{v:SV}{d:Nat}(h:LV C o (gev gs s.env) s.own=some (c,v)) (hc:c) {K:Value→Heap→Prop}
  (hK:∀ u σ' B' F' pl',GBase B F σ B' F' σ'→Gam P B' F' pl' tb (s.make d .dead) env σ'→SR P B' pl' tb v u→K u σ'):vop (Q2 P) o env σ K:=by
 cases o<;>first|(cases h;done)|skip
 case callF f args =>
  simp only[LV] at h;obtain⟨ty,k,xs,nl,heq,rfl,hk,cW⟩:=Gq h;obtain⟨g,a,b,h3,h4,_⟩:=J5 aw (show SR P σ X0 ZF (.fn f [] []) (.func (.func f) #[] #[]) by simp only[SR,SRs];exact⟨[],[],rfl,rfl,rfl⟩) (hG.gcall hg args) heq (by rfl) (by simp only[List.all_cons,List.all_nil,Bool.and_true,OB.ret];exact hk) hc;obtain⟨rfl,rfl,rfl⟩:=(by simpa using h3:f=g∧#[]=a∧#[]=b);have:=h4.mono (R':=K) fun u σ' hr=>by obtain⟨B',F',pl',k1,k2,k3⟩:=IE (d:=d) cW hG hk hr;exact hK u σ' B' F' pl' k1 k2 k3
  show VCalled P f (args.map (Q3 env)) σ K;simpa using this
 case callV f args =>
  simp only[LV] at h;obtain⟨ty,k,xs,nl,heq,rfl,hk,cW⟩:=Gq h;obtain⟨g,a,b,h3,h4,_⟩:=J5 aw (hG.gfun hg f) (hG.gcall hg args) heq (by rfl) (by simp only[List.all_cons,List.all_nil,Bool.and_true,OB.ret];exact hk) hc;exact MP h3 (h4.mono fun u σ' hr=>by
   obtain⟨B',F',pl',k1,k2,k3⟩:=IE (d:=d) cW hG hk hr;exact hK u σ' B' F' pl' k1 k2 k3)
 case buildSlice e z n ps =>
  simp only[LV] at h;split at h
  ·rename_i k vQ;split at h
   ·rename_i dV;split at h
    ·rename_i xs hx;obtain⟨rfl,rfl⟩:=Z1 h;have vR:gn C d (.buildSlice e z n ps) (gev gs s.env) s (fun v s'=>v=.lst d∧s'=s.make d (.lst e.ty k xs false)):=by
      simp only[gn,vQ,hx];rw[if_pos ⟨dV.1,dV.2.1⟩];simp
     obtain⟨u,σ',pl',v,s',h1,⟨rfl,rfl⟩,⟨h3,_⟩,h4⟩:=G3 (fun x=>hG.evs hg x) hG vR;obtain⟨B',F',k1,k2,k3⟩:=LY hG.bf dV.2.2 h3 h4 (Vr h1);show QV (Q5 (.buildSlice e z n ps) (Q3 env) σ) _;rw[h1];exact hK u σ' B' F' pl' k1 k2 k3
    ·cases h
   ·cases h
  ·cases h
theorem An {C:Cx}{o:VOp}{ev:Operand→SV}{own:Own}{c:Prop}{v:SV}(h:LV C o ev own=some (c,v)):∃ (k:Kind) (xs:List k.T),v=.val (.list k) xs:=by
 cases o<;>first|(cases h;done)|skip
 case callF=>simp only[LV] at h;obtain⟨ty,k,xs,nl,_,hv,_⟩:=Gq h;exact⟨k,xs,hv⟩
 case callV=>simp only[LV] at h;obtain⟨ty,k,xs,nl,_,hv,_⟩:=Gq h;exact⟨k,xs,hv⟩
 case buildSlice e z n ps =>
  simp only[LV] at h;split at h
  ·split at h
   ·split at h
    ·obtain⟨_,rfl⟩:=Z1 h;exact⟨_,_,rfl⟩
    ·cases h
   ·cases h
  ·cases h
theorem Q4s {C:Cx}(aw:COk P C) {B F:Heap}{pl:Nat→Value}{tb:Nat→Option Bool}{s:St}{env:Env}{σ:Heap}(hG:Gam P B F pl tb s env σ) {d:Nat}{o:VOp}{K:SV→St→Prop}(h:gn C d o (gev [] s.env) s K) {R:Value→Heap→Prop}
  (hK:∀ v s' B' F' pl' tb' u σ',K v s'→GBase B F σ B' F' σ'→Gam P B' F' pl' tb' s' env σ'→SR P B' pl' tb' v u→R u σ'):vop (Q2 P) o env σ R:=by
 have af:=hG.evs (Gds.nil (tb:=tb));have act:∀ o {T:Nat},NOk P B F tb o (Q3 env) env σ K T s pl→(∀ R',QV (Q5 o (Q3 env) σ) (fun p=>R' p.1 p.2)→vop (Q2 P) o env σ R')→vop (Q2 P) o env σ R:=fun o _ ⟨u,σ',pl',v,s',h1,h2,h3,h4⟩ hv=>hv R (by rw[h1];exact hK v s' B F pl' tb u σ' h2 (.of hG.bf (Vr h1)) h3.1 h4);have av:∀ args:List Operand,SRs P B pl tb (args.map (gev [] s.env)) (args.map (Q3 env)):=fun args=>SRs.map fun x _=>hG.evs Gds.nil x;cases o
 case alloc t z=>exact act _ (Q22 af hG h) fun _ h=>h
 case box t x=>exact act _ (Q8p af hG h) fun _ h=>h
 case buildSlice e z n ps=>exact act _ (G3 af hG h) fun _ h=>h
 case makeSlice e b z l c=>exact act _ (Ro af hG h) fun _ h=>h
 case append e b x y=>exact act _ (Ib af hG h) fun _ h=>h
 case store size a x=>exact act _ (Q20 af hG h) fun _ h=>h
 case callF f args =>
  simp only[gn] at h;obtain⟨g,a,b,h3,h4⟩:=P2 aw hG (show SR P B pl tb (.fn f [] []) (.func (.func f) #[] #[]) by simp only[SR,SRs];exact⟨[],[],rfl,rfl,rfl⟩) (av args) h (fun _ e=>by cases e) hK;obtain⟨rfl,rfl,rfl⟩:=(by simpa using h3:f=g∧#[]=a∧#[]=b);show VCalled P f (args.map (Q3 env)) σ R;simpa using h4
 case callV f args =>
  simp only[gn] at h;by_cases hy:∃ o,gev [] s.env f=.dd o .yv
  ·obtain⟨o,hy⟩:=hy;have hf:=hG.evs (Gds.nil (tb:=tb)) f;have h':Lr C d (gev [] s.env f) (args.map (gev [] s.env)) s K:=h;rw[hy] at hf h';simp only[SR,DR] at hf;obtain⟨i,hp,hv⟩:=hf;simp only[Lr] at h';split at h'
   ·rename_i y vS;have:=aw.yl o y vS B F pl tb s env σ _ _ K R i hG (av args) h' hp hK;simp only[vop,hv];exact this
   ·exact h'.elim
  obtain⟨g,a,b,h3,h4⟩:=P2 aw hG (hG.evs Gds.nil f) (av args) h (fun o e=>hy ⟨o,e⟩) hK;exact MP h3 h4
 case ext x =>
  cases x
  case mapUpdate mk m k v=>exact act _ (Rw af hG h) fun _ h=>h
  case delete mk m k=>exact act _ (FU af hG h) fun _ h=>h
  case mapEntry mk z m k=>exact act _ (LK af hG h) fun _ h=>h
  case entryStore m s v=>exact act _ (Pj af hG h) fun _ h=>h
  case copy size a b=>exact act _ (Q5n af hG h) fun _ h=>h
  case unsafeStr e a n=>exact act _ (R_ af hG h) fun _ h=>h
  case strBytes e a=>exact act _ (Ln af hG h) fun _ h=>h
  case rangeMap a=>exact I_ hG h hK
  case nextMap a=>exact Q0t hG h hK
  all_goals exact h.elim
 all_goals exact h.elim
theorem Gam.frz (hG:Gam P B F pl tb s env σ) (o:Nat):∃ B' F',GBase B F σ B' F' σ∧Gam P B' F' pl tb (s.frz o) env σ:=by
 unfold St.frz;split
 ·rename_i ty k xs nl ho;have fin:∀ {B' F':Heap},Gam P B' F' pl tb ⟨s.env,oset s.own o .dead,s.nx⟩ env σ→KC B' (.list k) xs [pl o]→Gam P B' F' pl tb ⟨SVs.frz o k xs s.env,Q5b o k xs s.own,s.nx⟩ env σ:=fun {B' F'} h hk=>by
   have e1:∀ d,Q7 (Q5b o k xs s.own) d=(Q7 (oset s.own o .dead) d).frz o k xs:=fun d=>by
    rw[Q32,Qb];by_cases e:d=o
    ·rw[if_pos e,if_pos e];rfl
    ·rw[if_neg e,if_neg e]
   have lv:∀ d,(Q7 (Q5b o k xs s.own) d).live=(Q7 (oset s.own o .dead) d).live:=fun d=>by rw[e1,OB.live_frz]
   refine⟨h.bf,h.le,SRs.frz hk _ _ h.env,fun d=>?_,fun d i h1 h2=>?_,fun d d' i aA h1 h2=>?_,h.free⟩
   ·simp only[e1];exact(h.obj d).frz hk
   ·simp only[lv] at h1;exact h.fresh d i h1 h2
   ·simp only[lv] at h1 h2;exact h.sep d d' i aA h1 h2
  have ak:=hG.obj o;rw[ho] at ak;rcases ak with⟨_,hx,hp⟩|⟨_,i,cap,c,t,hp,cR,hg,hlen,cj⟩
  ·exact⟨B,F,.of hG.bf (.refl _),fin (hG.drop o) ⟨_,rfl,.inl ⟨hx,hp⟩⟩⟩
  ·obtain⟨g1,g2⟩:=hG.freeze (o:=o) (i:=i) (by rw[ho];rfl) (by rw[hp];rfl);refine⟨_,_,g1,fin g2 ⟨_,rfl,.inr ⟨i,0,cap,c,⟨k.size,ty⟩,true,t,hp,cR,by rw[Heap.ins_self];exact hg,rfl,by have:=Nat.mul_le_mul_right k.size cR;omega,?_⟩⟩⟩;rw[List.drop_zero];exact cj.mono fun _ _ e=>KC.mono g1.b e
 ·exact⟨B,F,.of hG.bf (.refl _),hG⟩
theorem GRel.frzs {B0 F0 D0:Heap}:∀ (l:List Nat) {s:St},GRel P B0 F0 D0 s env σ→GRel P B0 F0 D0 (s.frzs l) env σ
 |[],_,h=>h
 |o::r,s,⟨B,F,pl,tb,hB,hG⟩=>by obtain⟨B',F',g1,g2⟩:=hG.frz o;exact GRel.frzs r ⟨B',F',pl,tb,hB.trans g1,g2⟩
end
theorem AR {j:Nat}{f:Nat→Prop}:∀ {n i:Nat},Q0w (j:Int) f n i→i≤j→j<i+n→f j
 |0,i,_,h1,h2=>by omega
 |n+1,i,h,h1,h2=>by
  rcases Nat.lt_or_ge i j with h3|h3
  ·exact AR h.2 h3 (by omega)
  ·have:j=i:=by omega
   subst this;exact h.1 rfl
theorem Q2v {o:VOp}{len i:Nat}{f:Nat→VOp}(h:Q8k o=some (len,i,f)) {n:Nat}:(∃ size x,f n=.indexAddrArr len size x (.const (.int .i64 (Int.ofNat n))))∨∃ agg size x,f n=.indexArr len agg size x (.const (.int .i64 (Int.ofNat n))):=by
 unfold Q8k at h;split at h
 ·cases h;exact .inl ⟨_,_,rfl⟩
 ·cases h;exact .inr ⟨_,_,_,rfl⟩
 ·cases h
theorem Q43 {o:VOp}{len i:Nat}{f:Nat→VOp}(h:Q8k o=some (len,i,f)) {S:VSpecs}{env:Env}{σ:Heap}{k:IntKind}{n:Nat}(he:Q3 env (.tmp i)=.int k (n:Int)) {R:Value→Heap→Prop}(hv:vop S (f n) env σ R):vop S o env σ R:=by
 have hc:Q3 env (.const (.int .i64 (Int.ofNat n)))=.int .i64 (n:Int):=rfl;unfold Q8k at h;split at h
 ·rename_i len size x t;cases h;change QV (Q5 _ (Q3 env) σ) _ at hv;change QV (Q5 _ (Q3 env) σ) _;simp only[Q5,he,hc] at hv ⊢;generalize Q3 env x=u at hv ⊢;cases u<;>first|exact hv|skip
  rename_i p;cases p<;>first|exact hv|skip
  rename_i a;obtain⟨b,o,sp⟩:=a;cases sp<;>exact hv
 ·rename_i len agg size x t;cases h;change QV (Q5 _ (Q3 env) σ) _ at hv;change QV (Q5 _ (Q3 env) σ) _;simp only[Q5,he,hc] at hv ⊢;generalize Q3 env x=u at hv ⊢;cases u<;>exact hv
 ·cases h
theorem Lq {C:Cx}(aw:COk P C) {B0 F0 D0:Heap}{s:St}{env:Env}{σ:Heap}(hR:GRel P B0 F0 D0 s env σ) {o:VOper}{K:St→Prop}(h:Z1l C o s K) {R:Env→Heap→Prop}(hK:∀ s' ae σ',K s'→GRel P B0 F0 D0 s' ae σ'→R ae σ') :
  QV (Jj env o.guard) fun b=>vif b (vop (Q2 P) o.op env σ fun v σ'=>R (XN env o.dst v) σ') (R (XN env o.dst undef) σ):=by
 unfold Z1l at h;split at h
 ·rename_i hg;rw[hg];refine⟨fun _=>?_,fun e=>by cases e⟩
  replace hR:=hR.frzs (Q6i C (o.dst.getD 0) o.op (gev [] s.env) s.own)
  generalize s.frzs (Q6i C (o.dst.getD 0) o.op (gev [] s.env) s.own)=s at h hR;obtain⟨B,F,pl,tb,hB,hG⟩:=hR;unfold Z4k at h;split at h
  ·rename_i len i f tB;split at h
   ·rename_i k j hj;obtain⟨h1,h2,h3⟩:=h;obtain⟨n,rfl⟩:=Int.eq_ofNat_of_zero_le h1;have hn:n<len:=by omega
    have h4:=AR h3 (Nat.zero_le n) (by omega);have he:=ZY hj (hG.evs (Gds.nil (tb:=tb)) (.tmp i));split at h4
    ·rename_i cs v dD;obtain⟨k1,k2⟩:=ZC h4
     replace k1:=Zw k1
     have hv:=TQ (C:=C) aw.cs hG Gds.nil (o:=f n) (raw:=C.raw.contains (o.dst.getD 0)) (cs:=cs) (v:=v) (by
      rw[←dD];obtain⟨size,x,hf⟩|⟨agg,size,x,hf⟩:=Q2v tB<;>rw[hf];rfl;rfl) (k2 fun g hg=>by cases hg) fun u hu=>hK _ _ _ k1 ⟨B,F,pl,tb,hB,hG.put o.dst hu⟩
     exact Q43 tB he hv
    ·exact h4.elim
   ·exact h.elim
  unfold Z4b at h;split at h
  ·rename_i c a b bH;split at h
   ·rename_i v hv;obtain⟨u,h1,h2⟩:=Nm hG Gds.nil hv;rw[bH];show QV (Q5 (.pick c a b) (Q3 env) σ) _;rw[h1];exact hK _ _ _ (Zw h) ⟨B,F,pl,tb,hB,hG.put o.dst h2⟩
   ·exact h.elim
  ·rename_i xh;cases hq:Q36 o.op with
   |true =>
    rw[hq] at h;simp only[_root_.cond_true] at h;split at h
    ·rename_i cs v dD;obtain⟨h1,h2⟩:=ZC h
     replace h1:=Zw h1
     refine TQ (C:=C) aw.cs hG Gds.nil (raw:=C.raw.contains (o.dst.getD 0)) (cs:=cs) (v:=v) ?_ (h2 fun g hg=>by cases hg) fun u hu=>hK _ _ _ h1 ⟨B,F,pl,tb,hB,hG.put o.dst hu⟩;rw[←dD];cases ho:o.op<;>first|rfl|(rw[ho] at hq;cases hq)
    ·exact h.elim
   |false =>
    rw[hq] at h;simp only[_root_.cond_false] at h;split at h
    ·rename_i bH;split at h
     ·rename_i kk vk _;obtain⟨h1,h2⟩:=Q27 hG (C.off+o.dst.getD 0) kk vk;rw[bH];change R (XN env o.dst (.map (some σ.n))) (σ.push (.obj (.map [] 0) true));exact hK _ _ _ h ⟨B,F,_,tb,De hB (Dead.push _ _),h1.put o.dst h2⟩
     ·exact h.elim
    ·rename_i bH;cases kW:Ak C (o.dst.getD 0) o.op (gev [] s.env) with
     |true =>rw[kW] at h;simp only[_root_.cond_true] at h;exact Q02 hG h fun v s' B' F' pl' tb' u σ' h1 hd h2 h3=>hK _ _ _ h1 ⟨B',F',pl',tb',hB.trans hd,h2.put o.dst h3⟩
     |false =>rw[kW] at h;simp only[_root_.cond_false] at h;exact Q4s aw hG h fun v s' B' F' pl' tb' u σ' h1 hd h2 h3=>hK _ _ _ h1 ⟨B',F',pl',tb',hB.trans hd,h2.put o.dst h3⟩
 ·rename_i j want hg;obtain⟨B,F,pl,tb,hB,hG⟩:=hR;rw[hg];split at h
  ·exact h.elim
  ·rename_i gs s' ek;obtain⟨tb',bq,cP,b,hw,bp,b_⟩:=WM hG ek;rw[hw];refine⟨fun e=>?_,fun e=>?_⟩
   ·have gJ:Gds tb' gs:=fun g hg=>⟨bp e g hg,cP g hg⟩;have fin:∀ {v u},SR P B pl tb' v u→SR P B pl tb' (.grd gs (BE v)) u:=fun {v u} hs=>by
     simp only[SR];obtain⟨h1,h2⟩:=T8 hs;exact⟨⟨cP,h2⟩,fun _=>h1,fun ⟨g,hg,aA⟩=>absurd (bp e g hg) aA⟩
    split at h
    ·rename_i c a b' bH;split at h
     ·rename_i v hv;obtain⟨u,h1,h2⟩:=Nm bq gJ hv;rw[bH];show QV (Q5 (.pick c a b') (Q3 env) σ) _;rw[h1];exact hK _ _ _ (Zw h) ⟨B,F,pl,tb',hB,bq.put o.dst (fin h2)⟩
     ·exact h.elim
    ·split at h
     ·rename_i cs v dD;obtain⟨h1,h2⟩:=ZC h
      replace h1:=Zw h1
      exact TQ aw.cs bq gJ dD (h2 (bp e)) fun u hu=>hK _ _ _ h1 ⟨B,F,pl,tb',hB,bq.put o.dst (fin hu)⟩
     ·split at h
      ·rename_i c v kX;obtain⟨h1,h2⟩:=ZC h
       replace h1:=Zw h1
       refine Fv aw.cs bq gJ (d:=C.off+o.dst.getD 0) kX (h2 (bp e) c (by simp)) fun u σ' B' F' pl' k1 k2 k3=>hK _ _ _ h1 ⟨B',F',pl',tb',hB.trans k1,k2.put o.dst ?_⟩;simp only[SR];refine⟨⟨cP,?_⟩,fun _=>k3,fun ⟨g,hg,aA⟩=>absurd (bp e g hg) aA⟩;obtain⟨k,xs,rfl⟩:=An kX;trivial
      ·exact h.elim
   ·have fin:∀ v,SR P B pl tb' (.grd gs (BE v)) undef:=fun v=>by
     simp only[SR];obtain⟨g,hg,aA⟩:=b_ e;exact⟨⟨cP,T3 v⟩,fun hall=>absurd (hall g hg) aA,fun _=>trivial⟩
    split at h
    ·split at h
     ·exact hK _ _ _ (Zw h) ⟨B,F,pl,tb',hB,bq.put o.dst (fin _)⟩
     ·exact h.elim
    ·split at h
     ·exact hK _ _ _ (Zw (ZC h).1) ⟨B,F,pl,tb',hB,bq.put o.dst (fin _)⟩
     ·split at h
      ·rename_i c v kX;refine hK _ _ _ (Zw (ZC h).1) ⟨B,F,_,tb',hB,(bq.make (C.off+o.dst.getD 0) .dead undef bq.le (fun _ _ _ _ _=>rfl) trivial (fun i hl _=>by cases hl)).put o.dst ?_⟩;simp only[SR];obtain⟨g,hg,aA⟩:=b_ e;refine⟨⟨cP,?_⟩,fun hall=>absurd (hall g hg) aA,fun _=>trivial⟩;obtain⟨k,xs,rfl⟩:=An kX;trivial
      ·exact h.elim
theorem Q39 {C:Cx}(aw:COk P C) {B0 F0 D0:Heap}{s:St}{env:Env}{σ:Heap}(hR:GRel P B0 F0 D0 s env σ) {o:VOper}{K:St→Prop}(h:gop C o s K) {R:Env→Heap→Prop}(hK:∀ s' ae σ',K s'→GRel P B0 F0 D0 s' ae σ'→R ae σ') :
  QV (Jj env o.guard) fun b=>vif b (vop (Q2 P) o.op env σ fun v σ'=>R (XN env o.dst v) σ') (R (XN env o.dst undef) σ):=by
 unfold gop at h;split at h
 ·rename_i t ht;have oQ:=hR;obtain⟨B,F,pl,tb,hB,hG⟩:=hR;rw[Vu hG ht];cases t with
  |true =>simp only[_root_.cond_true] at h;exact Lq aw oQ (o:=⟨o.dst,o.op,none⟩) h hK
  |false =>simp only[_root_.cond_false] at h;exact⟨(fun e=>by cases e),fun _=>hK _ _ _ h ⟨B,F,pl,tb,hB,hG.put o.dst (by simp[SR])⟩⟩
 ·exact Lq aw hR h hK
theorem O8 {C:Cx}{B0 F0 D0:Heap}{s:St}{env:Env}{σ:Heap}(hR:GRel P B0 F0 D0 s env σ) {d:Option Nat}{K:St→Prop}(h:Z1j C d K s):∃ s2,K s2∧GRel P B0 F0 D0 s2 env σ:=by
 unfold Z1j at h;split at h
 ·exact⟨s,h,hR⟩
 ·rename_i d;cases hb:C.spl.contains d with
  |false=>rw[hb] at h;exact⟨s,h,hR⟩
  |true =>
   rw[hb] at h;simp only[_root_.cond_true] at h;split at h
   ·rename_i t ht;obtain⟨B,F,pl,tb,hB,hG⟩:=hR;have he:=Wu ht (hG.env.getD d undef);have cm:∀ v,SR P B pl tb v (env.getD d undef)→GRel P B0 F0 D0 (s.put (some d) v) env σ:=fun v hv=>by
     have:=hG.put (some d) hv;refine⟨B,F,pl,tb,hB,?_⟩;have e2:XN env (some d) (env.getD d undef)=env:=by
      show env.set d _=env;rcases Nat.lt_or_ge d env.length with h|h
      ·rw[List.getD_eq_getElem?_getD,List.getElem?_eq_getElem h];simp
      ·rw[List.set_eq_of_length_le h]
     rw[e2] at this;exact this
    have sr:SR P B pl tb (.grd [] (.val .bo t)) (env.getD d undef):=by simp only[SR];exact⟨⟨(fun g hg=>by cases hg),trivial⟩,(fun _=>by rw[he];simp[KC]),fun ⟨g,hg,_⟩=>by cases hg⟩
    cases t with
    |true=>exact⟨_,h.1 rfl,cm _ sr⟩
    |false=>exact⟨_,h.2 rfl,cm _ sr⟩
   ·exact h.elim
theorem Gu {C:Cx}(aw:COk P C) {B0 F0 D0:Heap}:∀ (ops:List VOper) {s:St}{env:Env}{σ:Heap},GRel P B0 F0 D0 s env σ→∀ {K:St→Prop},Z1n C ops s K→∀ {R:Env→Heap→Prop},(∀ s' ae σ',K s'→GRel P B0 F0 D0 s' ae σ'→R ae σ')→RD (Q2 P) ops env σ R
 |[],s,env,σ,hR,_K,h,_R,hK=>hK s env σ h hR
 |_o::r,_s,_env,_σ,hR,_K,h,_R,hK=>Q39 (R:=fun env σ=>RD (Q2 P) r env σ _R) aw hR h fun _ _ _ h1 h2=>by obtain⟨s2,k1,k2⟩:=O8 h2 h1;exact Gu aw r k2 k1 hK
theorem Q0p {S:VSpecs}{l:List DOper}{rest:List DSeg}{env:Env}{σ:Heap}{K:Env→Heap→Prop}(h:l.all (fun o=>!(o.kind==2)&&!(o.op.kind==2))=true) (hv:RD S (l.map dv) env σ fun env σ=>GV S rest env σ K):GV S (.alts [l]::rest) env σ K:=by
 intro ops ho;obtain rfl:=List.mem_singleton.1 ho;have key:∀ (l:List DOper) (env:Env) (pend:List (Nat×(Heap→Prop))) (K':Env→Heap→Prop),l.all (fun o=>!(o.kind==2)&&!(o.op.kind==2))=true→RD S (l.map dv) env σ K'→ZJ S l env [σ] σ pend K':=by
  intro l;induction l with
  |nil=>intro env pend K' _ h;exact h
  |cons o rest ih =>
   intro env pend K' hk h;simp only[List.all_cons,Bool.and_eq_true,Bool.not_eq_true',beq_eq_false_iff_ne] at hk;obtain⟨⟨bn,au⟩,hr⟩:=hk;have hr:rest.all (fun o=>!(o.kind==2)&&!(o.op.kind==2))=true:=by simpa using hr
   simp only[List.map_cons,RD,dv] at h;simp only[ZJ];cases hw:Jj env o.guard with
   |none=>rw[hw] at h;exact h.elim
   |some b =>
    rw[hw] at h;obtain⟨ht,hf⟩:=h;refine⟨fun e=>?_,fun e=>?_⟩
    ·have ht:=ht e;obtain⟨p,hp,fX⟩:∃ p,Q5 o.op (Q3 env) σ=some p∧RD S (rest.map dv) (XN env o.dst p.1) p.2 K':=by
      have:=ht;unfold vop at this;split at this
      ·rename_i f bN heq;rw[heq] at au;exact absurd rfl au
      ·rename_i f bN heq;rw[heq] at au;exact absurd rfl au
      ·rename_i x heq;rw[heq] at au;exact absurd rfl au
      ·cases dL:Q5 o.op (Q3 env) σ with
       |none=>rw[dL] at this;exact this.elim
       |some p=>rw[dL] at this;exact⟨p,rfl,this⟩
     have hq:p.2=σ:=B_ au (v:=p.1) (σ':=p.2) hp;rw[hq] at fX;rw[if_neg bn];split
     ·rw[hp];refine⟨fun τ hτ=>?_,ih _ _ _ hr fX⟩;have:τ=σ:=by
       have:=List.mem_of_mem_drop hτ;simpa using this
      subst this;show QV (Q5 o.op (Q3 env) τ) _;rw[hp];rfl
     ·rw[hp];exact ih _ _ _ hr fX
    ·rw[if_neg bn];exact ih _ _ _ hr (hf e)
 have:=key ops env [] _ h hv;have mono:∀ (l:List DOper) (env:Env) (hs:List Heap) (τ:Heap) (pend:List (Nat×(Heap→Prop))) (A B:Env→Heap→Prop),l.all (fun o=>!(o.kind==2)&&!(o.op.kind==2))=true→(∀ e s,A e s→B e s)→ZJ S l env hs τ pend A→ZJ S l env hs τ pend B:=by
  intro l;induction l with
  |nil=>intro env hs τ pend A B _ lM h;exact lM _ _ h
  |cons o rest ih =>
   intro env hs τ pend A B hk lM h;simp only[List.all_cons,Bool.and_eq_true,Bool.not_eq_true',beq_eq_false_iff_ne] at hk;obtain⟨⟨bn,au⟩,hr⟩:=hk;have hr:rest.all (fun o=>!(o.kind==2)&&!(o.op.kind==2))=true:=by simpa using hr
   simp only[ZJ] at h ⊢;cases hw:Jj env o.guard with
   |none=>rw[hw] at h;exact h.elim
   |some b =>
    rw[hw] at h;obtain⟨ht,hf⟩:=h;refine⟨fun e=>?_,fun e=>?_⟩
    ·have ht:=ht e;rw[if_neg bn] at ht ⊢;by_cases pU:o.kind=1
     ·rw[if_pos pU] at ht ⊢;cases dL:Q5 o.op (Q3 env) τ with
      |none=>rw[dL] at ht;exact ht.elim
      |some p=>rw[dL] at ht;exact⟨ht.1,ih _ _ _ _ _ _ hr lM ht.2⟩
     ·rw[if_neg pU] at ht ⊢;cases dL:Q5 o.op (Q3 env) τ with
      |none=>rw[dL] at ht;exact ht.elim
      |some p=>rw[dL] at ht;exact ih _ _ _ _ _ _ hr lM ht
    ·have hf:=hf e;rw[if_neg bn] at hf ⊢;exact ih _ _ _ _ _ _ hr lM hf
 exact mono ops env _ _ _ _ _ h (fun e s hs=>⟨e,s,.refl _ _ _,hs⟩) this
theorem J4 {op:VOp}{ev:Operand→Value}{u:Value}{τ τ':Heap}(h:Q5 op ev τ=some (u,τ')):XC op ev u τ:=by unfold XC;rw[h];rfl
theorem Zr (s:St) (d:Option Nat) (v:SV):(s.put d v).own=s.own:=by cases d<;>rfl
theorem V9 {s s':St}{j:Nat}{want:Bool}{gs:List Gd}(h:P5 s j want=some (gs,s')):s'.own=s.own:=by unfold P5 at h;split at h<;>first|(cases h;done)|(obtain⟨_,rfl⟩:=Z1 h;rfl)
theorem UU {C:Cx}{B F:Heap}{pl:Nat→Value}{tb:Nat→Option Bool}{s:St}{env:Env}{σ:Heap}(hG:Gam P B F pl tb s env σ) {o:DOper}{K:St→Prop}(h:gd1 C o s K) :
  ∃ b,Jj env o.guard=some b∧(b=true→∃ u s' tb',Q5 o.op (Q3 env) σ=some (u,σ)∧K s'∧s'.own=s.own∧Gam P B F pl tb' s' (XN env o.dst u) σ)∧(b=false→∃ s' tb',K s'∧s'.own=s.own∧Gam P B F pl tb' s' (XN env o.dst undef) σ):=by
 unfold gd1 at h;split at h
 ·rename_i hg;rw[hg];refine⟨true,rfl,fun _=>?_,fun e=>by cases e⟩;split at h
  ·rename_i c a b bH;split at h
   ·rename_i v hv;obtain⟨u,h1,h2⟩:=Nm hG Gds.nil hv;exact⟨u,_,tb,by rw[bH];exact h1,Zw h,Zr _ _ _,hG.put o.dst h2⟩
   ·exact h.elim
  ·split at h
   ·rename_i cs v dD;obtain⟨h1,h2⟩:=ZC h;obtain⟨u,h3,h4⟩:=C2 (hG.evs (Gds.nil (tb:=tb))) (fun _=>rfl) hG.leB hG.obj dD (h2 fun g hg=>by cases hg);exact⟨u,_,tb,h3,Zw h1,Zr _ _ _,hG.put o.dst h4⟩
   ·exact h.elim
 ·rename_i j want hg;rw[hg];split at h
  ·exact h.elim
  ·rename_i gs s' ek;obtain⟨tb',bq,cP,b,hw,bp,b_⟩:=WM hG ek;refine⟨b,hw,fun e=>?_,fun e=>?_⟩
   ·have gJ:Gds tb' gs:=fun g hg=>⟨bp e g hg,cP g hg⟩;have fin:∀ {v u},SR P B pl tb' v u→SR P B pl tb' (.grd gs (BE v)) u:=fun {v u} hs=>by
     simp only[SR];obtain⟨h1,h2⟩:=T8 hs;exact⟨⟨cP,h2⟩,fun _=>h1,fun ⟨g,hg,aA⟩=>absurd (bp e g hg) aA⟩
    split at h
    ·rename_i c a b' bH;split at h
     ·rename_i v hv;obtain⟨u,h1,h2⟩:=Nm bq gJ hv;exact⟨u,_,tb',by rw[bH];exact h1,Zw h,(Zr _ _ _).trans (V9 ek),bq.put o.dst (fin h2)⟩
     ·exact h.elim
    ·split at h
     ·rename_i cs v dD;obtain⟨h1,h2⟩:=ZC h;obtain⟨u,h3,h4⟩:=C2 (bq.evs gJ) (fun _=>rfl) bq.leB bq.obj dD (h2 (bp e));exact⟨u,_,tb',h3,Zw h1,(Zr _ _ _).trans (V9 ek),bq.put o.dst (fin h4)⟩
     ·exact h.elim
   ·have fin:∀ v,SR P B pl tb' (.grd gs (BE v)) undef:=fun v=>by
     simp only[SR];obtain⟨g,hg,aA⟩:=b_ e;exact⟨⟨cP,T3 v⟩,fun hall=>absurd (hall g hg) aA,fun _=>trivial⟩
    split at h
    ·split at h
     ·exact⟨_,tb',Zw h,(Zr _ _ _).trans (V9 ek),bq.put o.dst (fin _)⟩
     ·exact h.elim
    ·split at h
     ·exact⟨_,tb',Zw (ZC h).1,(Zr _ _ _).trans (V9 ek),bq.put o.dst (fin _)⟩
     ·exact h.elim
theorem EJ {bs:List OB}{q:Prop}(h:Q0n bs q):(∀ b∈bs,b.wf)∧q:=by
 induction bs with
 |nil=>exact⟨(fun b hb=>by cases hb),h⟩
 |cons b r ih =>
  obtain⟨h1,h2⟩:=h;obtain⟨h3,h4⟩:=ih h2;exact⟨fun b' bK=>by
   rcases List.mem_cons.1 bK with rfl|bK
   ·exact h1
   ·exact h3 b' bK,h4⟩
mutual
theorem IW {d nt:Nat}:∀ (v:SV),v.ret 0=true→(v.ren d nt).ret 0=true
 |.val k x,h=>h
 |.nilS,_|.nilP,_|.nilM,_|.nilF,_=>rfl
 |.lst j,h|.box j _,h|.map j,h=>by simp[SV.ret,Nat.blt] at h
 |.agg l,h=>by simp only[SV.ren,SV.ret] at h ⊢;exact Ri l h
 |.tup l,h=>by simp only[SV.ren,SV.ret] at h ⊢;exact Ri l h
 |.any,h|.bid _ _,h|.grd _ _,h|.sub _ _ _ _,h|.elp _ _ _ _,h|.rop _ _ _ _,h|.cp _ _,h|.fn _ _ _,h|.pf _ _ _ _,h=>by cases h
theorem Ri {d nt:Nat}:∀ (v:List SV),SVs.ret 0 v=true→SVs.ret 0 (SVs.ren d nt v)=true
 |[],_=>rfl
 |s::ss,h=>by simp only[SVs.ret,SVs.ren,Bool.and_eq_true] at h ⊢;exact⟨IW s h.1,Ri ss h.2⟩
end
theorem WE {C:Cx}(aw:COk P C) {B F:Heap}{pl:Nat→Value}{tb:Nat→Option Bool}{s:St}{env:Env}{σ:Heap}(hG:Gam P B F pl tb s env σ) {d:Nat}{f:SV}{args:List SV}{K:List Nat→SV→St→Prop}(h:Df C d f args s K) {fV:Value}{vs:List Value}
  (hf:SR P σ X0 ZF f fV) (ha:SRs P σ X0 ZF args vs):∃ g a b u σ' ts v s' pl',fV=.func (.func g) a b∧(VCalled P g (a.toList++vs++b.toList) σ fun u' aE=>u'=u∧aE=σ')∧K ts v s'∧Gam P B F pl' tb s' env σ'∧SR P B pl' tb v u∧(ts=[]→σ'=σ∧pl'=pl∧s'=s)∧σ.Le σ'∧Dead σ σ'∧FrL ts s s' pl pl' σ σ':=by
 unfold Df at h;split at h
 ·rename_i c v bs heq;cases hb:(v.ret bs.length&&(bs.all OB.ret&&(Nat.blt 0 C.nt&&(bs.all OB.isL&&Uz v)))) with
  |false=>rw[hb] at h;exact h.elim
  |true =>
   rw[hb] at h;obtain⟨h1,h2⟩:=h;obtain⟨h3,h4⟩:=EJ h2;simp only[Bool.and_eq_true] at hb;obtain⟨hv,nq,cW,hl,cE⟩:=hb;obtain⟨g,a,b,e,_,hx⟩:=J5 aw.cs hf ha heq hv nq h1;have dC:=AV (P:=P) σ hv cE nq hl (fun b hb=>by have:=h3 b hb;cases b<;>exact this);by_cases cg:bs=[]
   ·subst cg;obtain⟨k1,k2⟩:=dC.flat hv;refine⟨g,a,b,_,_,_,_,_,pl,e,hx hl cE,h4,?_,?_,fun _=>⟨k1,rfl,rfl⟩,dC.1.1,dC.1.2,fun q _=>⟨rfl,rfl,fun _ _ _=>by rw[k1]⟩⟩
    ·rw[k1];exact hG
    ·exact SR.retd (B:=hNil) (pl:=pl) (tb:=ZF) (n:=0) (fun j hj=>by omega) _ _ (IW v hv) (SR.ren (pl:=X0) (tb:=ZF) (n:=0) (fun j hj=>by omega) v _ hv k2)
   ·obtain⟨pl',h5,h6,h7⟩:=dC.gamF (nt:=C.nt) (d:=d) (by simpa [Nat.blt_eq] using cW) hG hv nq;refine⟨g,a,b,_,_,_,_,_,pl',e,hx hl cE,h4,h5,h6,fun he=>absurd (by simpa using he) cg,dC.1.1,dC.1.2,fun q hq=>h7 q fun j hj e=>hq ?_⟩;exact List.mem_map.2 ⟨j,List.mem_range.2 hj,e.symm⟩
 ·exact h.elim
def FM:VOp→Bool
 |.callF ..|.callV ..=>true
 |.ext (.rangeMap _)|.ext (.nextMap _)=>true
 |_=>false
theorem Q9o {C:Cx}{B F:Heap}{pl:Nat→Value}{tb:Nat→Option Bool}{s:St}{env:Env}{σ:Heap}(hG:Gam P B F pl tb s env σ) {d:Nat}{o:VOp}{K:SV→St→Prop}(h:gn C d o (gev [] s.env) s K) (hc:FM o=false) :
  NOk P B F tb o (Q3 env) env σ K (Qt d o (gev [] s.env)) s pl:=by
 have af:=hG.evs (Gds.nil (tb:=tb));cases o
 case alloc t z=>exact Q22 af hG h
 case box t x=>exact Q8p af hG h
 case buildSlice e z n ps=>exact G3 af hG h
 case makeSlice e b z l c=>exact Ro af hG h
 case append e b x y=>exact Ib af hG h
 case store size a x=>exact Q20 af hG h
 case callF=>cases hc
 case callV=>cases hc
 case ext x =>
  cases x
  case mapUpdate mk m k v=>exact Rw af hG h
  case delete mk m k=>exact FU af hG h
  case mapEntry mk z m k=>exact LK af hG h
  case entryStore m s v=>exact Pj af hG h
  case copy size a b=>exact Q5n af hG h
  case unsafeStr e a n=>exact R_ af hG h
  case strBytes e a=>exact Ln af hG h
  case rangeMap=>cases hc
  case nextMap=>cases hc
  all_goals exact h.elim
 all_goals exact h.elim
theorem CF {o:VOp}{ev:Operand→Value}{σ σ':Heap}{u:Value}(hm:R4 o=true) (h:Q5 o ev σ=some (u,σ')):σ.Le σ':=by
 have push:∀ b:Blk,σ.Le (σ.push b):=fun b=>(Heap.Le.refl σ).push b;cases o<;>first|(cases hm;done)|skip
 case alloc t z=>obtain⟨rfl,rfl⟩:=Z1 h;exact push _
 case box t x =>
  simp only[Q5] at h;split at h
  ·obtain⟨rfl,rfl⟩:=Z1 h;exact push _
  ·cases h
 case buildSlice e z n ps =>
  simp only[Q5] at h;split at h
  ·obtain⟨rfl,rfl⟩:=Z1 h;exact push _
  ·cases h
 case makeSlice e b z l c =>
  simp only[Q5] at h;split at h
  ·split at h
   ·obtain⟨rfl,rfl⟩:=Z1 h;exact push _
   ·cases h
  ·cases h
def stM:MK:=.agg [.int .i64,.int .i64]
def Q7d:Option JU→Value
 |some e=>e.2.1
 |none=>.int .i64 0
def LkE (es bR:List JU):Prop:=(es.all (fun e=>ZD stM e.1)=true→bR.all (fun e=>ZD stM e.1)=true)∧(es.all (fun e=>ZD stM e.1)=true→∀ k,ZD stM k=true→Q7d (Qh k bR)=Q7d (Qh k es))
theorem LkE.trans {a b c:List JU}(h:LkE a b) (h':LkE b c):LkE a c:=⟨fun k=>h'.1 (h.1 k),fun k x hx=>(h'.2 (h.1 k) x hx).trans (h.2 k x hx)⟩
theorem F3 {v:Value}(h:ZD stM v=true):∃ a b,v=.agg #[.int .i64 a,.int .i64 b]:=by
 cases v with
 |agg l =>
  simp only[ZD,stM] at h;obtain⟨l⟩:=l
  match l,h with
  |[],h=>simp[fits] at h
  |[x],h=>cases x<;>simp[fits,OL] at h
  |[x,y],h =>simp only[fits,Bool.and_eq_true] at h;obtain⟨hx,hy,_⟩:=h;cases x<;>simp[OL] at hx;cases y<;>simp[OL] at hy;subst hx;subst hy;exact⟨_,_,rfl⟩
  |x::y::z::r,h=>simp[fits] at h
 |_=>simp[ZD,stM] at h
theorem Q5i {a b c e:Int}:Wx (.agg #[.int .i64 a,.int .i64 b]) (.agg #[.int .i64 c,.int .i64 e])=(a==c&&b==e):=by simp[Wx,Ql,Vo]
theorem Q2k {k0:Value}{clock:Nat}(g7:ZD stM k0=true):∀ {es:List JU},LkE es (Qv k0 (Q7d (Qh k0 es)) clock es).1
 |[]=>by refine⟨fun _=>by simp[Qv,g7],fun _ k hk=>?_⟩;simp only[Qv,Qh];cases Wx k k0<;>rfl
 |e::es=>by
  have ih:=Q2k (clock:=clock) g7 (es:=es);simp only[Qv,Qh];cases he:Wx k0 e.1 with
  |true =>
   simp only[if_true];refine⟨fun h=>?_,fun h k hk=>?_⟩
   ·simp only[List.all_cons,Bool.and_eq_true] at h ⊢;exact⟨g7,h.2⟩
   ·simp only[List.all_cons,Bool.and_eq_true] at h;obtain⟨a,b,rfl⟩:=F3 g7;obtain⟨a1,b1,h1⟩:=F3 h.1;obtain⟨a2,b2,rfl⟩:=F3 hk;have heq:(a==a1&&b==b1)=true:=by rw[←Q5i,←h1];exact he
    simp only[Bool.and_eq_true,beq_iff_eq] at heq;obtain⟨rfl,rfl⟩:=heq;simp only[Qh,h1,Q5i];cases (a2==a&&b2==b)<;>rfl
  |false =>
   simp only[Bool.false_eq_true,if_false];refine⟨fun h=>?_,fun h k hk=>?_⟩
   ·simp only[List.all_cons,Bool.and_eq_true] at h ⊢;exact⟨h.1,ih.1 h.2⟩
   ·simp only[List.all_cons,Bool.and_eq_true] at h;simp only[Qh];cases Wx k e.1 with
    |true=>rfl
    |false=>exact ih.2 h.2 k hk
theorem Q2s {mk:MK}{z:Value}(h:stP mk z=true):mk=stM∧z=.int .i64 0:=by
 unfold stP at h;split at h
 ·exact⟨rfl,by rw[eq_of_beq h]⟩
 ·cases h
def OC (σ:Heap) (own:Own) (pl:Nat→Value) (Q:Heap→Prop):Option Nat→Prop
 |none=>∀ τ,σ.Le τ→Q τ
 |some q=>(Q7 own (q / 2)).live=true∧∃ i b,Oid (pl (q / 2)) i∧σ.get i=some b∧(∀ τ,τ.get i=some b→Q τ)∧(q % 2=1→∃ es c wr,b=.obj (.map es c) wr∧∀ τ bR c',LkE es bR→τ.get i=some (.obj (.map bR c') wr)→Q τ)
structure DSt (hs:List Heap) (σ:Heap) (pend:List (Nat×(Heap→Prop))) (hl chg:Nat) (A R:List (Nat×Option Nat)) (own:Own) (pl:Nat→Value):Prop where
 len:hs.length=hl
 same:∀ j τ,chg≤j→hs[j]?=some τ→τ=σ
 pend:∀ c∈pend,c.1<hl∨∃ r∈R,c.1≤r.1∧OC σ own pl c.2 r.2
 fr:∀ j τ q i,hs[j]?=some τ→Zs A j q=true→(Q7 own q).live=true→Oid (pl q) i→τ.get i=σ.get i
theorem KM {r:Nat}{σ:Heap}:∀ {l:List (Nat×(Heap→Prop))},(∀ c∈l,r≤c.1→c.2 σ)→Xy r σ l
 |[],_=>trivial
 |c::l,h=>⟨h c (by simp),KM fun c' cA=>h c' (by simp[cA])⟩
theorem JX {hs:List Heap}{σ' τ:Heap}{j:Nat}(h:(hs++[σ'])[j]?=some τ):(j<hs.length∧hs[j]?=some τ)∨(j=hs.length∧τ=σ'):=by
 rw[List.getElem?_append] at h;split at h
 ·rename_i aj;exact .inl ⟨aj,h⟩
 ·have:j-hs.length=0:=by
   cases hz:j-hs.length with
   |zero=>rfl
   |succ n=>rw[hz] at h;simp at h
  rw[this] at h;exact .inr ⟨by omega,by simpa using h.symm⟩
theorem Si {a:Nat×Option Nat}{A:List (Nat×Option Nat)}{j q:Nat}(h:Zs (a::A) j q=true) (hj:j≤a.1):(∃ t,a.2=some t∧t≠q)∧Zs A j q=true:=by
 simp only[Zs,List.all_cons,Bool.and_eq_true,Bool.or_eq_true,Nat.blt_eq] at h;refine⟨?_,h.2⟩;rcases h.1 with h|h
 ·omega
 ·split at h
  ·rename_i t ht;exact⟨t,ht,fun e=>by subst e;simp at h⟩
  ·cases h
theorem DSt.stay {hs:List Heap}{σ:Heap}{pend:List (Nat×(Heap→Prop))}{hl chg:Nat}{A R:List (Nat×Option Nat)}{own:Own}{pl:Nat→Value}(h:DSt hs σ pend hl chg A R own pl) :
  Xy hs.length σ pend∧DSt (hs++[σ]) σ pend (hl+1) chg A R own pl:=by
 have hr:∀ c∈pend,∀ r∈R,OC σ own pl c.2 r.2→c.2 σ:=fun c _ r _ ah=>by
  unfold OC at ah;split at ah
  ·exact ah σ (.refl _)
  ·obtain⟨_,i,b,_,h2,h3,_⟩:=ah;exact h3 σ h2
 refine⟨KM fun c hc hle=>?_,⟨by simp[h.len],fun j τ hj ht=>?_,fun c hc=>?_,fun j τ q i ht hu hl hi=>?_⟩⟩
 ·rcases h.pend c hc with h1|⟨r,h1,_,h2⟩
  ·rw[h.len] at hle;omega
  ·exact hr c hc r h1 h2
 ·rcases JX ht with⟨_,h1⟩|⟨_,h1⟩
  ·exact h.same j τ hj h1
  ·exact h1
 ·rcases h.pend c hc with h1|h1
  ·exact .inl (by omega)
  ·exact .inr h1
 ·rcases JX ht with⟨_,h1⟩|⟨_,rfl⟩
  ·exact h.fr j τ q i h1 hu hl hi
  ·rfl
theorem DSt.write {hs:List Heap}{σ σ':Heap}{pend:List (Nat×(Heap→Prop))}{hl chg:Nat}{A R:List (Nat×Option Nat)}{s s':St}{pl pl':Nat→Value}(h:DSt hs σ pend hl chg A R s.own pl) {T:Nat}(hf:Fr T s s' pl pl' σ σ') {mk ext:Bool}(hm:mk=true→σ.Le σ')
  (hE:ext=true→(Q7 s'.own T).live=true∧pl' T=pl T∧∃ i es c bR c',pl T=.map (some i)∧σ.get i=some (.obj (.map es c) true)∧σ'.get i=some (.obj (.map bR c') true)∧LkE es bR)
  (hc:((mk&&Ey R hl T)||S_ R hl T||(ext&&Q7r R hl T))=true) (aS:0<hl):Xy hs.length σ' pend∧DSt (hs++[σ']) σ' pend (hl+1) hl ((hl-1,some T)::A) R s'.own pl':=by
 have hr:∀ Q:Heap→Prop,∀ r∈R,hl≤r.1→OC σ s.own pl Q r.2→OC σ' s'.own pl' Q r.2:=fun Q r l9 bC ah=>by
  have hq:∀ q,r.2=some q→q / 2=T→q % 2=1∧ext=true:=fun q hq e=>by
   subst e;simp only[Bool.or_eq_true,Bool.and_eq_true,Ey,S_,Q7r] at hc;rcases hc with (⟨_,hc⟩|hc)|⟨he,hc⟩
   ·have:=List.all_eq_true.1 hc r l9;rw[hq] at this;simp only[Bool.or_eq_true,Nat.blt_eq,Nat.beq_refl,Bool.not_true,Bool.false_eq_true,or_false] at this;omega
   ·have:=List.all_eq_true.1 hc r l9;rw[hq] at this;simp only[Bool.or_eq_true,Nat.blt_eq,Nat.beq_refl,Bool.not_true,Bool.false_eq_true,or_false] at this;omega
   ·have:=List.all_eq_true.1 hc r l9;rw[hq] at this;simp only[Bool.or_eq_true,Nat.blt_eq,Nat.beq_refl,Bool.not_true,Bool.false_eq_true,false_or] at this;rcases this with h|h
    ·omega
    ·exact⟨Nat.eq_of_beq_eq_true h,he⟩
  cases e:r.2 with
  |none =>
   rw[e] at ah;have b8:mk=true:=by
    simp only[Bool.or_eq_true,Bool.and_eq_true,S_,Q7r] at hc;rcases hc with (⟨hc,_⟩|hc)|⟨_,hc⟩
    ·exact hc
    ·have:=List.all_eq_true.1 hc r l9;rw[e] at this;simp only[Bool.or_eq_true,Nat.blt_eq,Bool.false_eq_true,or_false] at this;omega
    ·have:=List.all_eq_true.1 hc r l9;rw[e] at this;simp only[Bool.or_eq_true,Nat.blt_eq,Bool.false_eq_true,or_false] at this;omega
   exact fun τ ht=>ah τ ((hm b8).trans ht)
  |some q =>
   rw[e] at ah;obtain⟨k1,i,b,k2,k3,k4⟩:=ah;by_cases oR:q / 2=T
   ·obtain⟨ho,he⟩:=hq q e oR;obtain⟨g1,g2,i',es,c,bR,c',g3,g4,g5,g6⟩:=hE he;obtain⟨k5,k6⟩:=k4;obtain⟨xi,c0,wr,rfl,k7⟩:=k6 ho;rw[oR] at k1 k2;have hi:i=i':=Q0h (by rw[g3];rfl) k2;subst hi;rw[g4] at k3;cases k3;refine⟨by rw[oR];exact g1,i,_,by rw[oR,g2];exact k2,g5,fun τ hτ=>k7 τ _ _ g6 hτ,fun _=>⟨_,_,_,rfl,fun τ vU xj hl hτ=>k7 τ _ _ (g6.trans hl) hτ⟩⟩
   ·obtain⟨f1,f2,f3⟩:=hf (q / 2) oR;exact⟨by rw[f1];exact k1,i,b,by rw[f2];exact k2,by rw[f3 k1 i k2];exact k3,k4⟩
 have now:∀ Q:Heap→Prop,∀ r,OC σ' s'.own pl' Q r→Q σ':=fun Q r ah=>by
  unfold OC at ah;split at ah
  ·exact ah σ' (.refl _)
  ·obtain⟨_,i,b,_,h2,h3,_⟩:=ah;exact h3 σ' h2
 refine⟨KM fun c hc hle=>?_,⟨by simp[h.len],fun j τ hj ht=>?_,fun c hc=>?_,fun j τ q i ht hu cn hi=>?_⟩⟩
 ·rw[h.len] at hle;rcases h.pend c hc with h1|⟨r,h1,h2,h3⟩
  ·omega
  ·exact now _ _ (hr _ r h1 (by omega) h3)
 ·rcases JX ht with⟨h1,_⟩|⟨_,h1⟩
  ·rw[h.len] at h1;omega
  ·exact h1
 ·rcases h.pend c hc with h1|⟨r,h1,h2,h3⟩
  ·exact .inl (by omega)
  ·by_cases bC:hl≤r.1
   ·exact .inr ⟨r,h1,h2,hr _ r h1 bC h3⟩
   ·exact .inl (by omega)
 ·rcases JX ht with⟨h1,h2⟩|⟨_,rfl⟩
  ·rw[h.len] at h1;obtain⟨⟨t,ht,vV⟩,cf⟩:=Si hu (by simp only;omega);obtain rfl:=osj ht;obtain⟨f1,f2,f3⟩:=hf q (Ne.symm vV);rw[f1] at cn;rw[f2] at hi;rw[f3 cn i hi];exact h.fr j τ q i h2 cf cn hi
  ·rfl
theorem B8 {ts:List Nat}{hl j q:Nat}{A:List (Nat×Option Nat)}(h:Zs (ts.map (fun t=>(hl,some t))++A) j q=true) (hj:j≤hl):q∉ts∧Zs A j q=true:=by simp only[Zs,List.all_append,Bool.and_eq_true] at h ⊢;refine⟨fun hm=>?_,h.2⟩;have:=List.all_eq_true.1 h.1 (hl,some q) (List.mem_map.2 ⟨q,hm,rfl⟩);simp only[Bool.or_eq_true,Nat.blt_eq,Nat.beq_refl,Bool.not_true,Bool.false_eq_true,or_false] at this;omega
theorem DSt.call {hs:List Heap}{σ σ':Heap}{pend:List (Nat×(Heap→Prop))}{hl chg:Nat}{A R:List (Nat×Option Nat)}{s s':St}{pl pl':Nat→Value}(h:DSt hs σ pend hl chg A R s.own pl) (hle:σ.Le σ') {Ts:List Nat}(hf:FrL Ts s s' pl pl' σ σ') (aS:0<hl) :
  Xy hs.length σ' pend∧DSt (hs++[σ']) σ' pend (hl+1) hl (Ts.map (fun t=>(hl-1,some t))++A) (R.map fun r=>(r.1,none)) s'.own pl':=by
 have hr:∀ Q r,OC σ s.own pl Q r→∀ τ,σ'.Le τ→Q τ:=fun Q r ah τ ht=>by
  unfold OC at ah;split at ah
  ·exact ah τ (hle.trans ht)
  ·obtain⟨_,i,b,_,h2,h3,_⟩:=ah;exact h3 τ (ht.2 _ _ (hle.2 _ _ h2))
 refine⟨KM fun c hc hle=>?_,⟨by simp[h.len],fun j τ hj ht=>?_,fun c hc=>?_,fun j τ q i ht hu cn hi=>?_⟩⟩
 ·rcases h.pend c hc with h1|⟨r,h1,_,h2⟩
  ·rw[h.len] at hle;omega
  ·exact hr _ _ h2 _ (.refl _)
 ·rcases JX ht with⟨h1,_⟩|⟨_,h1⟩
  ·rw[h.len] at h1;omega
  ·exact h1
 ·rcases h.pend c hc with h1|⟨r,h1,h2,h3⟩
  ·exact .inl (by omega)
  ·exact .inr ⟨(r.1,none),List.mem_map.2 ⟨r,h1,rfl⟩,h2,hr _ _ h3⟩
 ·rcases JX ht with⟨h1,h2⟩|⟨_,rfl⟩
  ·rw[h.len] at h1;obtain⟨hq,cf⟩:=B8 hu (by omega);obtain⟨f1,f2,f3⟩:=hf q hq;rw[f1] at cn;rw[f2] at hi;rw[f3 cn i hi];exact h.fr j τ q i h2 cf cn hi
  ·rfl
theorem DSt.writeD {hs:List Heap}{σ σ':Heap}{pend:List (Nat×(Heap→Prop))}{hl chg:Nat}{A R:List (Nat×Option Nat)}{s s':St}{pl pl':Nat→Value}(h:DSt hs σ pend hl chg A R s.own pl) {Ts:List Nat}(hf:FrL Ts s s' pl pl' σ σ') {mk:Bool}(hm:mk=true→σ.Le σ')
  (hc:Ol mk R hl Ts=true) (aS:0<hl):Xy hs.length σ' pend∧DSt (hs++[σ']) σ' pend (hl+1) hl (Ts.map (fun t=>(hl-1,some t))++A) R s'.own pl':=by
 have hr:∀ Q:Heap→Prop,∀ r∈R,hl≤r.1→OC σ s.own pl Q r.2→OC σ' s'.own pl' Q r.2:=fun Q r l9 bC ah=>by
  have l_:=List.all_eq_true.1 hc r l9;have l_:(match r.2 with|some q=>Ts.all (fun t=>!(Nat.beq (q / 2) t))|none=>mk)=true:=by rw[Bool.or_eq_true,Nat.blt_eq] at l_;exact l_.resolve_left (by omega)
  cases e:r.2 with
  |none =>rw[e] at ah l_;exact fun τ ht=>ah τ ((hm l_).trans ht)
  |some q =>
   rw[e] at ah l_;obtain⟨k1,i,b,k2,k3,k4⟩:=ah;obtain⟨f1,f2,f3⟩:=hf (q / 2) fun hq=>by have:=List.all_eq_true.1 l_ (q / 2) hq;simp at this
   exact⟨by rw[f1];exact k1,i,b,by rw[f2];exact k2,by rw[f3 k1 i k2];exact k3,k4⟩
 have now:∀ Q:Heap→Prop,∀ r,OC σ' s'.own pl' Q r→Q σ':=fun Q r ah=>by
  unfold OC at ah;split at ah
  ·exact ah σ' (.refl _)
  ·obtain⟨_,i,b,_,h2,h3,_⟩:=ah;exact h3 σ' h2
 refine⟨KM fun c hc hle=>?_,⟨by simp[h.len],fun j τ hj ht=>?_,fun c hc=>?_,fun j τ q i ht hu cn hi=>?_⟩⟩
 ·rw[h.len] at hle;rcases h.pend c hc with h1|⟨r,h1,h2,h3⟩
  ·omega
  ·exact now _ _ (hr _ r h1 (by omega) h3)
 ·rcases JX ht with⟨h1,_⟩|⟨_,h1⟩
  ·rw[h.len] at h1;omega
  ·exact h1
 ·rcases h.pend c hc with h1|⟨r,h1,h2,h3⟩
  ·exact .inl (by omega)
  ·by_cases bC:hl≤r.1
   ·exact .inr ⟨r,h1,h2,hr _ r h1 bC h3⟩
   ·exact .inl (by omega)
 ·rcases JX ht with⟨h1,h2⟩|⟨_,rfl⟩
  ·rw[h.len] at h1;obtain⟨hq,cf⟩:=B8 hu (by omega);obtain⟨f1,f2,f3⟩:=hf q hq;rw[f1] at cn;rw[f2] at hi;rw[f3 cn i hi];exact h.fr j τ q i h2 cf cn hi
  ·rfl
theorem SQ {hl d j q:Nat}{A:List (Nat×Option Nat)}(h:Zs ((hl,none)::A) j q=true):Zs ([d].map (fun t=>(hl,some t))++A) j q=true:=by simp only[Zs,List.all_cons,Bool.and_eq_true,Bool.or_eq_true,Bool.false_eq_true,or_false,List.map_cons,List.map_nil,List.cons_append,List.nil_append] at h ⊢;exact⟨.inl h.1,h.2⟩
theorem DSt.frozen {hs:List Heap}{σ:Heap}{pend:List (Nat×(Heap→Prop))}{hl chg m d:Nat}{A R:List (Nat×Option Nat)}{own:Own}{pl:Nat→Value}(h:DSt hs σ pend hl chg ([d].map (fun t=>(m,some t))++A) R own pl):DSt hs σ pend hl chg ((m,none)::A) R own pl :=
 ⟨h.len,h.same,h.pend,fun j τ q i ht hu=>h.fr j τ q i ht (SQ hu)⟩
theorem T5 {ts:List Nat}{m j:Nat}{A:List (Nat×Option Nat)}(h:BN (ts.map (fun t=>(m,some t))++A) j=true):BN A j=true:=by simp only[BN,List.all_append,Bool.and_eq_true] at h;exact h.2
theorem Rq {a:Nat×Option Nat}{j:Nat}{A:List (Nat×Option Nat)}(h:BN (a::A) j=true):BN A j=true:=by simp only[BN,List.all_cons,Bool.and_eq_true] at h;exact h.2
theorem LB {C:Cx}{f:SV}{args:List SV}{cs:List Prop}{v:SV}(h:Q2l C f args=some (cs,v)):∃ c ty k xs nl,UE C.cs f args=some (c,.lst 0,[.lst ty k xs nl])∧cs=[c,nl=true→xs=[]]∧v=.val (.list k) xs∧k.flat=true∧0<C.nt:=by
 unfold Q2l at h;split at h
 ·rename_i heq;split at h
  ·rename_i k xs nl;cases hc:(k.flat&&Nat.blt 0 C.nt) with
   |false=>rw[hc] at h;cases h
   |true =>rw[hc] at h;obtain⟨rfl,rfl⟩:=Z1 h;simp only[Bool.and_eq_true,Nat.blt_eq] at hc;exact⟨_,_,_,_,_,heq,rfl,rfl,hc.1,hc.2⟩
  ·cases h
 ·cases h
theorem AA {b:OB}(h:b.here=true):b.live=true:=by cases b<;>first|rfl|cases h
theorem V6 {B F:Heap}{pl:Nat→Value}{tb:Nat→Option Bool}{s:St}{env:Env}{σ:Heap}(hG:Gam P B F pl tb s env σ) {o:VOp}{q:Nat}(h:Gl o (gev [] s.env) s.own=some q) {u:Value}{σ2:Heap}(hv:Q5 o (Q3 env) σ=some (u,σ2)) :
  (Q7 s.own (q / 2)).live=true∧∃ i b,Oid (pl (q / 2)) i∧σ.get i=some b∧(∀ τ,τ.get i=some b→Q5 o (Q3 env) τ=some (u,τ))∧(q % 2=1→∃ es c wr,b=.obj (.map es c) wr∧∀ τ bR c',LkE es bR→τ.get i=some (.obj (.map bR c') wr)→Q5 o (Q3 env) τ=some (u,τ)):=by
 have two:∀ q,2*q / 2=q:=fun q=>by omega
 have oS:∀ q,(2*q+1) / 2=q:=fun q=>by omega
 have odd:∀ {q} {X:Prop},2*q % 2=1→X:=fun {q X} h=>by omega
 unfold Gl at h;split at h
 ·rename_i agg size a;have ha:=hG.evs (Gds.nil (tb:=tb)) a;have key:∀ q i off,(Q7 s.own q).live=true→Oid (pl q) i→Q3 env a=.pointer (some ⟨i,off,none⟩)→(Q7 s.own q).live=true∧∃ i b,Oid (pl q) i∧σ.get i=some b∧∀ τ,τ.get i=some b→Q5 (.load agg size a) (Q3 env) τ=some (u,τ):=fun q i off hl hi he=>by
   simp only[Q5,he] at hv;cases hb:σ.get i with
   |none=>rw[hb] at hv;cases hv
   |some b =>
    refine⟨hl,i,b,hi,hb,fun τ ht=>?_⟩;rw[hb] at hv;simp only[Q5,he,ht];cases b with
    |obj o wr=>cases hv
    |cells c e wr t =>
     simp only at hv ⊢;split at hv
     ·obtain⟨rfl,rfl⟩:=Z1 hv;rfl
     ·cases hv
  split at h
  ·rename_i q' off hx;rw[hx] at ha;simp only[SR] at ha;obtain⟨b,h1,h2⟩:=ha;cases hh:(Q7 s.own q').here with
   |false=>rw[hh] at h;cases h
   |true =>rw[hh] at h;obtain rfl:=osj h;obtain⟨x1,y1,y2,y3,y4,y5⟩:=key q' b off (AA hh) (by rw[h1];rfl) h2;exact⟨by rw[two];exact x1,y1,y2,by rw[two];exact y3,y4,y5,odd⟩
  ·rename_i q' i off sz hx;rw[hx] at ha;simp only[SR] at ha;obtain⟨b,len,cap,h1,h2,h3,h4⟩:=ha;cases hh:(Q7 s.own q').here with
   |false=>rw[hh] at h;cases h
   |true =>rw[hh] at h;obtain rfl:=osj h;obtain⟨x1,y1,y2,y3,y4,y5⟩:=key q' b _ (AA hh) (by rw[h1];rfl) h4;exact⟨by rw[two];exact x1,y1,y2,by rw[two];exact y3,y4,y5,odd⟩
  ·cases h
 ·rename_i mk z x y;cases bj:stP mk z with
  |false=>rw[bj] at h;cases h
  |true =>
   rw[bj] at h;simp only[_root_.cond_true] at h;obtain⟨rfl,rfl⟩:=Q2s bj;split at h
   ·rename_i q' hx;split at h
    ·rename_i kk vk l ho;obtain rfl:=osj h;have ha:=hG.evs (Gds.nil (tb:=tb)) x;rw[hx] at ha;simp only[SR] at ha;have ak:=hG.obj q';rw[ho] at ak;obtain⟨id,es,c,h2,h3,_⟩:=ak;have aD:∀ (τ:Heap) bR c' wr,τ.get id=some (.obj (.map bR c') wr)→τ.mapAt id=some (bR,c',wr):=fun τ bR c' wr hτ=>by simp[Heap.mapAt,hτ]
     simp only[Q5,Zm,ha.1,h2,aD _ _ _ _ h3] at hv;refine⟨by rw[oS,ho];rfl,id,_,by rw[oS,h2];rfl,h3,fun τ hτ=>?_,fun _=>⟨es,c,true,rfl,fun τ bR c' hl hτ=>?_⟩⟩
     ·simp only[Q5,Zm,ha.1,h2,aD _ _ _ _ hτ];split at hv
      ·rename_i eO;split at hv
       ·rename_i hU;rw[if_pos eO,if_pos hU];cases he:Qh (Q3 env y) es with
        |some e=>rw[he] at hv;obtain⟨rfl,rfl⟩:=Z1 hv;rfl
        |none=>rw[he] at hv;obtain⟨rfl,rfl⟩:=Z1 hv;rfl
       ·cases hv
      ·cases hv
     ·simp only[Q5,Zm,ha.1,h2,aD _ _ _ _ hτ];split at hv
      ·rename_i eO;split at hv
       ·rename_i hU;rw[if_pos eO,if_pos (hl.1 hU)];have cC:=hl.2 hU _ eO;cases he:Qh (Q3 env y) es with
        |some e =>
         rw[he] at hv cC;obtain⟨rfl,rfl⟩:=Z1 hv;cases hm:Qh (Q3 env y) bR with
         |some e'=>rw[hm] at cC;simp only[Q7d] at cC;simp[cC]
         |none=>rw[hm] at cC;simp only[Q7d] at cC;simp[←cC]
        |none =>
         rw[he] at hv cC;obtain⟨rfl,rfl⟩:=Z1 hv;cases hm:Qh (Q3 env y) bR with
         |some e'=>rw[hm] at cC;simp only[Q7d] at cC;simp[cC]
         |none=>rfl
       ·cases hv
      ·cases hv
    ·cases h
   ·cases h
 ·cases h
theorem Gr {r:Nat}{σ:Heap}:∀ {l:List (Nat×(Heap→Prop))},Xy r σ l→∀ {c},c∈l→r≤c.1→c.2 σ
 |c::l,h,c',hc,hr=>by
  rcases List.mem_cons.1 hc with rfl|hc
  ·exact h.1 hr
  ·exact Gr h.2 hc hr
theorem Gs {B F:Heap}{pl:Nat→Value}{tb:Nat→Option Bool}{s:St}{env:Env}{σ:Heap}(hG:Gam P B F pl tb s env σ) {gs:List Gd}(hg:Gds tb gs) {o:VOp}(h:Q7n o (gev gs s.env)=true) {u:Value}{σ2:Heap}(hv:Q5 o (Q3 env) σ=some (u,σ2)) :
  ∀ τ,B.Le τ→Q5 o (Q3 env) τ=some (u,τ):=by
 unfold Q7n at h;split at h
 ·rename_i agg size a;have ha:=hG.evs hg a;have key:∀ i off,(∃ b,B.get i=some b)→Q3 env a=.pointer (some ⟨i,off,none⟩)→∀ τ,B.Le τ→Q5 (.load agg size a) (Q3 env) τ=some (u,τ):=fun i off ⟨b,hb⟩ he τ hτ=>by
   simp only[Q5,he,hG.leB.2 _ _ hb] at hv;simp only[Q5,he,hτ.2 _ _ hb];cases b with
   |obj o wr=>cases hv
   |cells c e wr t =>
    simp only at hv ⊢;split at hv
    ·obtain⟨rfl,rfl⟩:=Z1 hv;rfl
    ·cases hv
  split at h
  ·rename_i k l i off hx;rw[hx] at ha;simp only[SR] at ha;obtain⟨b,o,c,e,wr,t,_,_,h3,h4,_⟩:=ha;exact key b _ ⟨_,h3⟩ h4
  ·rename_i l off hx;rw[hx] at ha;simp only[SR] at ha;obtain⟨b,c,e,wr,t,h3,h4,_⟩:=ha;exact key b _ ⟨_,h3⟩ h4
  ·cases h
 ·cases h
theorem Q33 {C:Cx}{B F:Heap}{pl:Nat→Value}{tb:Nat→Option Bool}{s:St}{env:Env}{σ:Heap}(hG:Gam P B F pl tb s env σ) {d:Nat}{o:VOp}{K:SV→St→Prop}(h:gn C d o (gev [] s.env) s K) (hc:FM o=false) :
  ∃ u σ' pl' v s',Q5 o (Q3 env) σ=some (u,σ')∧K v s'∧(Gam P B F pl' tb s' env σ'∧Fr (Qt d o (gev [] s.env)) s s' pl pl' σ σ')∧SR P B pl' tb v u ∧
  (LF o=true→(Q7 s'.own (Qt d o (gev [] s.env))).live=true∧pl' (Qt d o (gev [] s.env))=pl (Qt d o (gev [] s.env))∧∃ i es c bR c',pl (Qt d o (gev [] s.env))=.map (some i)∧σ.get i=some (.obj (.map es c) true)∧σ'.get i=some (.obj (.map bR c') true)∧LkE es bR):=by
 cases he:LF o with
 |false =>obtain⟨u,σ',pl',v,s',h1,h2,h3,h4⟩:=Q9o hG h hc;exact⟨u,σ',pl',v,s',h1,h2,h3,h4,fun h=>by cases h⟩
 |true =>
  unfold LF at he;split at he
  ·rename_i mk z m kx;obtain⟨rfl,rfl⟩:=Q2s he;obtain⟨u,σ',v,s',T,kv,aV,i,es,c,rfl,h1,h2,h3,h4,h5,h6,h7,h8,h9,bW,fN⟩:=Tm (hG.evs (Gds.nil (tb:=tb))) hG h;refine⟨u,σ',pl,v,s',h1,h2,h3,h4,fun _=>⟨h5,rfl,i,es,c,_,_,h6,h7,h8,?_⟩⟩;have:aV=Q7d (Qh kv es):=by rw[fN];cases Qh kv es<;>rfl
   rw[this];exact Q2k h9
  ·cases he
def Jz (S:VSpecs):List DOper→Env→List Heap→Heap→List (Nat×(Heap→Prop))→(Env→Heap→Prop)→Prop
 |[],env,_,σ,_,K=>K env σ
 |o::rest,env,hs,σ,pend,K=>QV (Jj env o.guard) fun b =>
   vif b (if o.kind=2 then BL (fun R=>vop S o.op env σ R) fun v σ'=>Xy hs.length σ' pend∧Jz S rest (XN env o.dst v) (hs++[σ']) σ' pend K
     else if o.kind=1 then QV (Q5 o.op (Q3 env) σ) fun p=>(∀ τ∈hs.drop o.kmin,XC o.op (Q3 env) p.1 τ) ∧
      Jz S rest (XN env o.dst p.1) hs σ (if hs.length≤o.kmax then (o.kmax,XC o.op (Q3 env) p.1)::pend else pend) K
     else QV (Q5 o.op (Q3 env) σ) fun p=>Jz S rest (XN env o.dst p.1) hs σ pend K)
    (if o.kind=2 then Xy hs.length σ pend∧Jz S rest (XN env o.dst undef) (hs++[σ]) σ pend K else Jz S rest (XN env o.dst undef) hs σ pend K)
theorem RS {α:Type}{o:Option α}{f g:α→Prop}(h:QV o f) (vW:∀ a,f a→g a):QV o g:=by
 cases o with
 |none=>exact h.elim
 |some a=>exact vW a h
theorem YE {S:VSpecs}{K:Env→Heap→Prop}:∀ {ops:List DOper}{env:Env}{hs:List Heap}{σ:Heap}{pend:List (Nat×(Heap→Prop))},Jz S ops env hs σ pend K→ZJ S ops env hs σ pend K
 |[],_,_,_,_,h=>h
 |o::r,env,hs,σ,pend,h=>by
  simp only[Jz] at h;simp only[ZJ];refine RS h fun b h=>⟨fun e=>?_,fun e=>?_⟩
  ·have h:=h.1 e;split at h
   ·rename_i hk;rw[if_pos hk];obtain⟨v,σ',h1,h2,h3⟩:=h;exact .inl ⟨v,σ',h1,h2,YE h3⟩
   ·rename_i hk;rw[if_neg hk];split at h
    ·rename_i bn;rw[if_pos bn];exact RS h fun p h=>⟨h.1,YE h.2⟩
    ·rename_i bn;rw[if_neg bn];exact RS h fun p h=>YE h
  ·have h:=h.2 e;split at h
   ·rename_i hk;rw[if_pos hk];exact⟨h.1,YE h.2⟩
   ·rename_i hk;rw[if_neg hk];exact YE h
theorem Qn {C:Cx}(aw:COk P C) (bE:C.xs=[]) {B0 F0 D0:Heap}:∀ (ops:List DOper),(∀ o∈ops,o.kind=o.op.kind)→∀ {s:St}{env:Env}{σ:Heap}{B F:Heap}{pl:Nat→Value}{tb:Nat→Option Bool},GBase B0 F0 D0 B F σ→Gam P B F pl tb s env σ→∀ {hl chg:Nat}{A Rd:List (Nat×Option Nat)}{hs:List Heap}{pend pd:List (Nat×(Heap→Prop))},DSt hs σ pd hl chg A Rd s.own pl→(∀ c∈pend,(∀ τ,B.Le τ→c.2 τ)∨c∈pd)→(∀ j τ,hs[j]?=some τ→BN A j=true→B.Le τ)→chg≤hl→0<hl →
  ∀ {K:St→Prop},Wc C ops s hl chg A Rd K→∀ {R:Env→Heap→Prop},(∀ s' ae σ',K s'→GRel P B0 F0 D0 s' ae σ'→R ae σ')→Jz (Q2 P) ops env hs σ pend R
 |[],_,s,env,σ,B,F,pl,tb,hB,hG,_,_,_,_,_,_,_,_,_,_,_,_,K,h,R,hK=>hK s env σ h ⟨B,F,pl,tb,hB,hG⟩
 |o0::r,fC,s,env,σ,B,F,pl,tb,hB,hG,hl,chg,A,Rd,hs,pend,pd,hD,hp,cg,eP,aS,K,h,R,hK=>by
  have eI:∀ {n:Nat}{τ:Heap},B.Le τ→Xy n τ pd→Xy n τ pend:=fun {n τ} hb hv=>KM fun c hc hn=>(hp c hc).elim (fun h=>h τ hb) fun h=>Gr hv h hn;have snoc:∀ {τ:Heap}{A':List (Nat×Option Nat)},B.Le τ→(∀ j,BN A' j=true→BN A j=true)→∀ j τ',(hs++[τ])[j]?=some τ'→BN A' j=true→B.Le τ':=fun {τ A'} hb hA j τ' hm hn=>by
   rcases JX hm with⟨_,h1⟩|⟨_,rfl⟩
   ·exact cg j τ' h1 (hA j hn)
   ·exact hb
  have cq:∀ o∈r,o.kind=o.op.kind:=fun o' dZ=>fC o' (List.mem_cons_of_mem _ dZ);have ma:=fC o0 List.mem_cons_self;unfold Wc at h;split at h
  ·rename_i bj;have hw:=Vu hG bj;simp only[Jz];rw[hw];refine⟨fun e=>(by cases e),fun _=>?_⟩;have cm:=hG.put o0.dst (show SR P B pl tb .any undef by simp[SR]);by_cases au:o0.kind=2
   ·rw[if_pos au] at h ⊢;obtain⟨k1,k2⟩:=hD.stay;exact⟨eI hG.leB k1,Qn aw bE r cq hB cm (by rw[Zr];exact k2) hp (snoc hG.leB fun _ h=>h) (by omega) (by omega) h hK⟩
   ·rw[if_neg au] at h ⊢;exact Qn aw bE r cq hB cm (by rw[Zr];exact hD) hp cg eP aS h hK
  have bO:(OZ s.env o0).kind=(OZ s.env o0).op.kind:=by unfold OZ;split<;>exact ma
  have cX:Jz (Q2 P) (OZ s.env o0::r) env hs σ pend R→Jz (Q2 P) (o0::r) env hs σ pend R:=fun hv=>by
   unfold OZ at hv;split at hv
   ·rename_i bj;simp only[Jz] at hv ⊢;rw[Vu hG bj];exact hv
   ·exact hv
  refine cX ?_;clear cX;generalize OZ s.env o0=o at h bO ⊢
  replace h:=id h
  simp only[Jz];by_cases au:o.kind=2
  ·rw[if_pos au] at h
   have fin:∀ {u:Value}{σ':Heap}{ts:List Nat}{v:SV}{s':St}{pl':Nat→Value},(∀ R',R' u σ'→vop (Q2 P) o.op env σ R')→Wc C r (s'.put o.dst v) (hl+1) (bif ts.isEmpty then chg else hl) (ts.map (fun t=>(hl-1,some t))++A) (bif ts.isEmpty then Rd else Rd.map fun r=>(r.1,none)) K→Gam P B F pl' tb s' env σ'→SR P B pl' tb v u→(ts=[]→σ'=σ∧pl'=pl∧s'=s)→σ.Le σ'→Dead σ σ'→FrL ts s s' pl pl' σ σ' →
     BL (fun R=>vop (Q2 P) o.op env σ R) fun v σ'=>Xy hs.length σ' pend∧Jz (Q2 P) r (XN env o.dst v) (hs++[σ']) σ' pend R:=fun {u σ' ts v s' pl'} bH oT bq ia he hle hd cM=>by
    cases ts with
    |nil =>obtain⟨rfl,rfl,rfl⟩:=he rfl;obtain⟨k1,k2⟩:=hD.stay;exact⟨u,σ',bH _ ⟨rfl,rfl⟩,eI bq.leB k1,Qn aw bE r cq (De hB hd) (bq.put o.dst ia) (by rw[Zr];exact k2) hp (snoc bq.leB fun _ h=>h) (by simp only[List.isEmpty,_root_.cond_true] at *;omega) (by omega) oT hK⟩
    |cons t ts =>obtain⟨k1,k2⟩:=hD.call hle cM aS;exact⟨u,σ',bH _ ⟨rfl,rfl⟩,eI bq.leB k1,Qn aw bE r cq (De hB hd) (bq.put o.dst ia) (by rw[Zr];exact k2) hp (snoc bq.leB fun _ h=>T5 h) (by simp only[List.isEmpty,_root_.cond_false] at *;omega) (by omega) oT hK⟩
   split at h
   ·rename_i f args bH;split at h
    ·rename_i hg;rw[hg];refine⟨fun _=>?_,fun e=>by cases e⟩;rw[if_pos au];rw[bE] at h;simp only[Qm] at h;obtain⟨g,a,b,u,σ',e,v,s',pl',h1,h2,h3,h4,h5,h6,h7,h8,h9⟩:=WE aw hG h (show SR P σ X0 ZF (.fn f [] []) (.func (.func f) #[] #[]) by simp only[SR,SRs];exact⟨[],[],rfl,rfl,rfl⟩) (hG.gcall Gds.nil args);obtain⟨rfl,rfl,rfl⟩:=(by simpa using h1:f=g∧#[]=a∧#[]=b);refine fin (u:=u) (σ':=σ') (fun R' hr=>?_) h3 h4 h5 h6 h7 h8 h9;rw[bH];show VCalled P f (args.map (Q3 env)) σ R';have:=h2.mono (R':=R') fun u' aE ⟨e1,e2⟩=>by subst e1;subst e2;exact hr
     simpa using this
    ·rename_i j want hg;rw[hg];split at h
     ·exact h.elim
     ·rename_i gs s1 ek;obtain⟨tb',bq,cP,b,hw,bp,b_⟩:=WM hG ek;have aM:=V9 ek;rw[hw];split at h
      ·rename_i cs v dD;cases cE:Uz v with
       |false=>rw[cE] at h;exact h.elim
       |true =>
       rw[cE] at h;simp only[_root_.cond_true] at h;obtain⟨h1,h2⟩:=ZC h;obtain⟨k1,k2⟩:=hD.stay;have l7:∀ x,DSt (hs++[σ]) σ pd (hl+1) chg A Rd (s1.put o.dst x).own pl:=fun x=>by rw[Zr,aM];exact k2
       refine⟨fun e=>?_,fun e=>?_⟩
       ·rw[if_pos au];have gJ:Gds tb' gs:=fun g hg=>⟨bp e g hg,cP g hg⟩;have mb:∀ {v u},SR P B pl tb' v u→SR P B pl tb' (.grd gs (BE v)) u:=fun {v u} hs=>by
         simp only[SR];obtain⟨h1,h2⟩:=T8 hs;exact⟨⟨cP,h2⟩,fun _=>h1,fun ⟨g,hg,aA⟩=>absurd (bp e g hg) aA⟩
        simp only[gqc] at dD;split at dD
        ·rename_i c v' heq;cases bV:v'.ret 0 with
         |false=>rw[bV] at dD;cases dD
         |true =>
          rw[bV] at dD;obtain⟨rfl,rfl⟩:=Z1 dD;obtain⟨g,a,b',h3,h4,_⟩:=J5 aw.cs (show SR P σ X0 ZF (.fn f [] []) (.func (.func f) #[] #[]) by simp only[SR,SRs];exact⟨[],[],rfl,rfl,rfl⟩) (bq.gcall gJ args) heq bV rfl (h2 (bp e) _ (by simp));obtain⟨rfl,rfl,rfl⟩:=(by simpa using h3:f=g∧#[]=a∧#[]=b');refine⟨UK X0 v',σ,?_,eI hG.leB k1,Qn aw bE r cq hB (bq.put o.dst (mb ?_)) (l7 _) hp (snoc hG.leB fun _ h=>h) (by omega) (by omega) (Zw h1) hK⟩
          ·rw[bH];show VCalled P f (args.map (Q3 env)) σ _;have:=h4.mono (R':=fun u σ'=>u=UK X0 v'∧σ'=σ) fun u σ' hr=>by
            obtain⟨rfl,hu⟩:=hr.flat bV;exact⟨US v' u bV cE hu,rfl⟩
           simpa using this
          ·exact SR.retd (fun j hj=>by omega) _ _ bV (C3 (P:=P) (pl:=X0) (m:=0) (fun j hj=>by omega) v' bV cE)
        ·cases dD
       ·rw[if_pos au];obtain⟨g,dG,aA⟩:=b_ e;exact⟨eI hG.leB k1,Qn aw bE r cq hB (bq.put o.dst (by simp only[SR];exact⟨⟨cP,T3 v⟩,fun hall=>absurd (hall g dG) aA,fun _=>trivial⟩)) (l7 _) hp (snoc hG.leB fun _ h=>h) (by omega) (by omega) (Zw h1) hK⟩
      ·split at h
       ·rename_i cs v kX;obtain⟨c,ty,k,xs,nl,heq,rfl,rfl,hk,cW⟩:=LB kX;obtain⟨h1,h2⟩:=ZC h;have frz:∀ {B' σ':Heap},B'.Le σ'→∀ j τ',(hs++[σ'])[j]?=some τ'→BN ((hl-1,none)::A) j=true→B'.Le τ':=fun {B' σ'} hb j τ' hm hn=>by
         rcases JX hm with⟨h1,_⟩|⟨_,rfl⟩
         ·simp only[BN,List.all_cons,Bool.and_eq_true,Bool.or_eq_true,Nat.blt_eq,Option.isSome_none,Bool.false_eq_true,or_false] at hn;have:=hD.len;omega
         ·exact hb
        refine⟨fun e=>?_,fun e=>?_⟩
        ·rw[if_pos au];have gJ:Gds tb' gs:=fun g hg=>⟨bp e g hg,cP g hg⟩;have eO:=h2 (bp e) c (by simp);have hU:=h2 (bp e) (nl=true→xs=[]) (by simp);have ek:Df C (C.off+o.dst.getD 0) (.fn f [] []) (T7 s1.own (args.map (gev gs s1.env))) s1 (fun ts v' s'=>ts=[C.off+o.dst.getD 0]∧v'=.lst (C.off+o.dst.getD 0)∧s'=s1.make (C.off+o.dst.getD 0) (.lst ty k xs nl)):=by
          unfold Df;rw[heq];dsimp only;have ao:(SV.ret [OB.lst ty k xs nl].length (.lst 0)&&([OB.lst ty k xs nl].all OB.ret&&(Nat.blt 0 C.nt&&([OB.lst ty k xs nl].all OB.isL&&Uz (.lst 0)))))=true:=by simp only[SV.ret,List.length_singleton,List.all_cons,List.all_nil,Bool.and_true,OB.ret,hk,Bool.true_and,OB.isL,Uz];rw[Bool.and_eq_true];exact⟨rfl,by rw[Nat.blt_eq];exact cW⟩
          rw[ao];simp only[_root_.cond_true,Q0n,OB.wf];refine⟨eO,hU,?_,?_,?_⟩
          ·simp[List.range_succ]
          ·simp[SV.ren]
          ·simp[St.makes]
         obtain⟨g,a,b',u,σ',ts,v',s',pl',h3,h4,⟨rfl,rfl,rfl⟩,h5,h6,_,h7,h8,h9⟩:=WE aw bq ek (show SR P σ X0 ZF (.fn f [] []) (.func (.func f) #[] #[]) by simp only[SR,SRs];exact⟨[],[],rfl,rfl,rfl⟩) (bq.gcall gJ args);obtain⟨rfl,rfl,rfl⟩:=(by simpa using h3:f=g∧#[]=a∧#[]=b');obtain⟨B',F',m1,m2,m3⟩:=LY bq.bf hk h5 h6 h8;have cM:FrL [C.off+o.dst.getD 0] s ((s1.make (C.off+o.dst.getD 0) .dead).put o.dst (.grd gs (.val (.list k) xs))) pl pl' σ σ':=fun q hq=>by obtain⟨f1,f2,f3⟩:=h9 q hq;rw[aM] at f3;refine⟨?_,f2,f3⟩;rw[Zr,UW _ _ _ (by simpa using hq),aM]
         obtain⟨k1,k2⟩:=hD.call h7 cM aS;refine⟨u,σ',?_,eI (m1.b.trans m2.leB) k1,Qn aw bE r cq (hB.trans m1) (m2.put o.dst ?_) k2.frozen (fun c hc=>(hp c hc).imp (fun h τ hτ=>h τ (m1.b.trans hτ)) id) (frz m2.leB) (by omega) (by omega) h1 hK⟩
         ·rw[bH];show VCalled P f (args.map (Q3 env)) σ _;simpa using h4
         ·simp only[SR];exact⟨⟨cP,trivial⟩,fun _=>m3,fun ⟨g,hg,aA⟩=>absurd (bp e g hg) aA⟩
        ·rw[if_pos au];obtain⟨g,dG,aA⟩:=b_ e;have cM:FrL [C.off+o.dst.getD 0] s ((s1.make (C.off+o.dst.getD 0) .dead).put o.dst (.grd gs (.val (.list k) xs))) pl (X4 pl (C.off+o.dst.getD 0) undef) σ σ:=fun q hq=>by
          have cY:q≠C.off+o.dst.getD 0:=by simpa using hq
          refine⟨?_,by simp[X4,cY],fun _ _ _=>rfl⟩;rw[Zr,UW _ _ _ cY,aM]
         obtain⟨k1,k2⟩:=hD.call (.refl σ) cM aS;refine⟨eI hG.leB k1,Qn aw bE r cq hB ((bq.make (C.off+o.dst.getD 0) .dead undef bq.le (fun _ _ _ _ _=>rfl) trivial (fun i hl _=>by cases hl)).put o.dst ?_) k2.frozen hp (frz hG.leB) (by omega) (by omega) h1 hK⟩;simp only[SR];exact⟨⟨cP,trivial⟩,fun hall=>absurd (hall g dG) aA,fun _=>trivial⟩
       ·exact h.elim
   ·rename_i f args bH;split at h
    ·rename_i hg;rw[hg];refine⟨fun _=>?_,fun e=>by cases e⟩;rw[if_pos au];obtain⟨g,a,b,u,σ',e,v,s',pl',h1,h2,h3,h4,h5,h6,h7,h8,h9⟩:=WE aw hG h (hG.gfun Gds.nil f) (hG.gcall Gds.nil args);refine fin (u:=u) (σ':=σ') (fun R' hr=>?_) h3 h4 h5 h6 h7 h8 h9;rw[bH];exact MP h1 (h2.mono (R':=R') fun u' aE ⟨e1,e2⟩=>by subst e1;subst e2;exact hr)
    ·exact h.elim
   ·exact h.elim
   ·exact h.elim
   ·rename_i oU nW q_ oJ;split at h
    ·rename_i hg;rw[hg];refine⟨fun _=>?_,fun e=>by cases e⟩;rw[if_pos au];have aB:FM o.op=false:=by
      cases ho:o.op<;>first|rfl|(exact absurd ho (oU _ _))|(exact absurd ho (nW _ _))|skip
      case ext x=>cases x<;>first|rfl|(exact absurd ho (q_ _))|(exact absurd ho (oJ _))
     cases kW:Ak C (o.dst.getD 0) o.op (gev [] s.env) with
     |true =>
      rw[kW] at h;simp only[_root_.cond_true] at h;cases hm:Ol (R4 o.op) Rd hl (Ea (C.off+o.dst.getD 0) o.op (gev [] s.env)) with
      |false=>rw[hm] at h;exact h.elim
      |true =>
       rw[hm] at h;simp only[_root_.cond_true] at h;obtain⟨u,σ',pl',v,s',h1,h2,⟨h3,kU⟩,h4⟩:=TX (fun x=>hG.evs (Gds.nil (tb:=tb)) x) hG h;have gh:∀ R',R' u σ'→vop (Q2 P) o.op env σ R':=fun R' hr=>by
        have:vop (Q2 P) o.op env σ R'=QV (Q5 o.op (Q3 env) σ) fun p=>R' p.1 p.2:=by
         cases ho:o.op with
         |callF f a=>rw[ho] at aB;cases aB
         |callV f a=>rw[ho] at aB;cases aB
         |ext x =>
          cases x with
          |nextMap y=>rw[ho] at h1;cases h1
          |_=>rfl
         |_=>rfl
        rw[this,h1];exact hr
       obtain⟨k1,k2⟩:=hD.writeD kU (fun b8=>CF b8 h1) hm aS;exact⟨u,σ',gh _ ⟨rfl,rfl⟩,eI h3.leB k1,Qn aw bE r cq (De hB (Vr h1)) (h3.put o.dst h4) (by rw[Zr];exact k2) hp (snoc h3.leB fun _ h=>T5 h) (by omega) (by omega) h2 hK⟩
     |false =>
     rw[kW] at h;simp only[_root_.cond_false] at h;cases hm:((R4 o.op&&Ey Rd hl (Qt (C.off+o.dst.getD 0) o.op (gev [] s.env)))||S_ Rd hl (Qt (C.off+o.dst.getD 0) o.op (gev [] s.env))||(LF o.op&&Q7r Rd hl (Qt (C.off+o.dst.getD 0) o.op (gev [] s.env)))) with
     |false=>rw[hm] at h;exact h.elim
     |true =>
      rw[hm] at h;simp only[_root_.cond_true] at h;obtain⟨u,σ',pl',v,s',h1,h2,⟨h3,kU⟩,h4,hE⟩:=Q33 hG h aB;have gh:∀ R',R' u σ'→vop (Q2 P) o.op env σ R':=fun R' hr=>by
       have:vop (Q2 P) o.op env σ R'=QV (Q5 o.op (Q3 env) σ) fun p=>R' p.1 p.2:=by
        cases ho:o.op with
        |callF f a=>rw[ho] at aB;cases aB
        |callV f a=>rw[ho] at aB;cases aB
        |ext x =>
         cases x with
         |nextMap y=>rw[ho] at h1;cases h1
         |_=>rfl
        |_=>rfl
       rw[this,h1];exact hr
      obtain⟨k1,k2⟩:=hD.write kU (fun b8=>CF b8 h1) hE hm aS;exact⟨u,σ',gh _ ⟨rfl,rfl⟩,eI h3.leB k1,Qn aw bE r cq (De hB (Vr h1)) (h3.put o.dst h4) (by rw[Zr];exact k2) hp (snoc h3.leB fun _ h=>Rq h) (by omega) (by omega) h2 hK⟩
    ·exact h.elim
  ·rw[if_neg au] at h;have mc:o.op.kind≠2:=by rw[←bO];exact au
   by_cases bn:o.kind=1
   ·rw[if_pos bn] at h
    have rd:∀ (rq:Option Nat),(∀ q,rq=some q→Gl o.op (gev [] s.env) s.own=some q)→(Nat.ble chg o.kmin||RY A o.kmin rq)=true→gd1 C o s (fun s'=>Wc C r s' hl chg A ((o.kmax,rq)::Rd) K) →
      QV (Jj env o.guard) fun b=>vif b (if o.kind=2 then BL (fun R=>vop (Q2 P) o.op env σ R) fun v σ'=>Xy hs.length σ' pend∧Jz (Q2 P) r (XN env o.dst v) (hs++[σ']) σ' pend R
       else if o.kind=1 then QV (Q5 o.op (Q3 env) σ) fun p=>(∀ τ∈hs.drop o.kmin,XC o.op (Q3 env) p.1 τ) ∧
        Jz (Q2 P) r (XN env o.dst p.1) hs σ (if hs.length≤o.kmax then (o.kmax,XC o.op (Q3 env) p.1)::pend else pend) R
       else QV (Q5 o.op (Q3 env) σ) fun p=>Jz (Q2 P) r (XN env o.dst p.1) hs σ pend R)
      (if o.kind=2 then Xy hs.length σ pend∧Jz (Q2 P) r (XN env o.dst undef) (hs++[σ]) σ pend R else Jz (Q2 P) r (XN env o.dst undef) hs σ pend R):=fun rq oV hc h=>by
     obtain⟨b,hw,h1,h2⟩:=UU hG h;rw[hw];have me:DSt hs σ pd hl chg A ((o.kmax,rq)::Rd) s.own pl:=⟨hD.len,hD.same,fun c hc=>(hD.pend c hc).imp id fun ⟨r,k1,k2⟩=>⟨r,List.mem_cons_of_mem _ k1,k2⟩,hD.fr⟩;refine⟨fun e=>?_,fun e=>?_⟩
     ·obtain⟨u,s',tb',h3,h4,aM,h5⟩:=h1 e;rw[if_neg au,if_pos bn,h3];refine⟨fun τ hτ=>?_,?_⟩
      ·obtain⟨j,hj⟩:=List.mem_iff_getElem?.1 hτ;rw[List.getElem?_drop] at hj;rw[Bool.or_eq_true] at hc;rcases hc with hc|hc
       ·have:=hD.same (o.kmin+j) τ (by have:=Nat.le_of_ble_eq_true hc;omega) hj;subst this;exact J4 h3
       ·unfold RY at hc;split at hc
        ·rename_i q;obtain⟨k1,i,bl,k2,k3,k4,k5⟩:=V6 hG (oV q rfl) h3;have hu:Zs A (o.kmin+j) (q / 2)=true:=by
          simp only[Zs,List.all_eq_true,Bool.or_eq_true,Nat.blt_eq] at hc ⊢;exact fun a ha=>(hc a ha).imp (fun h=>by omega) id
         have:=hD.fr (o.kmin+j) τ (q / 2) i hj hu k1 k2;exact J4 (k4 τ (by rw[this];exact k3))
        ·cases hc
      ·by_cases hle:hs.length≤o.kmax
       ·rw[if_pos hle];refine Qn aw bE r cq hB h5 (A:=A) (Rd:=(o.kmax,rq)::Rd) (hl:=hl) (chg:=chg) (pd:=(o.kmax,XC o.op (Q3 env) u)::pd) ?_ (fun c hc=>?_) cg eP aS h4 hK
        ·rw[aM];refine⟨hD.len,hD.same,fun c hc=>?_,hD.fr⟩;rcases List.mem_cons.1 hc with rfl|hc
         ·refine .inr ⟨_,List.mem_cons_self,Nat.le_refl _,?_⟩;cases rq with
          |none=>exact fun τ hτ=>J4 (TD mc h3 hτ)
          |some q =>obtain⟨k1,i,bl,k2,k3,k4,k5⟩:=V6 hG (oV q rfl) h3;exact⟨k1,i,bl,k2,k3,fun τ ht=>J4 (k4 τ ht),fun ho=>(let ⟨es,c,wr,x1,x2⟩:=k5 ho;⟨es,c,wr,x1,fun τ bR c' hl ht=>J4 (x2 τ bR c' hl ht)⟩)⟩
         ·exact me.pend c hc
        ·rcases List.mem_cons.1 hc with rfl|hc
         ·exact .inr List.mem_cons_self
         ·exact(hp c hc).imp id fun h=>List.mem_cons_of_mem _ h
       ·rw[if_neg hle];exact Qn aw bE r cq hB h5 (A:=A) (Rd:=(o.kmax,rq)::Rd) (hl:=hl) (chg:=chg) (pd:=pd) (by rw[aM];exact me) hp cg eP aS h4 hK
     ·obtain⟨s',tb',h4,aM,h5⟩:=h2 e;rw[if_neg au];exact Qn aw bE r cq hB h5 (by rw[aM];exact me) hp cg eP aS h4 hK
    have ro:BN A o.kmin=true→(∀ u,Q5 o.op (Q3 env) σ=some (u,σ)→(Jj env o.guard=some true)→∀ τ,B.Le τ→Q5 o.op (Q3 env) τ=some (u,τ))→gd1 C o s (fun s'=>Wc C r s' hl chg A Rd K) →
      QV (Jj env o.guard) fun b=>vif b (if o.kind=2 then BL (fun R=>vop (Q2 P) o.op env σ R) fun v σ'=>Xy hs.length σ' pend∧Jz (Q2 P) r (XN env o.dst v) (hs++[σ']) σ' pend R
       else if o.kind=1 then QV (Q5 o.op (Q3 env) σ) fun p=>(∀ τ∈hs.drop o.kmin,XC o.op (Q3 env) p.1 τ) ∧
        Jz (Q2 P) r (XN env o.dst p.1) hs σ (if hs.length≤o.kmax then (o.kmax,XC o.op (Q3 env) p.1)::pend else pend) R
       else QV (Q5 o.op (Q3 env) σ) fun p=>Jz (Q2 P) r (XN env o.dst p.1) hs σ pend R)
      (if o.kind=2 then Xy hs.length σ pend∧Jz (Q2 P) r (XN env o.dst undef) (hs++[σ]) σ pend R else Jz (Q2 P) r (XN env o.dst undef) hs σ pend R):=fun jV bL h=>by
     obtain⟨b,hw,h1,h2⟩:=UU hG h;rw[hw];refine⟨fun e=>?_,fun e=>?_⟩
     ·obtain⟨u,s',tb',h3,h4,aM,h5⟩:=h1 e;have bL:=bL u h3 (by rw[hw,e]);rw[if_neg au,if_pos bn,h3];refine⟨fun τ hτ=>?_,?_⟩
      ·obtain⟨j,hj⟩:=List.mem_iff_getElem?.1 hτ;rw[List.getElem?_drop] at hj;refine J4 (bL τ (cg _ τ hj ?_));simp only[BN,List.all_eq_true,Bool.or_eq_true,Nat.blt_eq] at jV ⊢;exact fun a ha=>(jV a ha).imp (fun h=>by omega) id
      refine Qn aw bE r cq hB h5 (A:=A) (Rd:=Rd) (hl:=hl) (chg:=chg) (pd:=pd) (by rw[aM];exact hD) (fun c hc=>?_) cg eP aS h4 hK;split at hc
      ·rcases List.mem_cons.1 hc with rfl|hc
       ·exact .inl fun τ hτ=>J4 (bL τ hτ)
       ·exact hp c hc
      ·exact hp c hc
     ·obtain⟨s',tb',h4,aM,h5⟩:=h2 e;rw[if_neg au];exact Qn aw bE r cq hB h5 (by rw[aM];exact hD) hp cg eP aS h4 hK
    split at h
    ·rename_i hg;cases hr:(Q7n o.op (gev [] s.env)&&BN A o.kmin) with
     |true =>rw[hr] at h;rw[Bool.and_eq_true] at hr;exact ro hr.2 (fun u hu _=>Gs hG Gds.nil hr.1 hu) h
     |false =>
     rw[hr] at h;simp only[_root_.cond_false] at h;cases hb:(Nat.ble chg o.kmin||RY A o.kmin (Gl o.op (gev [] s.env) s.own)) with
     |false=>rw[hb] at h;exact h.elim
     |true =>rw[hb] at h;exact rd _ (fun q hq=>hq) hb h
    ·rename_i j want hg;cases hr:(Q2t s j want o.op&&BN A o.kmin) with
     |true =>
      rw[hr] at h;rw[Bool.and_eq_true] at hr;obtain⟨hr,jV⟩:=hr;refine ro jV (fun u hu hw=>?_) h;unfold Q2t at hr;split at hr
      ·rename_i gs s1 ek;obtain⟨tb',bq,cP,b,df,bp,b_⟩:=WM hG ek;rw[hg,df] at hw;have e:=osj hw;exact Gs bq (fun g hg=>⟨bp e g hg,cP g hg⟩) hr hu
      ·cases hr
     |false =>
     rw[hr] at h;simp only[_root_.cond_false] at h;cases hb:Nat.ble chg o.kmin with
     |false=>rw[hb] at h;exact h.elim
     |true =>rw[hb] at h;exact rd none (fun q hq=>by cases hq) (by rw[hb];rfl) h
   ·rw[if_neg bn] at h;obtain⟨b,hw,h1,h2⟩:=UU hG h;rw[hw];refine⟨fun e=>?_,fun e=>?_⟩
    ·obtain⟨u,s',tb',h3,h4,aM,h5⟩:=h1 e;rw[if_neg au,if_neg bn,h3];exact Qn aw bE r cq hB h5 (by rw[aM];exact hD) hp cg eP aS h4 hK
    ·obtain⟨s',tb',h4,aM,h5⟩:=h2 e;rw[if_neg au];exact Qn aw bE r cq hB h5 (by rw[aM];exact hD) hp cg eP aS h4 hK
theorem Qp {C:Cx}(aw:COk P C) {B0 F0 D0:Heap}:∀ (ops:List DOper),(∀ o∈ops,o.kind=o.op.kind)→∀ {s:St}{env:Env}{σ:Heap}{B F:Heap}{pl:Nat→Value}{tb:Nat→Option Bool},GBase B0 F0 D0 B F σ→Gam P B F pl tb s env σ→∀ {hl chg:Nat}{A Rd:List (Nat×Option Nat)}{hs:List Heap}{pend pd:List (Nat×(Heap→Prop))},DSt hs σ pd hl chg A Rd s.own pl→(∀ c∈pend,(∀ τ,B.Le τ→c.2 τ)∨c∈pd)→(∀ j τ,hs[j]?=some τ→BN A j=true→B.Le τ)→chg≤hl→0<hl →
  ∀ {K:St→Prop},Wc C ops s hl chg A Rd K→∀ {R:Env→Heap→Prop},(∀ s' ae σ',K s'→GRel P B0 F0 D0 s' ae σ'→R ae σ')→ZJ (Q2 P) ops env hs σ pend R
 |[],_,s,env,σ,B,F,pl,tb,hB,hG,_,_,_,_,_,_,_,_,_,_,_,_,K,h,R,hK=>hK s env σ h ⟨B,F,pl,tb,hB,hG⟩
 |o0::r,fC,s,env,σ,B,F,pl,tb,hB,hG,hl,chg,A,Rd,hs,pend,pd,hD,hp,cg,eP,aS,K,h,R,hK=>by
  have eI:∀ {n:Nat}{τ:Heap},B.Le τ→Xy n τ pd→Xy n τ pend:=fun {n τ} hb hv=>KM fun c hc hn=>(hp c hc).elim (fun h=>h τ hb) fun h=>Gr hv h hn;have snoc:∀ {τ:Heap}{A':List (Nat×Option Nat)},B.Le τ→(∀ j,BN A' j=true→BN A j=true)→∀ j τ',(hs++[τ])[j]?=some τ'→BN A' j=true→B.Le τ':=fun {τ A'} hb hA j τ' hm hn=>by
   rcases JX hm with⟨_,h1⟩|⟨_,rfl⟩
   ·exact cg j τ' h1 (hA j hn)
   ·exact hb
  have cq:∀ o∈r,o.kind=o.op.kind:=fun o' dZ=>fC o' (List.mem_cons_of_mem _ dZ);have ma:=fC o0 List.mem_cons_self;unfold Wc at h;split at h
  ·rename_i bj;have hw:=Vu hG bj;simp only[ZJ];rw[hw];refine⟨fun e=>(by cases e),fun _=>?_⟩;have cm:=hG.put o0.dst (show SR P B pl tb .any undef by simp[SR]);by_cases au:o0.kind=2
   ·rw[if_pos au] at h ⊢;obtain⟨k1,k2⟩:=hD.stay;exact⟨eI hG.leB k1,Qp aw r cq hB cm (by rw[Zr];exact k2) hp (snoc hG.leB fun _ h=>h) (by omega) (by omega) h hK⟩
   ·rw[if_neg au] at h ⊢;exact Qp aw r cq hB cm (by rw[Zr];exact hD) hp cg eP aS h hK
  have bO:(OZ s.env o0).kind=(OZ s.env o0).op.kind:=by unfold OZ;split<;>exact ma
  have cX:ZJ (Q2 P) (OZ s.env o0::r) env hs σ pend R→ZJ (Q2 P) (o0::r) env hs σ pend R:=fun hv=>by
   unfold OZ at hv;split at hv
   ·rename_i bj;simp only[ZJ] at hv ⊢;rw[Vu hG bj];exact hv
   ·exact hv
  refine cX ?_;clear cX;generalize OZ s.env o0=o at h bO ⊢
  replace h:=id h
  simp only[ZJ];by_cases au:o.kind=2
  ·rw[if_pos au] at h
   have fin:∀ {u:Value}{σ':Heap}{ts:List Nat}{v:SV}{s':St}{pl':Nat→Value},(∀ R',R' u σ'→vop (Q2 P) o.op env σ R')→Wc C r (s'.put o.dst v) (hl+1) (bif ts.isEmpty then chg else hl) (ts.map (fun t=>(hl-1,some t))++A) (bif ts.isEmpty then Rd else Rd.map fun r=>(r.1,none)) K→Gam P B F pl' tb s' env σ'→SR P B pl' tb v u→(ts=[]→σ'=σ∧pl'=pl∧s'=s)→σ.Le σ'→Dead σ σ'→FrL ts s s' pl pl' σ σ' →
     BL (fun R=>vop (Q2 P) o.op env σ R) fun v σ'=>Xy hs.length σ' pend∧ZJ (Q2 P) r (XN env o.dst v) (hs++[σ']) σ' pend R:=fun {u σ' ts v s' pl'} bH oT bq ia he hle hd cM=>by
    cases ts with
    |nil =>obtain⟨rfl,rfl,rfl⟩:=he rfl;obtain⟨k1,k2⟩:=hD.stay;exact⟨u,σ',bH _ ⟨rfl,rfl⟩,eI bq.leB k1,Qp aw r cq (De hB hd) (bq.put o.dst ia) (by rw[Zr];exact k2) hp (snoc bq.leB fun _ h=>h) (by simp only[List.isEmpty,_root_.cond_true] at *;omega) (by omega) oT hK⟩
    |cons t ts =>obtain⟨k1,k2⟩:=hD.call hle cM aS;exact⟨u,σ',bH _ ⟨rfl,rfl⟩,eI bq.leB k1,Qp aw r cq (De hB hd) (bq.put o.dst ia) (by rw[Zr];exact k2) hp (snoc bq.leB fun _ h=>T5 h) (by simp only[List.isEmpty,_root_.cond_false] at *;omega) (by omega) oT hK⟩
   split at h
   ·rename_i f args bH;split at h
    ·rename_i hg;rw[hg];refine⟨fun _=>?_,fun e=>by cases e⟩;rw[if_pos au]
     have oW:∀ {K':List Nat→SV→St→Prop},Df C (C.off+o.dst.getD 0) (.fn f [] []) (T7 s.own (args.map (gev [] s.env))) s K'→(∀ ts v s',K' ts v s'→Wc C r (s'.put o.dst v) (hl+1) (bif ts.isEmpty then chg else hl) (ts.map (fun t=>(hl-1,some t))++A) (bif ts.isEmpty then Rd else Rd.map fun r=>(r.1,none)) K) →
       BL (fun R=>vop (Q2 P) o.op env σ R) fun v σ'=>Xy hs.length σ' pend∧ZJ (Q2 P) r (XN env o.dst v) (hs++[σ']) σ' pend R:=fun {K'} h ra=>by
      obtain⟨g,a,b,u,σ',e,v,s',pl',h1,h2,h3,h4,h5,h6,h7,h8,h9⟩:=WE aw hG h (show SR P σ X0 ZF (.fn f [] []) (.func (.func f) #[] #[]) by simp only[SR,SRs];exact⟨[],[],rfl,rfl,rfl⟩) (hG.gcall Gds.nil args);obtain⟨rfl,rfl,rfl⟩:=(by simpa using h1:f=g∧#[]=a∧#[]=b);refine fin (u:=u) (σ':=σ') (fun R' hr=>?_) (ra _ _ _ h3) h4 h5 h6 h7 h8 h9;rw[bH];show VCalled P f (args.map (Q3 env)) σ R';have:=h2.mono (R':=R') fun u' aE ⟨e1,e2⟩=>by subst e1;subst e2;exact hr
      simpa using this
     split at h
     ·rename_i x hx;split at h
      ·rename_i jf vX;split at h
       ·rename_i tt rb;cases gP:(waits o.dst.toList r&&Ol false Rd hl [tt]) with
        |false=>rw[gP] at h;exact h.elim
        |true =>rw[gP] at h;simp only[_root_.cond_true] at h;rw[Bool.and_eq_true] at gP;refine .inr ⟨gP.1,?_⟩;rw[bH];show VCalled P f (args.map (Q3 env)) σ _;refine aw.xf f jf vX x hx B F pl tb s env σ _ _ _ _ _ tt hG (SRs.map fun x _=>hG.evs Gds.nil x) rb h fun v s' u σ' k1 k2 k3 k4 k5=>?_;obtain⟨q1,q2⟩:=hD.writeD k5 (mk:=false) (fun h=>by cases h) gP.2 aS;exact⟨eI k3.leB q1,Qp aw r cq (De hB k2) (k3.put o.dst k4) (by rw[Zr];exact q2) hp (snoc k3.leB fun _ h=>Rq h) (by omega) (by omega) k1 hK⟩
       ·exact h.elim
      ·cases gP:(waits o.dst.toList r&&Rd.all (fun q=>Nat.blt q.1 hl)) with
       |false=>rw[gP] at h;simp only[_root_.cond_false] at h;exact .inl (oW h fun _ _ _ h=>h)
       |true =>
        rw[gP] at h;simp only[_root_.cond_true] at h;rw[Bool.and_eq_true] at gP;refine .inr ⟨gP.1,?_⟩;rw[bH];show VCalled P f (args.map (Q3 env)) σ _;have av:∀ args:List Operand,SRs P B pl tb (args.map (gev [] s.env)) (args.map (Q3 env)):=fun args=>SRs.map fun x _=>hG.evs Gds.nil x;refine aw.xs f x hx B F pl tb s env σ _ _ _ _ _ hG (av args) h fun v s' B' F' pl' tb' u σ' k1 k2 k3 k4=>?_;have hall:∀ c∈pd,c.1<hl:=fun c hc=>by
         rcases hD.pend c hc with h1|⟨q,h1,h2,_⟩
         ·exact h1
         ·have:=List.all_eq_true.1 gP.2 q h1;rw[Nat.blt_eq] at this;omega
        have kG:Xy hs.length σ' pd:=KM fun c hc hle=>by have:=hall c hc;have:=hD.len;omega
        have rf:Xy hs.length σ' pend:=KM fun c hc hn=>(hp c hc).elim (fun h=>h σ' (k2.b.trans k3.leB)) fun h=>Gr kG h hn;refine⟨rf,Qp aw r cq (hB.trans k2) (k3.put o.dst k4) (pd:=pd) ⟨by simp[hD.len],fun j τ hj ht=>?_,fun c hc=>.inl (by have:=hall c hc;omega),fun j τ q i ht hu cn hi=>?_⟩ (fun c hc=>(hp c hc).imp (fun h τ hτ=>h τ (k2.b.trans hτ)) id) (fun j τ ht hn=>?_) (by omega) (by omega) k1 hK⟩
        ·rcases JX ht with⟨h1,_⟩|⟨_,h1⟩
         ·rw[hD.len] at h1;omega
         ·exact h1
        ·rcases JX ht with⟨h1,_⟩|⟨_,h1⟩
         ·exfalso;rw[hD.len] at h1;simp only[Zs,List.all_cons,Bool.and_eq_true,Bool.or_eq_true,Nat.blt_eq,Bool.false_eq_true,or_false] at hu;omega
         ·rw[h1]
        ·rcases JX ht with⟨h1,_⟩|⟨_,h1⟩
         ·exfalso;rw[hD.len] at h1;simp only[BN,List.all_cons,Bool.and_eq_true,Bool.or_eq_true,Nat.blt_eq,Option.isSome_none,Bool.false_eq_true,or_false] at hn;omega
         ·rw[h1];exact k3.leB
     ·exact .inl (oW h fun _ _ _ h=>h)
    ·rename_i j want hg;rw[hg];split at h
     ·exact h.elim
     ·rename_i gs s1 ek;obtain⟨tb',bq,cP,b,hw,bp,b_⟩:=WM hG ek;have aM:=V9 ek;rw[hw];split at h
      ·rename_i cs v dD;cases cE:Uz v with
       |false=>rw[cE] at h;exact h.elim
       |true =>
       rw[cE] at h;simp only[_root_.cond_true] at h;obtain⟨h1,h2⟩:=ZC h;obtain⟨k1,k2⟩:=hD.stay;have l7:∀ x,DSt (hs++[σ]) σ pd (hl+1) chg A Rd (s1.put o.dst x).own pl:=fun x=>by rw[Zr,aM];exact k2
       refine⟨fun e=>?_,fun e=>?_⟩
       ·rw[if_pos au];have gJ:Gds tb' gs:=fun g hg=>⟨bp e g hg,cP g hg⟩;have mb:∀ {v u},SR P B pl tb' v u→SR P B pl tb' (.grd gs (BE v)) u:=fun {v u} hs=>by
         simp only[SR];obtain⟨h1,h2⟩:=T8 hs;exact⟨⟨cP,h2⟩,fun _=>h1,fun ⟨g,hg,aA⟩=>absurd (bp e g hg) aA⟩
        simp only[gqc] at dD;split at dD
        ·rename_i c v' heq;cases bV:v'.ret 0 with
         |false=>rw[bV] at dD;cases dD
         |true =>
          rw[bV] at dD;obtain⟨rfl,rfl⟩:=Z1 dD;obtain⟨g,a,b',h3,h4,_⟩:=J5 aw.cs (show SR P σ X0 ZF (.fn f [] []) (.func (.func f) #[] #[]) by simp only[SR,SRs];exact⟨[],[],rfl,rfl,rfl⟩) (bq.gcall gJ args) heq bV rfl (h2 (bp e) _ (by simp));obtain⟨rfl,rfl,rfl⟩:=(by simpa using h3:f=g∧#[]=a∧#[]=b');refine .inl ⟨UK X0 v',σ,?_,eI hG.leB k1,Qp aw r cq hB (bq.put o.dst (mb ?_)) (l7 _) hp (snoc hG.leB fun _ h=>h) (by omega) (by omega) (Zw h1) hK⟩
          ·rw[bH];show VCalled P f (args.map (Q3 env)) σ _;have:=h4.mono (R':=fun u σ'=>u=UK X0 v'∧σ'=σ) fun u σ' hr=>by
            obtain⟨rfl,hu⟩:=hr.flat bV;exact⟨US v' u bV cE hu,rfl⟩
           simpa using this
          ·exact SR.retd (fun j hj=>by omega) _ _ bV (C3 (P:=P) (pl:=X0) (m:=0) (fun j hj=>by omega) v' bV cE)
        ·cases dD
       ·rw[if_pos au];obtain⟨g,dG,aA⟩:=b_ e;exact⟨eI hG.leB k1,Qp aw r cq hB (bq.put o.dst (by simp only[SR];exact⟨⟨cP,T3 v⟩,fun hall=>absurd (hall g dG) aA,fun _=>trivial⟩)) (l7 _) hp (snoc hG.leB fun _ h=>h) (by omega) (by omega) (Zw h1) hK⟩
      ·split at h
       ·rename_i cs v kX;obtain⟨c,ty,k,xs,nl,heq,rfl,rfl,hk,cW⟩:=LB kX;obtain⟨h1,h2⟩:=ZC h;have frz:∀ {B' σ':Heap},B'.Le σ'→∀ j τ',(hs++[σ'])[j]?=some τ'→BN ((hl-1,none)::A) j=true→B'.Le τ':=fun {B' σ'} hb j τ' hm hn=>by
         rcases JX hm with⟨h1,_⟩|⟨_,rfl⟩
         ·simp only[BN,List.all_cons,Bool.and_eq_true,Bool.or_eq_true,Nat.blt_eq,Option.isSome_none,Bool.false_eq_true,or_false] at hn;have:=hD.len;omega
         ·exact hb
        refine⟨fun e=>?_,fun e=>?_⟩
        ·rw[if_pos au];have gJ:Gds tb' gs:=fun g hg=>⟨bp e g hg,cP g hg⟩;have eO:=h2 (bp e) c (by simp);have hU:=h2 (bp e) (nl=true→xs=[]) (by simp);have ek:Df C (C.off+o.dst.getD 0) (.fn f [] []) (T7 s1.own (args.map (gev gs s1.env))) s1 (fun ts v' s'=>ts=[C.off+o.dst.getD 0]∧v'=.lst (C.off+o.dst.getD 0)∧s'=s1.make (C.off+o.dst.getD 0) (.lst ty k xs nl)):=by
          unfold Df;rw[heq];dsimp only;have ao:(SV.ret [OB.lst ty k xs nl].length (.lst 0)&&([OB.lst ty k xs nl].all OB.ret&&(Nat.blt 0 C.nt&&([OB.lst ty k xs nl].all OB.isL&&Uz (.lst 0)))))=true:=by simp only[SV.ret,List.length_singleton,List.all_cons,List.all_nil,Bool.and_true,OB.ret,hk,Bool.true_and,OB.isL,Uz];rw[Bool.and_eq_true];exact⟨rfl,by rw[Nat.blt_eq];exact cW⟩
          rw[ao];simp only[_root_.cond_true,Q0n,OB.wf];refine⟨eO,hU,?_,?_,?_⟩
          ·simp[List.range_succ]
          ·simp[SV.ren]
          ·simp[St.makes]
         obtain⟨g,a,b',u,σ',ts,v',s',pl',h3,h4,⟨rfl,rfl,rfl⟩,h5,h6,_,h7,h8,h9⟩:=WE aw bq ek (show SR P σ X0 ZF (.fn f [] []) (.func (.func f) #[] #[]) by simp only[SR,SRs];exact⟨[],[],rfl,rfl,rfl⟩) (bq.gcall gJ args);obtain⟨rfl,rfl,rfl⟩:=(by simpa using h3:f=g∧#[]=a∧#[]=b');obtain⟨B',F',m1,m2,m3⟩:=LY bq.bf hk h5 h6 h8;have cM:FrL [C.off+o.dst.getD 0] s ((s1.make (C.off+o.dst.getD 0) .dead).put o.dst (.grd gs (.val (.list k) xs))) pl pl' σ σ':=fun q hq=>by obtain⟨f1,f2,f3⟩:=h9 q hq;rw[aM] at f3;refine⟨?_,f2,f3⟩;rw[Zr,UW _ _ _ (by simpa using hq),aM]
         obtain⟨k1,k2⟩:=hD.call h7 cM aS;refine .inl ⟨u,σ',?_,eI (m1.b.trans m2.leB) k1,Qp aw r cq (hB.trans m1) (m2.put o.dst ?_) k2.frozen (fun c hc=>(hp c hc).imp (fun h τ hτ=>h τ (m1.b.trans hτ)) id) (frz m2.leB) (by omega) (by omega) h1 hK⟩
         ·rw[bH];show VCalled P f (args.map (Q3 env)) σ _;simpa using h4
         ·simp only[SR];exact⟨⟨cP,trivial⟩,fun _=>m3,fun ⟨g,hg,aA⟩=>absurd (bp e g hg) aA⟩
        ·rw[if_pos au];obtain⟨g,dG,aA⟩:=b_ e;have cM:FrL [C.off+o.dst.getD 0] s ((s1.make (C.off+o.dst.getD 0) .dead).put o.dst (.grd gs (.val (.list k) xs))) pl (X4 pl (C.off+o.dst.getD 0) undef) σ σ:=fun q hq=>by
          have cY:q≠C.off+o.dst.getD 0:=by simpa using hq
          refine⟨?_,by simp[X4,cY],fun _ _ _=>rfl⟩;rw[Zr,UW _ _ _ cY,aM]
         obtain⟨k1,k2⟩:=hD.call (.refl σ) cM aS;refine⟨eI hG.leB k1,Qp aw r cq hB ((bq.make (C.off+o.dst.getD 0) .dead undef bq.le (fun _ _ _ _ _=>rfl) trivial (fun i hl _=>by cases hl)).put o.dst ?_) k2.frozen hp (frz hG.leB) (by omega) (by omega) h1 hK⟩;simp only[SR];exact⟨⟨cP,trivial⟩,fun hall=>absurd (hall g dG) aA,fun _=>trivial⟩
       ·exact h.elim
   ·rename_i f args bH;split at h
    ·rename_i hg;rw[hg];refine⟨fun _=>?_,fun e=>by cases e⟩;rw[if_pos au];refine .inl ?_;obtain⟨g,a,b,u,σ',e,v,s',pl',h1,h2,h3,h4,h5,h6,h7,h8,h9⟩:=WE aw hG h (hG.gfun Gds.nil f) (hG.gcall Gds.nil args);refine fin (u:=u) (σ':=σ') (fun R' hr=>?_) h3 h4 h5 h6 h7 h8 h9;rw[bH];exact MP h1 (h2.mono (R':=R') fun u' aE ⟨e1,e2⟩=>by subst e1;subst e2;exact hr)
    ·exact h.elim
   ·exact h.elim
   ·exact h.elim
   ·rename_i oU nW q_ oJ;split at h
    ·rename_i hg;rw[hg];refine⟨fun _=>?_,fun e=>by cases e⟩;rw[if_pos au];have aB:FM o.op=false:=by
      cases ho:o.op<;>first|rfl|(exact absurd ho (oU _ _))|(exact absurd ho (nW _ _))|skip
      case ext x=>cases x<;>first|rfl|(exact absurd ho (q_ _))|(exact absurd ho (oJ _))
     cases kW:Ak C (o.dst.getD 0) o.op (gev [] s.env) with
     |true =>
      rw[kW] at h;simp only[_root_.cond_true] at h;cases hm:Ol (R4 o.op) Rd hl (Ea (C.off+o.dst.getD 0) o.op (gev [] s.env)) with
      |false=>rw[hm] at h;exact h.elim
      |true =>
       rw[hm] at h;simp only[_root_.cond_true] at h;obtain⟨u,σ',pl',v,s',h1,h2,⟨h3,kU⟩,h4⟩:=TX (fun x=>hG.evs (Gds.nil (tb:=tb)) x) hG h;have gh:∀ R',R' u σ'→vop (Q2 P) o.op env σ R':=fun R' hr=>by
        have:vop (Q2 P) o.op env σ R'=QV (Q5 o.op (Q3 env) σ) fun p=>R' p.1 p.2:=by
         cases ho:o.op with
         |callF f a=>rw[ho] at aB;cases aB
         |callV f a=>rw[ho] at aB;cases aB
         |ext x =>
          cases x with
          |nextMap y=>rw[ho] at h1;cases h1
          |_=>rfl
         |_=>rfl
        rw[this,h1];exact hr
       obtain⟨k1,k2⟩:=hD.writeD kU (fun b8=>CF b8 h1) hm aS;exact .inl ⟨u,σ',gh _ ⟨rfl,rfl⟩,eI h3.leB k1,Qp aw r cq (De hB (Vr h1)) (h3.put o.dst h4) (by rw[Zr];exact k2) hp (snoc h3.leB fun _ h=>T5 h) (by omega) (by omega) h2 hK⟩
     |false =>
     rw[kW] at h;simp only[_root_.cond_false] at h;cases hm:((R4 o.op&&Ey Rd hl (Qt (C.off+o.dst.getD 0) o.op (gev [] s.env)))||S_ Rd hl (Qt (C.off+o.dst.getD 0) o.op (gev [] s.env))||(LF o.op&&Q7r Rd hl (Qt (C.off+o.dst.getD 0) o.op (gev [] s.env)))) with
     |false=>rw[hm] at h;exact h.elim
     |true =>
      rw[hm] at h;simp only[_root_.cond_true] at h;obtain⟨u,σ',pl',v,s',h1,h2,⟨h3,kU⟩,h4,hE⟩:=Q33 hG h aB;have gh:∀ R',R' u σ'→vop (Q2 P) o.op env σ R':=fun R' hr=>by
       have:vop (Q2 P) o.op env σ R'=QV (Q5 o.op (Q3 env) σ) fun p=>R' p.1 p.2:=by
        cases ho:o.op with
        |callF f a=>rw[ho] at aB;cases aB
        |callV f a=>rw[ho] at aB;cases aB
        |ext x =>
         cases x with
         |nextMap y=>rw[ho] at h1;cases h1
         |_=>rfl
        |_=>rfl
       rw[this,h1];exact hr
      obtain⟨k1,k2⟩:=hD.write kU (fun b8=>CF b8 h1) hE hm aS;exact .inl ⟨u,σ',gh _ ⟨rfl,rfl⟩,eI h3.leB k1,Qp aw r cq (De hB (Vr h1)) (h3.put o.dst h4) (by rw[Zr];exact k2) hp (snoc h3.leB fun _ h=>Rq h) (by omega) (by omega) h2 hK⟩
    ·exact h.elim
  ·rw[if_neg au] at h;have mc:o.op.kind≠2:=by rw[←bO];exact au
   by_cases bn:o.kind=1
   ·rw[if_pos bn] at h
    have rd:∀ (rq:Option Nat),(∀ q,rq=some q→Gl o.op (gev [] s.env) s.own=some q)→(Nat.ble chg o.kmin||RY A o.kmin rq)=true→gd1 C o s (fun s'=>Wc C r s' hl chg A ((o.kmax,rq)::Rd) K) →
      QV (Jj env o.guard) fun b=>vif b (if o.kind=2 then (BL (fun R=>vop (Q2 P) o.op env σ R) fun v σ'=>Xy hs.length σ' pend∧ZJ (Q2 P) r (XN env o.dst v) (hs++[σ']) σ' pend R)∨(waits o.dst.toList r=true∧vop (Q2 P) o.op env σ fun v σ'=>Xy hs.length σ' pend∧ZJ (Q2 P) r (XN env o.dst v) (hs++[σ']) σ' pend R)
       else if o.kind=1 then QV (Q5 o.op (Q3 env) σ) fun p=>(∀ τ∈hs.drop o.kmin,XC o.op (Q3 env) p.1 τ) ∧
        ZJ (Q2 P) r (XN env o.dst p.1) hs σ (if hs.length≤o.kmax then (o.kmax,XC o.op (Q3 env) p.1)::pend else pend) R
       else QV (Q5 o.op (Q3 env) σ) fun p=>ZJ (Q2 P) r (XN env o.dst p.1) hs σ pend R)
      (if o.kind=2 then Xy hs.length σ pend∧ZJ (Q2 P) r (XN env o.dst undef) (hs++[σ]) σ pend R else ZJ (Q2 P) r (XN env o.dst undef) hs σ pend R):=fun rq oV hc h=>by
     obtain⟨b,hw,h1,h2⟩:=UU hG h;rw[hw];have me:DSt hs σ pd hl chg A ((o.kmax,rq)::Rd) s.own pl:=⟨hD.len,hD.same,fun c hc=>(hD.pend c hc).imp id fun ⟨r,k1,k2⟩=>⟨r,List.mem_cons_of_mem _ k1,k2⟩,hD.fr⟩;refine⟨fun e=>?_,fun e=>?_⟩
     ·obtain⟨u,s',tb',h3,h4,aM,h5⟩:=h1 e;rw[if_neg au,if_pos bn,h3];refine⟨fun τ hτ=>?_,?_⟩
      ·obtain⟨j,hj⟩:=List.mem_iff_getElem?.1 hτ;rw[List.getElem?_drop] at hj;rw[Bool.or_eq_true] at hc;rcases hc with hc|hc
       ·have:=hD.same (o.kmin+j) τ (by have:=Nat.le_of_ble_eq_true hc;omega) hj;subst this;exact J4 h3
       ·unfold RY at hc;split at hc
        ·rename_i q;obtain⟨k1,i,bl,k2,k3,k4,k5⟩:=V6 hG (oV q rfl) h3;have hu:Zs A (o.kmin+j) (q / 2)=true:=by
          simp only[Zs,List.all_eq_true,Bool.or_eq_true,Nat.blt_eq] at hc ⊢;exact fun a ha=>(hc a ha).imp (fun h=>by omega) id
         have:=hD.fr (o.kmin+j) τ (q / 2) i hj hu k1 k2;exact J4 (k4 τ (by rw[this];exact k3))
        ·cases hc
      ·by_cases hle:hs.length≤o.kmax
       ·rw[if_pos hle];refine Qp aw r cq hB h5 (A:=A) (Rd:=(o.kmax,rq)::Rd) (hl:=hl) (chg:=chg) (pd:=(o.kmax,XC o.op (Q3 env) u)::pd) ?_ (fun c hc=>?_) cg eP aS h4 hK
        ·rw[aM];refine⟨hD.len,hD.same,fun c hc=>?_,hD.fr⟩;rcases List.mem_cons.1 hc with rfl|hc
         ·refine .inr ⟨_,List.mem_cons_self,Nat.le_refl _,?_⟩;cases rq with
          |none=>exact fun τ hτ=>J4 (TD mc h3 hτ)
          |some q =>obtain⟨k1,i,bl,k2,k3,k4,k5⟩:=V6 hG (oV q rfl) h3;exact⟨k1,i,bl,k2,k3,fun τ ht=>J4 (k4 τ ht),fun ho=>(let ⟨es,c,wr,x1,x2⟩:=k5 ho;⟨es,c,wr,x1,fun τ bR c' hl ht=>J4 (x2 τ bR c' hl ht)⟩)⟩
         ·exact me.pend c hc
        ·rcases List.mem_cons.1 hc with rfl|hc
         ·exact .inr List.mem_cons_self
         ·exact(hp c hc).imp id fun h=>List.mem_cons_of_mem _ h
       ·rw[if_neg hle];exact Qp aw r cq hB h5 (A:=A) (Rd:=(o.kmax,rq)::Rd) (hl:=hl) (chg:=chg) (pd:=pd) (by rw[aM];exact me) hp cg eP aS h4 hK
     ·obtain⟨s',tb',h4,aM,h5⟩:=h2 e;rw[if_neg au];exact Qp aw r cq hB h5 (by rw[aM];exact me) hp cg eP aS h4 hK
    have ro:BN A o.kmin=true→(∀ u,Q5 o.op (Q3 env) σ=some (u,σ)→(Jj env o.guard=some true)→∀ τ,B.Le τ→Q5 o.op (Q3 env) τ=some (u,τ))→gd1 C o s (fun s'=>Wc C r s' hl chg A Rd K) →
      QV (Jj env o.guard) fun b=>vif b (if o.kind=2 then (BL (fun R=>vop (Q2 P) o.op env σ R) fun v σ'=>Xy hs.length σ' pend∧ZJ (Q2 P) r (XN env o.dst v) (hs++[σ']) σ' pend R)∨(waits o.dst.toList r=true∧vop (Q2 P) o.op env σ fun v σ'=>Xy hs.length σ' pend∧ZJ (Q2 P) r (XN env o.dst v) (hs++[σ']) σ' pend R)
       else if o.kind=1 then QV (Q5 o.op (Q3 env) σ) fun p=>(∀ τ∈hs.drop o.kmin,XC o.op (Q3 env) p.1 τ) ∧
        ZJ (Q2 P) r (XN env o.dst p.1) hs σ (if hs.length≤o.kmax then (o.kmax,XC o.op (Q3 env) p.1)::pend else pend) R
       else QV (Q5 o.op (Q3 env) σ) fun p=>ZJ (Q2 P) r (XN env o.dst p.1) hs σ pend R)
      (if o.kind=2 then Xy hs.length σ pend∧ZJ (Q2 P) r (XN env o.dst undef) (hs++[σ]) σ pend R else ZJ (Q2 P) r (XN env o.dst undef) hs σ pend R):=fun jV bL h=>by
     obtain⟨b,hw,h1,h2⟩:=UU hG h;rw[hw];refine⟨fun e=>?_,fun e=>?_⟩
     ·obtain⟨u,s',tb',h3,h4,aM,h5⟩:=h1 e;have bL:=bL u h3 (by rw[hw,e]);rw[if_neg au,if_pos bn,h3];refine⟨fun τ hτ=>?_,?_⟩
      ·obtain⟨j,hj⟩:=List.mem_iff_getElem?.1 hτ;rw[List.getElem?_drop] at hj;refine J4 (bL τ (cg _ τ hj ?_));simp only[BN,List.all_eq_true,Bool.or_eq_true,Nat.blt_eq] at jV ⊢;exact fun a ha=>(jV a ha).imp (fun h=>by omega) id
      refine Qp aw r cq hB h5 (A:=A) (Rd:=Rd) (hl:=hl) (chg:=chg) (pd:=pd) (by rw[aM];exact hD) (fun c hc=>?_) cg eP aS h4 hK;split at hc
      ·rcases List.mem_cons.1 hc with rfl|hc
       ·exact .inl fun τ hτ=>J4 (bL τ hτ)
       ·exact hp c hc
      ·exact hp c hc
     ·obtain⟨s',tb',h4,aM,h5⟩:=h2 e;rw[if_neg au];exact Qp aw r cq hB h5 (by rw[aM];exact hD) hp cg eP aS h4 hK
    split at h
    ·rename_i hg;cases hr:(Q7n o.op (gev [] s.env)&&BN A o.kmin) with
     |true =>rw[hr] at h;rw[Bool.and_eq_true] at hr;exact ro hr.2 (fun u hu _=>Gs hG Gds.nil hr.1 hu) h
     |false =>
     rw[hr] at h;simp only[_root_.cond_false] at h;cases hb:(Nat.ble chg o.kmin||RY A o.kmin (Gl o.op (gev [] s.env) s.own)) with
     |false=>rw[hb] at h;exact h.elim
     |true =>rw[hb] at h;exact rd _ (fun q hq=>hq) hb h
    ·rename_i j want hg;cases hr:(Q2t s j want o.op&&BN A o.kmin) with
     |true =>
      rw[hr] at h;rw[Bool.and_eq_true] at hr;obtain⟨hr,jV⟩:=hr;refine ro jV (fun u hu hw=>?_) h;unfold Q2t at hr;split at hr
      ·rename_i gs s1 ek;obtain⟨tb',bq,cP,b,df,bp,b_⟩:=WM hG ek;rw[hg,df] at hw;have e:=osj hw;exact Gs bq (fun g hg=>⟨bp e g hg,cP g hg⟩) hr hu
      ·cases hr
     |false =>
     rw[hr] at h;simp only[_root_.cond_false] at h;cases hb:Nat.ble chg o.kmin with
     |false=>rw[hb] at h;exact h.elim
     |true =>rw[hb] at h;exact rd none (fun q hq=>by cases hq) (by rw[hb];rfl) h
   ·rw[if_neg bn] at h;obtain⟨b,hw,h1,h2⟩:=UU hG h;rw[hw];refine⟨fun e=>?_,fun e=>?_⟩
    ·obtain⟨u,s',tb',h3,h4,aM,h5⟩:=h1 e;rw[if_neg au,if_neg bn,h3];exact Qp aw r cq hB h5 (by rw[aM];exact hD) hp cg eP aS h4 hK
    ·obtain⟨s',tb',h4,aM,h5⟩:=h2 e;rw[if_neg au];exact Qp aw r cq hB h5 (by rw[aM];exact hD) hp cg eP aS h4 hK
def U1 (pl:Nat→Value) (mp:List (Nat×Option Nat)):Nat→Value:=fun t=>match Qm mp t with
 |some (some a)=>pl a
 |_=>.slice none 0 0
theorem AG {h:Heap}{k k':Kind}{x:k.T}{y:k'.T}(e:Dr x y) {cs:List Value}(hk:KC h k' y cs):KC h k x cs:=by
 unfold Dr at e;split at e
 ·rename_i z hz;obtain rfl:=Lm hz;obtain rfl:=Ls hz;subst e;exact hk
 ·exact e.elim
mutual
theorem WG {B:Heap}{pl:Nat→Value}{tb:Nat→Option Bool}{mp:List (Nat×Option Nat)}:∀ (p a:SV) (v:Value),Hn mp p a→SR P B pl tb a v→SR P B (U1 pl mp) ZF p v
 |.any,a,v,_,_=>trivial
 |.val k x,a,v,h,hs=>by
  simp only[Hn] at h;split at h
  ·simp only[SR] at hs ⊢;exact AG h hs
  ·simp only[SR] at hs ⊢;exact AG h (by simp[KC,hs.1])
  ·split at h
   ·subst h;simp only[SR] at hs ⊢;subst hs;exact⟨_,rfl,.inl ⟨rfl,rfl⟩⟩
   ·exact h.elim
  ·exact h.elim
 |.lst t,a,v,h,hs=>by
  simp only[Hn] at h;split at h
  ·split at h
   ·rename_i e;simp only[SR,U1,e] at hs ⊢;exact hs
   ·exact h.elim
  ·split at h
   ·rename_i e;simp only[SR,U1,e] at hs ⊢;exact⟨hs,_,_,_,hs⟩
   ·exact h.elim
  ·exact h.elim
 |.box t off,a,v,h,hs=>by
  simp only[Hn] at h;split at h
  ·split at h
   ·rename_i e;obtain⟨e,rfl⟩:=e;simp only[SR,U1,e] at hs ⊢;exact hs
   ·exact h.elim
  ·exact h.elim
 |.map t,a,v,h,hs=>by
  simp only[Hn] at h;split at h
  ·split at h
   ·rename_i e;simp only[SR,U1,e] at hs ⊢;exact hs
   ·exact h.elim
  ·exact h.elim
 |.dd t w,a,v,h,hs=>by
  simp only[Hn] at h;split at h
  ·split at h
   ·simp only[SR] at hs ⊢;simp only[DR];exact .inl ⟨h,hs⟩
   ·split at h
    ·rename_i e;obtain⟨e,rfl⟩:=e;simp only[SR,DR,U1,e] at hs ⊢;obtain⟨b,h1,h2⟩:=hs;exact .inr ⟨h,b,by rw[h1];rfl,h2⟩
    ·exact h.elim
   ·split at h
    ·split at h
     ·rename_i e;subst h;simp only[SR,DR,U1,e] at hs ⊢;exact hs
     ·exact h.elim
    ·exact h.elim
   ·exact h.elim
  ·split at h
   ·split at h
    ·split at h
     ·rename_i e;simp only[SR,U1,e] at hs ⊢;exact hs
     ·exact h.elim
    ·exact h.elim
   ·exact h.elim
  ·split at h
   ·split at h
    ·split at h
     ·rename_i e;simp only[SR,U1,e] at hs ⊢;exact hs
     ·exact h.elim
    ·exact h.elim
   ·split at h
    ·rename_i e;simp only[SR,U1,e] at hs ⊢;exact⟨hs,_,_,_,hs⟩
    ·exact h.elim
   ·exact h.elim
  ·exact h.elim
 |.agg l,a,v,h,hs=>by
  simp only[Hn] at h;split at h
  ·rename_i l';simp only[SR] at hs ⊢;obtain⟨cs,h1,h2⟩:=hs;exact⟨cs,h1,Zg l l' cs h h2⟩
  ·exact h.elim
 |.tup l,a,v,h,hs=>by
  simp only[Hn] at h;split at h
  ·rename_i l';simp only[SR] at hs ⊢;obtain⟨cs,h1,h2⟩:=hs;exact⟨cs,h1,Zg l l' cs h h2⟩
  ·exact h.elim
 |.fn f x y,a,v,h,hs=>by
  simp only[Hn] at h;split at h
  ·split at h
   ·rename_i e;subst e;simp only[SR] at hs ⊢;obtain⟨cs,ds,h1,h2,h3⟩:=hs;exact⟨cs,ds,h1,Zg x _ cs h.1 h2,Zg y _ ds h.2 h3⟩
   ·exact h.elim
  ·exact h.elim
 |.nilS,a,v,h,hs=>by
  simp only[Hn] at h;split at h
  ·simp only[SR] at hs ⊢;exact hs
  ·exact h.elim
 |.nilP,a,v,h,hs=>by
  simp only[Hn] at h;split at h
  ·simp only[SR] at hs ⊢;exact hs
  ·exact h.elim
 |.nilM,a,v,h,hs=>by
  simp only[Hn] at h;split at h
  ·simp only[SR] at hs ⊢;exact hs
  ·exact h.elim
 |.nilF,a,v,h,hs=>by
  simp only[Hn] at h;split at h
  ·simp only[SR] at hs ⊢;exact hs
  ·exact h.elim
 |.cp l off,a,v,h,hs=>by
  simp only[Hn] at h;cases rh:SVs.pure l with
  |true =>rw[rh] at h;simp only[_root_.cond_true] at h;obtain⟨rfl,_⟩:=h;simp only[SR] at hs ⊢;obtain⟨b,c,e,wr,t,h1,h2,h3⟩:=hs;exact⟨b,c,e,wr,t,h1,h2,QE l c rh h3⟩
  |false =>
   rw[rh] at h;simp only[_root_.cond_false] at h;split at h
   ·split at h
    ·rename_i l' dB he;subst he;simp only[SR] at hs ⊢;obtain⟨b,c,e,wr,t,h1,h2,h3⟩:=hs;exact⟨b,c,e,wr,t,h1,h2,Zg l l' c h h3⟩
    ·exact h.elim
   ·exact h.elim
 |.pf ks r cO p,a,v,h,hs=>by simp only[Hn] at h;subst h;simp only[SR] at hs ⊢;exact hs
 |.sub t lo n sz,a,v,h,hs=>by
  simp only[Hn] at h;split at h
  ·split at h
   ·rename_i e;obtain⟨rfl,rfl,rfl⟩:=h;simp only[SR,U1,e] at hs ⊢;exact hs
   ·exact h.elim
  ·exact h.elim
 |.elp _ _ _ _,_,_,h,_|.grd _ _,_,_,h,_|.bid _ _,_,_,h,_|.rop _ _ _ _,_,_,h,_=>by simp only[Hn] at h
theorem Zg {B:Heap}{pl:Nat→Value}{tb:Nat→Option Bool}{mp:List (Nat×Option Nat)}:∀ (p a:List SV) (v:List Value),Np mp p a→SRs P B pl tb a v→SRs P B (U1 pl mp) ZF p v
 |[],a,v,h,hs=>by simp only[Np] at h;subst h;exact hs
 |s::ss,[],v,h,hs=>by simp only[Np] at h
 |s::ss,a::bN,v,h,hs=>by simp only[Np] at h;simp only[SRs] at hs ⊢;obtain⟨x,y,h1,h2,h3⟩:=hs;exact⟨x,y,h1,WG s a x h.1 h2,Zg ss bN y h.2 h3⟩
theorem Lt {B:Heap}{pl pl':Nat→Value}{tb tb':Nat→Option Bool}:∀ (s:SV) (v:Value),s.pure=true→SR P B pl tb s v→SR P B pl' tb' s v
 |.any,v,_,_=>trivial
 |.val k x,v,_,h=>by simp only[SR] at h ⊢;exact h
 |.nilS,v,_,h|.nilP,v,_,h|.nilM,v,_,h|.nilF,v,_,h=>by simp only[SR] at h ⊢;exact h
 |.rop k l i off,v,_,h=>by simp only[SR] at h ⊢;exact h
 |.pf ks r cO p,v,_,h=>by simp only[SR] at h ⊢;exact h
 |.agg l,v,hp,h=>by simp only[SR] at h ⊢;obtain⟨cs,h1,h2⟩:=h;exact⟨cs,h1,QE l cs hp h2⟩
 |.tup l,v,hp,h=>by simp only[SR] at h ⊢;obtain⟨cs,h1,h2⟩:=h;exact⟨cs,h1,QE l cs hp h2⟩
 |.cp l off,v,hp,h=>by simp only[SR] at h ⊢;obtain⟨b,c,e,wr,t,h1,h2,h3⟩:=h;exact⟨b,c,e,wr,t,h1,h2,QE l c hp h3⟩
 |.fn f a b,v,hp,h=>by simp only[SV.pure,Bool.and_eq_true] at hp;simp only[SR] at h ⊢;obtain⟨x,y,h1,h2,h3⟩:=h;exact⟨x,y,h1,QE a x hp.1 h2,QE b y hp.2 h3⟩
 |.lst _,_,h,_|.sub _ _ _ _,_,h,_|.elp _ _ _ _,_,h,_|.box _ _,_,h,_|.map _,_,h,_|.grd _ _,_,h,_|.bid _ _,_,h,_=>by cases h
theorem QE {B:Heap}{pl pl':Nat→Value}{tb tb':Nat→Option Bool}:∀ (s:List SV) (v:List Value),SVs.pure s=true→SRs P B pl tb s v→SRs P B pl' tb' s v
 |[],v,_,h=>by simp only[SRs] at h ⊢;exact h
 |s::ss,v,hp,h=>by simp only[SVs.pure,Bool.and_eq_true] at hp;simp only[SRs] at h ⊢;obtain⟨x,y,h1,h2,h3⟩:=h;exact⟨x,y,h1,Lt s x hp.1 h2,QE ss y hp.2 h3⟩
end
end
end Go.V