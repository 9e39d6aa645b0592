/- A framework for walks, contracts of functions, and their proofs: part 4. -/
import Derived.Test.YtohogbdobpnkpaaGreatDoorR3
namespace Go.V
open Go
theorem Z5r {α:Type}{l:List α}(h:¬ l=[]) (b:Bool):(l.isEmpty&&b)=false:=by cases l with|nil=>exact absurd rfl h|cons _ _=>rfl
theorem Z3y {α:Type}{l:List α}(h:¬ l=[]):l.isEmpty=false:=by cases l with|nil=>exact absurd rfl h|cons _ _=>rfl
theorem ML {c vs:List Value}{o:Nat}(h:o+vs.length≤c.length):Q4 c o vs=c.take o++vs++c.drop (o+vs.length):=by
 apply List.ext_getElem?;intro k;rcases Nat.lt_or_ge k o with hk|hk
 ·rw[Ym vs c o k (.inl hk),List.append_assoc,List.getElem?_append_left (by simp;omega),List.getElem?_take,if_pos hk]
 ·rcases Nat.lt_or_ge k (o+vs.length) with au|au
  ·have:=Lr vs c o (k-o) h (by omega);rw[show o+(k-o)=k by omega] at this;rw[this,List.append_assoc,List.getElem?_append_right (by simp;omega),List.getElem?_append_left (by simp;omega)];congr 1;simp;omega
  ·rw[Ym vs c o k (.inr au),List.getElem?_append_right (by simp;omega),List.getElem?_drop];congr 1;simp;omega
theorem E2 (us c:List Value) {m p n off:Nat}(h1:off+us.length≤n) (h2:p+n≤m) (h3:m≤c.length) :
  (Q4 c (p+off) us).take m=(c.take m).take p++Q4 (((c.take m).drop p).take n) off us++(c.take m).drop (p+n):=by
 have l1:(((c.take m).drop p).take n).length=n:=by simp;omega
 have cw:∀ q,q<n→(((c.take m).drop p).take n)[q]?=c[p+q]?:=fun q hq=>by rw[List.getElem?_take,if_pos hq,List.getElem?_drop,List.getElem?_take,if_pos (by omega)]
 generalize ((c.take m).drop p).take n=row at l1 cw;have l2:((c.take m).take p).length=p:=by simp;omega
 have l3:(Q4 row off us).length=n:=by rw[W3,l1]
 have g2:∀ q,q<p→((c.take m).take p)[q]?=c[q]?:=fun q hq=>by rw[List.getElem?_take,if_pos hq,List.getElem?_take,if_pos (by omega)]
 generalize (c.take m).take p=pre at l2 g2;apply List.ext_getElem?;intro j;rw[List.getElem?_take,List.append_assoc];by_cases hj:j<m
 ·rw[if_pos hj];rcases Nat.lt_or_ge j p with a1|a1
  ·rw[Ym us c _ j (.inl (by omega)),List.getElem?_append_left (by omega),g2 j a1]
  ·rw[List.getElem?_append_right (by omega),l2];rcases Nat.lt_or_ge j (p+n) with a2|a2
   ·rw[List.getElem?_append_left (by omega)];rcases Nat.lt_or_ge (j-p) off with a3|a3
    ·rw[Ym us c _ j (.inl (by omega)),Ym us _ _ _ (.inl a3),cw _ (by omega)];congr 1;omega
    ·rcases Nat.lt_or_ge (j-p) (off+us.length) with a4|a4
     ·have b1:=Lr us c (p+off) (j-(p+off)) (by omega) (by omega);have b2:=Lr us row off (j-(p+off)) (by omega) (by omega);rw[show p+off+(j-(p+off))=j by omega] at b1;rw[show off+(j-(p+off))=j-p by omega] at b2;rw[b1,b2]
     ·rw[Ym us c _ j (.inr (by omega)),Ym us _ _ _ (.inr a4),cw _ (by omega)];congr 1;omega
   ·rw[Ym us c _ j (.inr (by omega)),List.getElem?_append_right (by omega),List.getElem?_drop,List.getElem?_take,l3,if_pos (by omega)];congr 1;omega
 ·rw[if_neg hj,List.getElem?_append_right (by omega),List.getElem?_append_right (by omega),List.getElem?_drop,List.getElem?_take,if_neg (by omega)]
theorem Heap.Le.push {B σ:Heap}(h:B.Le σ) (b:Blk):B.Le (σ.push b) :=
 ⟨by have:=h.1;simp;omega,fun i b' hb=>by rw[Heap.get_push_lt _ _ (σ.lt (h.2 i b' hb))];exact h.2 i b' hb⟩
theorem Heap.Le.upd {B σ:Heap}(h:B.Le σ) {i:Nat}(hi:B.get i=none) (b:Blk):B.Le (σ.upd i b) :=
 ⟨by simpa using h.1,fun j b' hb=>by
  have:j≠i:=fun e=>by subst e;rw[hi] at hb;cases hb
  rw[Heap.get_upd_ne _ _ this];exact h.2 j b' hb⟩
theorem Heap.Le.kill {B σ:Heap}(h:B.Le σ) {i:Nat}(hi:B.get i=none):B.Le (σ.kill i) :=
 ⟨by simpa using h.1,fun j b' hb=>by
  have:j≠i:=fun e=>by subst e;rw[hi] at hb;cases hb
  rw[Heap.get_kill_ne _ this];exact h.2 j b' hb⟩
theorem Heap.Le.fresh {B σ:Heap}(h:B.Le σ):B.get σ.n=none:=B.wf _ h.1
section
variable {P:Program}{B F:Heap}{pl:Nat→Value}{tb:Nat→Option Bool}{s:St}{env:Env}{σ:Heap}
theorem OR.id_lt {p:Value}{b:OB}(h:OR P B pl tb σ p b) (hl:b.live=true) {i:Nat}(hi:Oid p i):i<σ.n:=by
 cases b with
 |dead=>cases hl
 |lst ty k xs nl =>
  rcases h with⟨_,_,rfl⟩|⟨_,i',cap,c,t,rfl,_,h3,_⟩
  ·cases hi
  ·obtain rfl:=osj hi;exact σ.lt h3
 |cells l u=>obtain⟨i',c,e,t,rfl,h2,_⟩:=h;obtain rfl:=osj hi;exact σ.lt h2
 |map kk vk m=>obtain⟨i',es,clock,rfl,h2,_⟩:=h;obtain rfl:=osj hi;exact σ.lt h2
 |iter kk vk m dn=>obtain⟨j,i',es,clock,wr,seen,rfl,h2,_⟩:=h;obtain rfl:=osj hi;exact σ.lt h2
 |lpf l q s=>obtain⟨rfl,_,h2⟩:=h;obtain rfl:=osj hi;exact σ.lt (h2 hl)
 |deep ty q k xs nl hh =>obtain⟨is,hO,_,_,_,h4,_⟩:=h;obtain⟨b',bF⟩:=(hO i).1 hi;exact σ.lt (h4 i b' bF)
 |stk l vals=>cases hl
theorem Gam.push (h:Gam P B F pl tb s env σ) (d:Nat) (b:OB) (p:Value) (blk:Blk) (hp:oid p=some σ.n) (hb:OR P B (JP pl d p) tb (σ.push blk) p b):Gam P B F (JP pl d p) tb (s.make d b) env (σ.push blk):=by
 refine h.make d b p (h.le.push blk) (fun j i hj hl hi=>?_) hb (fun i _ hi=>?_)
 ·exact Heap.get_push_lt _ _ ((h.obj j).id_lt hl hi)
 ·obtain rfl:=Q8g hp hi;exact⟨h.le.fresh,fun j _ hl e=>by have:=(h.obj j).id_lt hl e;omega⟩
theorem Rows.cellOk {k:Kind}{xs:List k.T}{cs:List Value}(h:Rows (KC B k) xs cs):cs.all Go.V.cellOk=true:=by
 induction h with
 |nil=>rfl
 |cons h _ ih=>rw[List.all_append,KC.cellOk h,ih];rfl
theorem BJ {pl:Nat→Value}:∀ {k:Kind}{off:Nat}{v:SV}{u:Value}{x y:k.T}{row:List Value},Q9h k off v x=some y→KC B k x row→SR P B pl tb v u→off<k.size→KC B k y (Q4 row off [u])
 |.pair a b,off,v,u,x,y,row,h,hr,hv,ho=>by
  obtain⟨c1,c2,rfl,h1,h2⟩:=hr;have l1:=KC.length h1;have l2:=KC.length h2;simp only[Q9h] at h;simp only[Q4];cases hb:Nat.blt off a.size with
  |true =>
   rw[hb] at h;simp only[_root_.cond_true,Option.map_eq_some_iff] at h;obtain⟨z,h3,rfl⟩:=h;have aR:off<a.size:=by simpa [Nat.blt_eq] using hb
   have:=BJ h3 h1 hv aR;exact⟨c1.set off u,c2,by rw[List.set_append_left _ _ (by omega)],this,h2⟩
  |false =>
   rw[hb] at h;simp only[_root_.cond_false,Option.map_eq_some_iff] at h;obtain⟨z,h3,rfl⟩:=h;have aR:¬ off<a.size:=by intro ai;rw[show Nat.blt off a.size=true by rw[Nat.blt_eq];exact ai] at hb;cases hb
   simp only[Kind.size] at ho;have:=BJ h3 h2 hv (by omega);refine⟨c1,c2.set (off-a.size) u,?_,h1,this⟩;rw[List.set_append_right _ _ (by omega),l1]
 |.i ik,off,v,u,x,y,row,h,hr,hv,ho=>by
  have:=QM (k:=.i ik) h (show SRs P B pl tb [v] [u] by simp only[SRs];exact⟨_,[],rfl,hv,rfl⟩);have hl:=KC.length hr;simp only[Kind.size] at hl ho;obtain⟨c,rfl⟩:=List.length_eq_one_iff.1 hl;obtain rfl:off=0:=by omega
  exact this
 |.bo,off,v,u,x,y,row,h,hr,hv,ho=>by
  have:=QM (k:=.bo) h (show SRs P B pl tb [v] [u] by simp only[SRs];exact⟨_,[],rfl,hv,rfl⟩);have hl:=KC.length hr;simp only[Kind.size] at hl ho;obtain⟨c,rfl⟩:=List.length_eq_one_iff.1 hl;obtain rfl:off=0:=by omega
  exact this
 |.st,off,v,u,x,y,row,h,hr,hv,ho=>by
  have:=QM (k:=.st) h (show SRs P B pl tb [v] [u] by simp only[SRs];exact⟨_,[],rfl,hv,rfl⟩);have hl:=KC.length hr;simp only[Kind.size] at hl ho;obtain⟨c,rfl⟩:=List.length_eq_one_iff.1 hl;obtain rfl:off=0:=by omega
  exact this
 |.list k,off,v,u,x,y,row,h,hr,hv,ho=>by
  have:=QM (k:=.list k) h (show SRs P B pl tb [v] [u] by simp only[SRs];exact⟨_,[],rfl,hv,rfl⟩);have hl:=KC.length hr;simp only[Kind.size] at hl ho;obtain⟨c,rfl⟩:=List.length_eq_one_iff.1 hl;obtain rfl:off=0:=by omega
  exact this
theorem Rs {mk:MK}{kk vk:Kind}(hk:gq.mkOk mk kk=true) {key:kk.T}{x:vk.T}{kv xv:Value}{clock:Nat}(aQ:KV B kk key kv) (hx:KV B vk x xv):∀ {m:List (kk.T×vk.T)}{es:List Yq},MR B kk vk m es→MR B kk vk (S4 kk m key x) (ZW kv xv clock es).1
 |[],es,h=>by simp only[MR] at h;subst h;exact⟨_,[],rfl,aQ,hx,rfl⟩
 |m::ms,es,h=>by
  obtain⟨e,fY,rfl,h2,h3,h4⟩:=h;have hq:=CB hk aQ h2;simp only[ZW,S4,hq];cases gq.keq kk key m.1 with
  |true=>exact⟨_,fY,rfl,aQ,hx,h4⟩
  |false=>exact⟨e,_,rfl,h2,h3,Rs hk aQ hx h4⟩
theorem DB (k v:Value) (clock:Nat):∀ es:List Yq,((ZW k v clock es).2=clock∧(ZW k v clock es).1.map (fun e=>e.2.2)=es.map fun e=>e.2.2)∨((ZW k v clock es).2=clock+1∧(ZW k v clock es).1.map (fun e=>e.2.2)=(es.map fun e=>e.2.2)++[clock])
 |[]=>.inr ⟨rfl,rfl⟩
 |e::es=>by
  simp only[ZW];split
  ·exact .inl ⟨rfl,rfl⟩
  ·rcases DB k v clock es with⟨h1,h2⟩|⟨h1,h2⟩
   ·exact .inl ⟨h1,by simp[h2]⟩
   ·exact .inr ⟨h1,by simp[h2]⟩
theorem SOk.put {es:List Yq}{clock:Nat}(h:SOk es clock) {k v:Value}:SOk (ZW k v clock es).1 (ZW k v clock es).2:=by
 obtain⟨h1,h2⟩:=h;have mem:∀ (l:List Yq) (x:Nat),x∈l.map (fun e=>e.2.2)↔∃ e∈l,e.2.2=x:=fun l x=>by simp
 rcases DB k v clock es with⟨e1,e2⟩|⟨e1,e2⟩
 ·refine⟨by rw[e2];exact h1,fun e he=>?_⟩;have:e.2.2∈es.map fun e=>e.2.2:=by rw[←e2];exact(mem _ _).2 ⟨e,he,rfl⟩
  obtain⟨e',k1,k2⟩:=(mem _ _).1 this;rw[e1,←k2];exact h2 e' k1
 ·refine⟨?_,fun e he=>?_⟩
  ·rw[e2,List.nodup_append];refine⟨h1,by simp,fun a ha b hb=>?_⟩;obtain rfl:=List.mem_singleton.1 hb;obtain⟨e',k1,k2⟩:=(mem _ _).1 ha;have:=h2 e' k1;omega
  ·have:e.2.2∈(es.map fun e=>e.2.2)++[clock]:=by rw[←e2];exact(mem _ _).2 ⟨e,he,rfl⟩
   rw[e1];rcases List.mem_append.1 this with h3|h3
   ·obtain⟨e',k1,k2⟩:=(mem _ _).1 h3;have:=h2 e' k1;omega
   ·have:=List.mem_singleton.1 h3;omega
def Fr (T:Nat) (s s':St) (pl pl':Nat→Value) (σ σ':Heap):Prop :=
 ∀ q,q≠T→(Q7 s'.own q).live=(Q7 s.own q).live∧pl' q=pl q∧((Q7 s.own q).live=true→∀ i,Oid (pl q) i→σ'.get i=σ.get i)
theorem Ut (s:St) (d:Nat) (b:OB) {q:Nat}(hq:q≠d):(Q7 (s.make d b).own q).live=(Q7 s.own q).live:=by simp only[St.make,St.kill,Qf,Kz,if_neg hq,OB.live_kill]
theorem Gam.makeF {s:St}{env:Env}{σ σ':Heap}{pl:Nat→Value}(h:Gam P B F pl tb s env σ) (d:Nat) (b:OB) (p:Value) (hle:F.Le σ') (ho:∀ j i,j≠d→(Q7 s.own j).live=true→Oid (pl j) i→σ'.get i=σ.get i)
  (hb:OR P B (JP pl d p) tb σ' p b) (hf:∀ i,b.live=true→Oid p i→F.get i=none∧∀ j,j≠d→(Q7 s.own j).live=true→¬ Oid (pl j) i):Gam P B F (JP pl d p) tb (s.make d b) env σ'∧Fr d s (s.make d b) pl (JP pl d p) σ σ' :=
 ⟨h.make d b p hle ho hb hf,fun q hq=>⟨Ut s d b hq,by simp[JP,hq],fun hl i hi=>ho q i hq hl hi⟩⟩
theorem Gam.writeF {s:St}{env:Env}{σ σ':Heap}{pl:Nat→Value}(h:Gam P B F pl tb s env σ) (d:Nat) (b:OB) (hle:F.Le σ') (ak:(Q7 s.own d).live=true)
  (cu:∀ j i,j≠d→(Q7 s.own j).live=true→Oid (pl j) i→σ'.get i=σ.get i) (hb:OR P B pl tb σ' (pl d) b):Gam P B F pl tb ⟨s.env,oset s.own d b,s.nx⟩ env σ'∧Fr d s ⟨s.env,oset s.own d b,s.nx⟩ pl pl σ σ' :=
 ⟨h.write d b hle ak cu hb,fun q hq=>⟨by simp only[Qf,if_neg hq],rfl,fun hl i hi=>cu q i hq hl hi⟩⟩
theorem Gam.pushF {s:St}{env:Env}{σ:Heap}{pl:Nat→Value}(h:Gam P B F pl tb s env σ) (d:Nat) (b:OB) (p:Value) (blk:Blk) (hp:oid p=some σ.n) (hb:OR P B (JP pl d p) tb (σ.push blk) p b):Gam P B F (JP pl d p) tb (s.make d b) env (σ.push blk)∧Fr d s (s.make d b) pl (JP pl d p) σ (σ.push blk) :=
 ⟨h.push d b p blk hp hb,fun q hq=>⟨Ut s d b hq,by simp[JP,hq],fun hl i hi=>Heap.get_push_lt _ _ ((h.obj q).id_lt hl hi)⟩⟩
def NOk (P:Program) (B F:Heap) (tb:Nat→Option Bool) (o:VOp) (evV:Operand→Value) (env:Env) (σ:Heap) (K:SV→St→Prop) (T:Nat) (s:St) (pl:Nat→Value):Prop :=
 ∃ u σ' pl' v s',Q5 o evV σ=some (u,σ')∧K v s'∧(Gam P B F pl' tb s' env σ'∧Fr T s s' pl pl' σ σ')∧SR P B pl' tb v u
theorem W7 (pl:Nat→Value) (d:Nat) (p:Value):JP pl d p d=p:=by simp[JP]
section
variable {C:Cx}{d:Nat}{ev:Operand→SV}{evV:Operand→Value}{K:SV→St→Prop}
theorem Q23 (ah:∀ x,SR P B pl tb (ev x) (evV x)) (hG:Gam P B F pl tb s env σ) {t:Nat}{z:List Value}(h:gn C d (.alloc t z) ev s K):NOk P B F tb (.alloc t z) evV env σ K (Za d (.alloc t z) ev) s pl:=by
 have _hev:=ah;simp only[gn] at h;refine⟨.pointer (some ⟨σ.n,0,none⟩),_,JP pl d (.pointer (some ⟨σ.n,0,none⟩)),_,_,rfl,h,hG.pushF d _ _ _ rfl ?_,?_⟩
 ·refine⟨σ.n,z,_,_,rfl,Heap.get_push_self _ _,?_,fun y hy=>⟨osj hy,rfl⟩⟩;have hz:SRs P B (JP pl d (.pointer (some ⟨σ.n,0,none⟩))) tb (z.map cvp) (z.map id):=SRs.map fun x _=>DE x
  rwa [List.map_id] at hz
 ·simp only[SR,W7];exact⟨_,rfl,rfl⟩
theorem Q96 (ah:∀ x,SR P B pl tb (ev x) (evV x)) (hG:Gam P B F pl tb s env σ) {t:Nat}{x:Operand}(h:gn C d (.box t x) ev s K):NOk P B F tb (.box t x) evV env σ K (Za d (.box t x) ev) s pl:=by
 simp only[gn] at h;split at h
 ·rename_i l hl;obtain⟨c,h1,h2,_⟩:=YM hl (ah x);refine⟨.pointer (some ⟨σ.n,0,none⟩),σ.push (.cells c ⟨c.length,t⟩ true true),JP pl d (.pointer (some ⟨σ.n,0,none⟩)),_,_,by simp only[Q5,h1],h,hG.pushF d _ _ _ rfl ?_,?_⟩
  ·exact⟨σ.n,c,_,_,rfl,Heap.get_push_self _ _,SRs.upd (Heap.Le.refl B) (fun _ _ h=>h) (fun j hj=>by simp[JP,hj]) _ _ h2,fun y hy=>⟨osj hy,rfl⟩⟩
  ·simp only[SR,W7];exact⟨_,rfl,rfl⟩
 ·cases h
theorem Hc (ah:∀ x,SR P B pl tb (ev x) (evV x)) {k:Kind}:∀ {ps:List (Nat×Operand)}{xs ys:List k.T}{c:List Value},CG k ev ps xs=some ys→Rows (KC B k) xs c →
  ys.length=xs.length∧∃ c',ME c (ps.map fun p=>(p.1*k.size,k.size,evV p.2))=some c'∧Rows (KC B k) ys c'
 |[],xs,ys,c,h,hr=>by obtain rfl:=osj h;exact⟨rfl,c,rfl,hr⟩
 |(j,x)::r,xs,ys,c,h,hr=>by
  simp only[CG] at h;split at h
  ·rename_i l hl;split at h
   ·rename_i y hy;split at h
    ·rename_i hj;obtain⟨vs,h1,h2,_⟩:=YM hl (ah x);have hk:=QM hy h2;have hlen:=KC.length hk;have cy:=hr.length KC.rows_len;have ck:(j+1)*k.size≤xs.length*k.size:=Nat.mul_le_mul_right _ hj;rw[Nat.add_mul,Nat.one_mul] at ck;have bG:=hr.set KC.rows_len hj hk;have e:Q4 c (j*k.size) vs=c.take (j*k.size)++vs++c.drop (j*k.size+k.size):=by
      rw[ML (by omega),hlen]
     rw[←e] at bG;obtain⟨h3,c',h4,h5⟩:=Hc ah h bG;refine⟨by rw[h3,List.length_set],c',?_,h5⟩;simp only[List.map_cons,ME,h1];rw[if_pos ⟨hlen,by omega⟩];exact h4
    ·cases h
   ·cases h
  ·cases h
theorem Mw (ah:∀ x,SR P B pl tb (ev x) (evV x)) (hG:Gam P B F pl tb s env σ) {e:El}{z:List Value}{n:Nat}{ps:List (Nat×Operand)}(h:gn C d (.buildSlice e z n ps) ev s K):NOk P B F tb (.buildSlice e z n ps) evV env σ K (Za d (.buildSlice e z n ps) ev) s pl:=by
 simp only[gn] at h;split at h
 ·rename_i k _;split at h
  ·rename_i hc;obtain⟨aC,hz⟩:=hc;split at h
   ·rename_i xs hx;have pO:KC B k k.dflt z:=Yx hz;have cw:Rows (KC B k) (List.replicate n k.dflt) (Ac n z):=by rw[Mi];exact Rows.replicate pO n
    obtain⟨h3,c',h4,h5⟩:=Hc (B:=B) ah hx cw;rw[List.length_replicate] at h3;have cy:=h5.length KC.rows_len;refine⟨.slice (some ⟨σ.n,0,none⟩) n n,σ.push (.cells c' e true true),JP pl d (.slice (some ⟨σ.n,0,none⟩) n n),_,_,?_,h,hG.pushF d _ _ _ rfl ?_,?_⟩
    ·simp only[Q5];rw[←aC,h4]
    ·refine .inr ⟨rfl,σ.n,n,c',true,by rw[h3],by omega,?_,by rw[cy,h3];exact Nat.le_refl _,?_⟩
     ·rw[Heap.get_push_self,aC]
     ·rw[List.take_of_length_le (by omega)];exact h5
    ·simp only[SR,W7];exact⟨trivial,_,_,_,rfl⟩
   ·cases h
  ·cases h
 ·cases h
theorem Ph (ah:∀ x,SR P B pl tb (ev x) (evV x)) (hG:Gam P B F pl tb s env σ) {e:El}{bytes:Nat}{z:List Value}{l c:Operand}(h:gn C d (.makeSlice e bytes z l c) ev s K):NOk P B F tb (.makeSlice e bytes z l c) evV env σ K (Za d (.makeSlice e bytes z l c) ev) s pl:=by
 simp only[gn] at h;split at h
 ·rename_i k k1 a k2 b _ h1 h2;have e1:=J1 h1 (ah l);have e2:=J1 h2 (ah c);split at h
  ·rename_i hc;obtain⟨aC,hz⟩:=hc;simp only[SE,Q8z] at h;obtain⟨k3,k4,k5,k6,h⟩:=h;have pO:KC B k k.dflt z:=Yx hz;have cw:Rows (KC B k) (List.replicate b.toNat k.dflt) (Ac b.toNat z):=by rw[Mi];exact Rows.replicate pO _
   have cy:=cw.length KC.rows_len;rw[List.length_replicate] at cy;have ht:=cw.take KC.rows_len a.toNat;rw[List.take_replicate,Nat.min_eq_left (by omega)] at ht;refine⟨.slice (some ⟨σ.n,0,none⟩) a.toNat b.toNat,σ.push (.cells (Ac b.toNat z) e true true),JP pl d (.slice (some ⟨σ.n,0,none⟩) a.toNat b.toNat),_,_,?_,h,hG.pushF d _ _ _ rfl ?_,?_⟩
   ·simp only[Q5,e1,e2];rw[if_pos ⟨k3,k4,by simpa using k5,by simpa using k6⟩]
   ·refine .inr ⟨rfl,σ.n,b.toNat,_,true,by rw[List.length_replicate],by simp;omega,?_,by rw[cy];exact Nat.le_refl _,?_⟩
    ·rw[Heap.get_push_self,aC]
    ·rw[List.length_replicate];exact ht
   ·simp only[SR,W7];exact⟨trivial,_,_,_,rfl⟩
  ·cases h
 ·cases h
theorem EC (ah:∀ x,SR P B pl tb (ev x) (evV x)) (hG:Gam P B F pl tb s env σ) {e:El}{bytes:Nat}{x y:Operand}(h:gn C d (.append e bytes x y) ev s K):NOk P B F tb (.append e bytes x y) evV env σ K (Za d (.append e bytes x y) ev) s pl:=by
 have ha:=ah x;simp only[gn] at h;split at h
 ·rename_i k _;split at h
  ·rename_i ys hy;obtain⟨cs,ay,tq,aw,b7,q_⟩:=(Yc hG.leB hG.obj hy (ah y)).sl;have af:cs.all cellOk=true:=b7.cellOk;have cy:=b7.length KC.rows_len;split at h
   ·rename_i hx;have hT:Za d (.append e bytes x y) ev=d:=by simp only[Za,hx]
    rw[hT];rw[hx] at ha;simp only[SR] at ha;split at h
    ·rename_i aC;simp only[SE,Q8z] at h;obtain⟨h1,h⟩:=h;rw[aC] at aw;have base:Q5 (.append e bytes x y) evV σ=YQ e bytes σ (.slice none 0 0) ys.length cs:=by
      simp only[Q5,q_] at aw ⊢;simp only[aw,af,if_true,ha]
     by_cases hm:ys=[]
     ·subst hm;refine⟨.slice none 0 0,σ,JP pl d (.slice none 0 0),_,_,by rw[base];rfl,h,?_,?_⟩
      ·refine hG.makeF d _ _ hG.le (fun j i _ _ _=>rfl) (.inl ⟨rfl,rfl,rfl⟩) fun i _ hi=>by cases hi
      ·simp only[SR,W7];exact⟨trivial,_,_,_,rfl⟩
     ·have fj:ys.length≠0:=fun e=>hm (List.length_eq_zero_iff.1 e);refine⟨.slice (some ⟨σ.n,0,none⟩) ys.length ys.length,σ.push (.cells cs e true false),JP pl d (.slice (some ⟨σ.n,0,none⟩) ys.length ys.length),_,_,?_,h,hG.pushF d _ _ _ rfl ?_,?_⟩
      ·rw[base];simp only[YQ];rw[if_neg fj,if_pos (by simpa using h1)]
      ·refine .inr ⟨Z3y hm,σ.n,ys.length,cs,false,rfl,Nat.le_refl _,?_,by omega,?_⟩
       ·rw[Heap.get_push_self,aC]
       ·rw[List.take_of_length_le (by omega)];exact b7
      ·simp only[SR,W7];exact⟨trivial,_,_,_,rfl⟩
    ·cases h
   ·rename_i o hx;have hT:Za d (.append e bytes x y) ev=o:=by simp only[Za,hx]
    rw[hT];rw[hx] at ha;simp only[SR] at ha;have aj:=hG.obj o;split at h
    ·rename_i ty k' xs nl ho;rw[ho] at aj;have ak:(Q7 s.own o).live=true:=by rw[ho];rfl
     split at h
     ·rename_i aC;obtain⟨iH,aC⟩:=aC;split at h
      ·rename_i cj j5;obtain rfl:=Wk j5;obtain rfl:=Wi j5;simp only[SE,Q8z] at h;obtain⟨h1,h⟩:=h;rw[aC] at aw;have base:Q5 (.append e bytes x y) evV σ=YQ e bytes σ (pl o) ys.length cs:=by
        simp only[Q5,q_] at aw ⊢;simp only[aw,af,if_true,ha.1]
       have he:e=⟨k'.size,ty⟩:=by cases e;simp only at iH aC;rw[iH,aC]
       rcases aj with⟨rfl,rfl,h3⟩|⟨rfl,i,cap,c,t,h3,h4,h5,h6,h7⟩
       ·
        rw[h3] at base;by_cases hm:ys=[]
        ·subst hm;refine⟨.slice none 0 0,σ,JP pl o (.slice none 0 0),_,_,by rw[base];rfl,h,?_,?_⟩
         ·refine hG.makeF o _ _ hG.le (fun j i _ _ _=>rfl) (.inl ⟨rfl,rfl,rfl⟩) fun i _ hi=>by cases hi
         ·simp only[SR,W7];exact⟨trivial,_,_,_,rfl⟩
        ·have fj:ys.length≠0:=fun e=>hm (List.length_eq_zero_iff.1 e);refine⟨.slice (some ⟨σ.n,0,none⟩) ys.length ys.length,σ.push (.cells cs e true false),JP pl o (.slice (some ⟨σ.n,0,none⟩) ys.length ys.length),_,_,?_,h,hG.pushF o _ _ _ rfl ?_,?_⟩
         ·rw[base];simp only[YQ];rw[if_neg fj,if_pos (by simpa using h1)]
         ·rw[List.nil_append];refine .inr ⟨Z5r hm _,σ.n,ys.length,cs,false,rfl,Nat.le_refl _,?_,by omega,?_⟩
          ·rw[Heap.get_push_self,he]
          ·rw[List.take_of_length_le (by omega)];exact b7
         ·simp only[SR,W7];exact⟨trivial,_,_,_,rfl⟩
       ·rw[h3] at base;have k1:cj.length*k'.size≤cap*k'.size:=Nat.mul_le_mul_right _ h4;have a7:F.get i=none:=hG.fresh o i ak (by rw[h3];rfl);have bm:∀ j i',j≠o→(Q7 s.own j).live=true→Oid (pl j) i'→i'≠i:=fun j i' hj hl hi e=>by
         subst e;exact hG.sep j o i' hj hl ak hi (by rw[h3];rfl)
        have ao:e=e∧cj.length≤cap∧0+cj.length*e.sz≤c.length:=⟨rfl,h4,by rw[←aC];omega⟩;simp only[YQ,h5] at base;rw[←he,if_pos ao] at base;by_cases hm:ys=[]
        ·subst hm;simp only[List.length_nil,if_true] at base;refine⟨_,σ,JP pl o (pl o),_,_,base,h,?_,?_⟩
         ·refine hG.makeF o _ _ hG.le (fun j i _ _ _=>rfl) (.inr ⟨rfl,i,cap,c,t,?_,?_,h5,h6,?_⟩) fun i' _ hi=>?_
          ·rw[h3];simp
          ·simpa using h4
          ·simpa using h7
          ·rw[h3] at hi;obtain rfl:=osj hi;exact⟨a7,fun j hj hl e=>bm j _ hj hl e rfl⟩
         ·simp only[SR,W7,h3];exact⟨trivial,_,_,_,rfl⟩
        ·have fj:ys.length≠0:=fun e=>hm (List.length_eq_zero_iff.1 e);have kJ:(ys.isEmpty&&false)=false:=by simp
         have oE:Rows (KC B k') (cj++ys) (c.take (cj.length*k'.size)++cs):=h7.append b7;have dO:=oE.length KC.rows_len;rw[if_neg fj] at base;by_cases aT:cj.length+ys.length≤cap
         ·have eZ:(cj.length+ys.length)*k'.size≤cap*k'.size:=Nat.mul_le_mul_right _ aT;have dE:cj.length*k'.size+ys.length*k'.size≤cap*k'.size:=by rw[←Nat.add_mul];exact eZ
          rw[if_pos aT,if_pos ⟨trivial,by rw[←aC];omega⟩] at base;refine⟨_,_,JP pl o (.slice (some ⟨i,0,none⟩) (cj.length+ys.length) cap),_,_,base,h,?_,?_⟩
          ·refine hG.makeF o _ _ (hG.le.upd a7 _) (fun j i' hj hl hi=>Heap.get_upd_ne _ _ (bm j i' hj hl hi)) (.inr ⟨kJ,i,cap,Q4 c (0+cj.length*e.sz) cs,t,by rw[List.length_append],by rw[List.length_append];exact aT,?_,?_,?_⟩) fun i' _ hi=>?_
           ·rw[Heap.get_upd_self _ _ (σ.lt h5),he]
           ·rw[W3];exact h6
           ·have eD:0+cj.length*e.sz+cs.length≤c.length:=by rw[←aC];omega
            rw[ML eD,←aC,Nat.zero_add,List.take_left' (by rw[dO])];exact oE
           ·obtain rfl:=osj hi;exact⟨a7,fun j hj hl e=>bm j _ hj hl e rfl⟩
          ·simp only[SR,W7];exact⟨trivial,_,_,_,rfl⟩
         ·rw[if_neg aT,if_pos (by simpa using h1)] at base;have jo:((c.drop 0).take (cj.length*e.sz)++cs)=c.take (cj.length*k'.size)++cs:=by rw[List.drop_zero,aC]
          cases t with
          |true =>
           simp only[if_true] at base;rw[jo] at base;refine⟨_,_,JP pl o (.slice (some ⟨σ.n,0,none⟩) (cj.length+ys.length) (cj.length+ys.length)),_,_,base,h,hG.pushF o _ _ _ rfl (.inr ⟨kJ,σ.n,cj.length+ys.length,c.take (cj.length*k'.size)++cs,false,by rw[List.length_append],by rw[List.length_append];exact Nat.le_refl _,?_,?_,?_⟩),?_⟩
           ·rw[Heap.get_push_self,he]
           ·rw[dO,List.length_append];exact Nat.le_refl _
           ·rw[List.take_of_length_le (by rw[dO];exact Nat.le_refl _)];exact oE
           ·simp only[SR,W7];exact⟨trivial,_,_,_,rfl⟩
          |false =>
           simp only[Bool.false_eq_true,if_false,if_true] at base;rw[jo] at base;have hn:(σ.kill i).n=σ.n:=rfl;refine⟨_,_,JP pl o (.slice (some ⟨σ.n,0,none⟩) (cj.length+ys.length) (cj.length+ys.length)),_,_,base,h,?_,?_⟩
           ·refine hG.makeF o _ _ ((hG.le.kill a7).push _) (fun j i' hj hl hi=>?_) (.inr ⟨kJ,σ.n,cj.length+ys.length,c.take (cj.length*k'.size)++cs,false,by rw[List.length_append],by rw[List.length_append];exact Nat.le_refl _,?_,?_,?_⟩) fun i' _ hi=>?_
            ·rw[Heap.get_push_lt _ _ (by rw[hn];exact(hG.obj j).id_lt hl hi)];exact Heap.get_kill_ne _ (bm j i' hj hl hi)
            ·rw[←hn,Heap.get_push_self,he]
            ·rw[dO,List.length_append];exact Nat.le_refl _
            ·rw[List.take_of_length_le (by rw[dO];exact Nat.le_refl _)];exact oE
            ·obtain rfl:=osj hi;exact⟨hG.le.fresh,fun j _ hl e=>Nat.lt_irrefl σ.n ((hG.obj j).id_lt hl e)⟩
           ·simp only[SR,W7];exact⟨trivial,_,_,_,rfl⟩
      ·cases h
     ·cases h
    ·cases h
   ·cases h
  ·cases h
 ·cases h
theorem Q05 (ah:∀ x,SR P B pl tb (ev x) (evV x)) (hG:Gam P B F pl tb s env σ) {size:Nat}{a x:Operand}(h:gn C d (.store size a x) ev s K):NOk P B F tb (.store size a x) evV env σ K (Za d (.store size a x) ev) s pl:=by
 have ha:=ah a;simp only[gn] at h;split at h
 ·rename_i o off vs h1 h2;have hT:Za d (.store size a x) ev=o:=by simp only[Za,h1]
  rw[hT];obtain⟨us,h3,h4,h5⟩:=YM h2 (ah x);rw[h1] at ha;simp only[SR] at ha;obtain⟨b,h6,h7⟩:=ha;have aj:=hG.obj o;split at h
  ·rename_i l u ho;rw[ho] at aj;have ak:(Q7 s.own o).live=true:=by rw[ho];rfl
   obtain⟨i,c,e,t,h8,h9,bW,ga⟩:=aj;rw[h6] at h8;obtain rfl:=(by simpa using h8:b=i);split at h
   ·rename_i hc;have a7:F.get b=none:=hG.fresh o b ak (by rw[h6];rfl);have bm:∀ j i',j≠o→(Q7 s.own j).live=true→Oid (pl j) i'→i'≠b:=fun j i' hj hl hi e=>by
     subst e;exact hG.sep j o i' hj hl ak hi (by rw[h6];rfl)
    refine⟨undef,σ.upd b (.cells (Q4 c off us) e true t),pl,_,_,?_,h,hG.writeF o _ (hG.le.upd a7 _) ak (fun j i' hj hl hi=>Heap.get_upd_ne _ _ (bm j i' hj hl hi)) ?_,by simp[SR]⟩
    ·simp only[Q5,h7,h3,h9];rw[if_pos ⟨trivial,by rw[←h4.length];exact hc.1,by rw[←bW.length];exact hc.2,h5⟩]
    ·exact⟨b,_,e,t,h6,Heap.get_upd_self _ _ (σ.lt h9),Bz bW h4,ga⟩
   ·cases h
  ·cases h
 ·rename_i o i off sz vs h1 h2;have hT:Za d (.store size a x) ev=o:=by simp only[Za,h1]
  rw[hT];obtain⟨us,h3,h4,h5⟩:=YM h2 (ah x);rw[h1] at ha;simp only[SR] at ha;obtain⟨b,len,cap,h6,h7,h8,h9⟩:=ha;have aj:=hG.obj o;split at h
  ·rename_i ty k xs nl ho;rw[ho] at aj;have ak:(Q7 s.own o).live=true:=by rw[ho];rfl
   rcases aj with⟨_,_,k3⟩|⟨rfl,i',aq,c,t,k3,k4,k5,k6,k7⟩
   ·rw[h6] at k3;cases k3
   ·rw[h6] at k3;obtain⟨rfl,rfl,rfl⟩:=(by simpa using k3:b=i'∧len=xs.length∧cap=aq);have a7:F.get b=none:=hG.fresh o b ak (by rw[h6];rfl);have bm:∀ j i',j≠o→(Q7 s.own j).live=true→Oid (pl j) i'→i'≠b:=fun j i' hj hl hi e=>by
     subst e;exact hG.sep j o i' hj hl ak hi (by rw[h6];rfl)
    have hi:i.toNat<xs.length:=by omega
    have aC:(i.toNat+1)*k.size≤xs.length*k.size:=Nat.mul_le_mul_right _ hi;rw[Nat.add_mul,Nat.one_mul] at aC;have k8:=Nat.mul_le_mul_right k.size k4
    have fin:∀ (y:k.T) (us:List Value) (dp:Nat),dp+us.length≤k.size→KC B k y (Q4 (((c.take (xs.length*k.size)).drop (i.toNat*k.size)).take k.size) dp us) →
      Gam P B F pl tb ⟨s.env,oset s.own o (.lst ty k (xs.set i.toNat y) false),s.nx⟩ env (σ.upd b (.cells (Q4 c (i.toNat*k.size+dp) us) ⟨k.size,ty⟩ true t))∧Fr o s ⟨s.env,oset s.own o (.lst ty k (xs.set i.toNat y) false),s.nx⟩ pl pl σ (σ.upd b (.cells (Q4 c (i.toNat*k.size+dp) us) ⟨k.size,ty⟩ true t)):=by
     intro y us dp nr hk;refine hG.writeF o _ (hG.le.upd a7 _) ak (fun j i' hj hl hi=>Heap.get_upd_ne _ _ (bm j i' hj hl hi)) (.inr ⟨rfl,b,cap,Q4 c (i.toNat*k.size+dp) us,t,by rw[h6];simp,by simpa using k4,Heap.get_upd_self _ _ (σ.lt k5),by rw[W3];exact k6,?_⟩);have bG:=k7.set KC.rows_len hi hk;rw[List.length_set];rw[E2 us c (m:=xs.length*k.size) (p:=i.toNat*k.size) (n:=k.size) (off:=dp) nr aC (by omega)];exact bG
    have cw:=k7.at KC.rows_len hi;have dO:=KC.length cw;split at h
    ·rename_i hc;obtain⟨rfl,rfl,rfl⟩:=hc;split at h
     ·rename_i y hy;have hk:=QM hy h4;have hl:=KC.length hk;refine⟨undef,σ.upd b (.cells (Q4 c (i.toNat*k.size+0) us) ⟨k.size,ty⟩ true t),pl,_,_,?_,h,fin y us 0 (by omega) ?_,by simp[SR]⟩
      ·simp only[Q5,h9,h3,k5];rw[if_pos ⟨trivial,hl,by omega,h5⟩]
      ·rw[ML (by omega),Nat.zero_add,List.take_zero,List.nil_append,List.drop_of_length_le (by omega),List.append_nil];exact hk
     ·cases h
    ·split at h
     ·rename_i hc;obtain⟨rfl,hv1,rfl,aR⟩:=hc;split at h
      ·rename_i y hy;obtain⟨v0,rfl⟩:∃ v0,vs=[v0]:=by
        cases vs with
        |nil=>cases hv1
        |cons a r=>cases r with
         |nil=>exact⟨a,rfl⟩
         |cons _ _=>simp at hv1
       obtain⟨u0,rfl,tu⟩:=h4.one;have hx:xs.getD i.toNat k.dflt=xs[i.toNat]:=by simp[List.getD_eq_getElem?_getD,List.getElem?_eq_getElem hi]
       rw[hx] at hy;refine⟨undef,σ.upd b (.cells (Q4 c (i.toNat*k.size+off) [u0]) ⟨k.size,ty⟩ true t),pl,_,_,?_,h,fin y [u0] off (by simp;omega) (BJ hy cw tu aR),by simp[SR]⟩;simp only[Q5,h9,h3,k5];rw[if_pos ⟨trivial,rfl,by omega,h5⟩]
      ·cases h
     ·cases h
  ·cases h
 ·cases h
theorem P9 (ah:∀ x,SR P B pl tb (ev x) (evV x)) (hG:Gam P B F pl tb s env σ) {mk:MK}{m kx vx:Operand}(h:gn C d (.ext (.mapUpdate mk m kx vx)) ev s K):NOk P B F tb (.ext (.mapUpdate mk m kx vx)) evV env σ K (Za d (.ext (.mapUpdate mk m kx vx)) ev) s pl:=by
 have ha:=ah m;simp only[gn] at h;split at h
 ·rename_i o h1;have hT:Za d (.ext (.mapUpdate mk m kx vx)) ev=o:=by simp only[Za,h1]
  rw[hT];rw[h1] at ha;simp only[SR] at ha;have aj:=hG.obj o;split at h
  ·rename_i kk vk l ho;rw[ho] at aj;have ak:(Q7 s.own o).live=true:=by rw[ho];rfl
   obtain⟨id,es,clock,h2,h3,h4⟩:=aj;split at h
   ·rename_i hc;have dS:=hc;split at h
    ·rename_i key x aQ hx;have hk:=T8 aQ (ah kx) QM;have hv:=T8 hx (ah vx) QM;have a7:F.get id=none:=hG.fresh o id ak (by rw[h2];rfl);have bm:∀ j i',j≠o→(Q7 s.own j).live=true→Oid (pl j) i'→i'≠id:=fun j i' hj hl hi e=>by
      subst e;exact hG.sep j o i' hj hl ak hi (by rw[h2];rfl)
     have aV:σ.mapAt id=some (es,clock,true):=by simp[Heap.mapAt,h3]
     refine⟨undef,σ.upd id (.obj (.map (ZW (evV kx) (evV vx) clock es).1 (ZW (evV kx) (evV vx) clock es).2) true),pl,_,_,?_,h,hG.writeF o _ (hG.le.upd a7 _) ak (fun j i' hj hl hi=>Heap.get_upd_ne _ _ (bm j i' hj hl hi)) ?_,by simp[SR]⟩
     ·simp only[Q5,Z_,ha.1,h2,aV];rw[if_pos (by rw[S8 dS hk,h4.1.keys dS];rfl)]
     ·exact⟨id,_,_,h2,Heap.get_upd_self _ _ (σ.lt h3),Rs dS hk hv h4.1,h4.2.put⟩
    ·cases h
   ·cases h
  ·cases h
 ·cases h
theorem TH (hG:Gam P B F pl tb s env σ) {o ty:Nat}{k:Kind}{xs ys:List k.T}{nl:Bool}(ho:Q7 s.own o=.lst ty k xs nl) {size lo n:Nat}(aC:k.size=size) (kp:lo+n≤xs.length) {dv sv:Value}{a b:Operand}(mI:evV a=dv) (ra:evV b=sv)
  (hs:SlRel σ k.size (KC B k) ys sv) (hd:(n=0∧∃ c,dv=.slice none 0 c∨∃ x,dv=.slice x 0 c)∨∃ i len cap aq,pl o=.slice (some ⟨i,0,none⟩) len cap∧dv=.slice (some ⟨i,lo*size,none⟩) n aq)
  {s':St}(aZ:s'=⟨s.env,oset s.own o (.lst ty k (xs.take lo++(ys.take n++xs.drop (lo+Nat.min ys.length n))) nl),s.nx⟩) (h:K (.val (.i .i64) (Nat.min ys.length n:Nat)) s'):NOk P B F tb (.ext (.copy size a b)) evV env σ K o s pl:=by
 subst aZ;have ak:(Q7 s.own o).live=true:=by rw[ho];rfl
 have aj:=hG.obj o;rw[ho] at aj;by_cases hm:Nat.min ys.length n=0
 ·have nu:xs.take lo++(ys.take n++xs.drop (lo+Nat.min ys.length n))=xs:=by
   rw[hm,Nat.add_zero];have:ys.take n=[]:=by
    have:min ys.length n=0:=hm;rcases Nat.le_total ys.length n with h|h
    ·have:ys.length=0:=by omega
     rw[List.length_eq_zero_iff.1 this];simp
    ·have:n=0:=by omega
     rw[this];rfl
   rw[this,List.nil_append,List.take_append_drop]
  refine⟨.int .i64 0,σ,pl,_,_,?_,h,?_,?_⟩
  ·obtain⟨aa,cc,e⟩:=hs.len;have nq:∃ x c,dv=.slice x n c:=by
    rcases hd with⟨rfl,c,hd|⟨x,hd⟩⟩|⟨i,len,cap,aq,_,hd⟩
    ·exact⟨_,_,hd⟩
    ·exact⟨_,_,hd⟩
    ·exact⟨_,_,hd⟩
   obtain⟨x,c,nq⟩:=nq;simp only[Q5,Z_,mI,ra,nq,e];rw[if_pos (show min ys.length n=0 from hm)]
  ·rw[nu];exact hG.writeF o _ hG.le ak (fun _ _ _ _ _=>rfl) aj
  ·rw[hm];exact XB _ _
 ·have oF:0<min ys.length n:=Nat.pos_of_ne_zero hm;have l6:Nat.min ys.length n≤n:=Nat.min_le_right _ _;have uI:Nat.min ys.length n≤ys.length:=Nat.min_le_left _ _;rcases hd with⟨rfl,_⟩|⟨i,len,cap,aq,h1,h2⟩
  ·simp at oF
  rcases hs with⟨rfl,_⟩|⟨si,so,jc,sc,se,uJ,st,h3,h4,h5,h6,h7,h8⟩
  ·simp at oF
  rcases aj with⟨_,_,h9⟩|⟨rfl,i',eI,c,t,h9,bW,ga,dA,oG⟩
  ·rw[h1] at h9;cases h9
  rw[h1] at h9;obtain⟨rfl,rfl,rfl⟩:=(by simpa using h9:i=i'∧len=xs.length∧cap=eI);have a7:F.get i=none:=hG.fresh o i ak (by rw[h1];rfl);have bm:∀ j i',j≠o→(Q7 s.own j).live=true→Oid (pl j) i'→i'≠i:=fun j i' hj hl hi e=>by subst e;exact hG.sep j o i' hj hl ak hi (by rw[h1];rfl)
  have cw:=h8.take KC.rows_len (Nat.min ys.length n);have nw:Nat.min ys.length n*k.size≤ys.length*k.size:=Nat.mul_le_mul_right _ (Nat.min_le_left _ _);rw[List.take_take,Nat.min_eq_left nw] at cw;have af:=cw.cellOk;have hlen:((sc.drop so).take (Nat.min ys.length n*k.size)).length=Nat.min ys.length n*k.size:=by rw[cw.length KC.rows_len,show (ys.take (Nat.min ys.length n)).length=Nat.min ys.length n by rw[List.length_take];exact Nat.min_eq_left (Nat.min_le_left _ _)]
  have lU:σ.sl size (.slice (some ⟨si,so,none⟩) (min ys.length n) jc)=some ((sc.drop so).take (Nat.min ys.length n*k.size)):=by simp only[Heap.sl,h5];rw[if_pos ⟨by rw[h6,aC],by rw[←aC];have:min ys.length n*k.size≤ys.length*k.size:=nw;omega⟩,←aC]
  have aH:lo*k.size+Nat.min ys.length n*k.size≤xs.length*k.size:=by rw[←Nat.add_mul];exact Nat.mul_le_mul_right _ (by omega)
  have dN:=Nat.mul_le_mul_right k.size bW;refine⟨.int .i64 (Nat.min ys.length n:Nat),σ.upd i (.cells (Q4 c (lo*k.size) ((sc.drop so).take (Nat.min ys.length n*k.size))) ⟨k.size,ty⟩ true t),pl,_,_,?_,h,?_,XB _ _⟩
  ·simp only[Q5,Z_,mI,ra,h2,h3];rw[if_neg (show ¬ min ys.length n=0 from hm)];simp only[lU,ga];rw[if_pos ⟨trivial,aC,by rw[hlen,←aC];omega,af⟩,←aC]
  ·have ln:(xs.take lo++(ys.take n++xs.drop (lo+Nat.min ys.length n))).length=xs.length:=by
    have:Nat.min ys.length n=min n ys.length:=Nat.min_comm _ _;simp only[List.length_append,List.length_take,List.length_drop];omega
   refine hG.writeF o _ (hG.le.upd a7 _) ak (fun j i' hj hl hi=>Heap.get_upd_ne _ _ (bm j i' hj hl hi)) (.inr ⟨rfl,i,cap,_,t,by rw[ln];exact h1,by rw[ln];exact bW,Heap.get_upd_self _ _ (σ.lt ga),by rw[W3];exact dA,?_⟩);rw[ln];have e1:=E2 ((sc.drop so).take (Nat.min ys.length n*k.size)) c (m:=xs.length*k.size) (p:=lo*k.size) (n:=Nat.min ys.length n*k.size) (off:=0) (by omega) aH (by omega);rw[Nat.add_zero] at e1;rw[e1];have e2:Q4 (((c.take (xs.length*k.size)).drop (lo*k.size)).take (Nat.min ys.length n*k.size)) 0 ((sc.drop so).take (Nat.min ys.length n*k.size))=(sc.drop so).take (Nat.min ys.length n*k.size):=by
    have l1:(((c.take (xs.length*k.size)).drop (lo*k.size)).take (Nat.min ys.length n*k.size)).length=Nat.min ys.length n*k.size:=by simp;omega
    generalize ((c.take (xs.length*k.size)).drop (lo*k.size)).take (Nat.min ys.length n*k.size)=row at l1;generalize (sc.drop so).take (Nat.min ys.length n*k.size)=us at hlen;rw[ML (by omega),Nat.zero_add,List.take_zero,List.nil_append,List.drop_of_length_le (by omega),List.append_nil]
   rw[e2,List.append_assoc];have e3:ys.take n=ys.take (Nat.min ys.length n):=by
    rcases Nat.le_total ys.length n with h|h
    ·rw[show Nat.min ys.length n=ys.length from Nat.min_eq_left h,List.take_of_length_le h,List.take_of_length_le (Nat.le_refl _)]
    ·rw[show Nat.min ys.length n=n from Nat.min_eq_right h]
   rw[e3];have hd:=oG.drop KC.rows_len (lo+Nat.min ys.length n);rw[Nat.add_mul] at hd;exact(oG.take KC.rows_len lo).append (cw.append hd)
theorem RI:∀ xs:List UInt8,Rows (KC B (.i .u8)) (xs.map fun b=>(b.toNat:Int)) (xs.map fun b=>Value.int .u8 (b.toNat:Int))
 |[]=>.nil
 |x::xs=>.cons (c:=[.int .u8 (x.toNat:Int)]) rfl (RI xs)
theorem Rt (ah:∀ x,SR P B pl tb (ev x) (evV x)) (hG:Gam P B F pl tb s env σ) {e:Nat}{x:Operand}(h:gn C d (.ext (.strBytes e x)) ev s K):NOk P B F tb (.ext (.strBytes e x)) evV env σ K (Za d (.ext (.strBytes e x)) ev) s pl:=by
 simp only[gn] at h;split at h
 ·rename_i xs h1;have e1:=Uf h1 (ah x);obtain⟨hlen,h⟩:=h;have hlen:xs.length≤4611686018427387904:=hlen;have aC:(⟨xs.toArray⟩:ByteArray).size=xs.length:=by show xs.toArray.size=_;simp
  refine⟨.slice (some ⟨σ.n,0,none⟩) xs.length xs.length,σ.push (.cells (xs.map fun b=>Value.int .u8 (b.toNat:Int)) ⟨1,e⟩ true false),JP pl d (.slice (some ⟨σ.n,0,none⟩) xs.length xs.length),_,_,?_,h,hG.pushF d _ _ _ rfl ?_,?_⟩
  ·simp only[Q5,Z_,e1,aC];rw[if_pos (by exact hlen)]
  ·refine .inr ⟨rfl,σ.n,xs.length,_,false,by rw[List.length_map],by rw[List.length_map];exact Nat.le_refl _,Heap.get_push_self _ _,by rw[List.length_map];simp[Kind.size],?_⟩;rw[List.take_of_length_le (by simp[Kind.size])];exact RI xs
  ·simp only[SR,W7];exact⟨trivial,_,_,_,rfl⟩
 ·cases h
theorem T1 (ah:∀ x,SR P B pl tb (ev x) (evV x)) (hG:Gam P B F pl tb s env σ) {e:Nat}{a n:Operand}(h:gn C d (.ext (.unsafeStr e a n)) ev s K):NOk P B F tb (.ext (.unsafeStr e a n)) evV env σ K (Za d (.ext (.unsafeStr e a n)) ev) s pl:=by
 have ha:=ah a;simp only[gn] at h;split at h
 ·rename_i k h1 h2;have hn:=J1 h2 (ah n);obtain⟨hk,hK⟩:=h;have hk:k=0:=hk;rw[h1] at ha;simp only[SR] at ha;refine⟨.string ⟨#[]⟩,σ,pl,_,_,?_,hK,⟨hG,fun q _=>⟨rfl,rfl,fun _ _ _=>rfl⟩⟩,Tm []⟩;simp only[Q5,Z_,ha,hn,hk,if_true]
 ·rename_i o k h1 h2;have hn:=J1 h2 (ah n);have hT:Za d (.ext (.unsafeStr e a n)) ev=o:=by simp only[Za,h1]
  rw[hT];rw[h1] at ha;simp only[SR,DR] at ha;split at h
  ·rename_i ty xs nl ho;split at h
   ·rename_i iH;obtain⟨hk,hlen,hK⟩:=h;have hk:k=xs.length:=hk;have hlen:xs.length≤4611686018427387904:=hlen;have aj:=hG.obj o;rw[ho] at aj;have bp:∀ {σ':Heap},F.Le σ'→(∀ j i,j≠o→(Q7 s.own j).live=true→Oid (pl j) i→σ'.get i=σ.get i)→Gam P B F (JP pl o poison) tb (s.make o .dead) env σ'∧Fr o s (s.make o .dead) pl (JP pl o poison) σ σ':=fun {σ'} h3 h4 =>
     hG.makeF o .dead poison h3 h4 trivial fun i hl=>by cases hl
    rcases aj with⟨_,hx,hp⟩|⟨_,i,cap,c,t,hp,cK,hg,cy,b7⟩
    ·subst hx;refine⟨.string ⟨#[]⟩,σ,_,_,_,?_,hK,bp hG.le (fun _ _ _ _ _=>rfl),Tm []⟩;rcases ha with⟨_,hv⟩|⟨b,n',aq,hv,l5,_⟩
     ·simp only[Q5,Z_,hv,hn,hk];rfl
     ·rw[hp] at hv;cases hv
    ·rcases ha with⟨hv,_⟩|⟨b,n',aq,hv,l5,tv⟩
     ·rw[hp] at hv;cases hv
     ·rw[hp] at hv;have hv:=hv;simp only[phd,Value.slice.injEq,Option.some.injEq] at hv;obtain⟨hb,ny,_⟩:=hv;have tw:i=b:=by injection hb
      subst tw;subst ny;have aC:Kind.size (.i .u8)=1:=rfl;rw[aC,Nat.mul_one] at b7 cy;have mF:=Cq b7;have ak:(Q7 s.own o).live=true:=by rw[ho];rfl
      have a7:F.get i=none:=hG.fresh o i ak (by rw[hp];rfl);refine⟨.string ⟨(xs.map fun x=>x.toNat.toUInt8).toArray⟩,σ.upd i (.cells c ⟨1,ty⟩ false t),_,_,_,?_,hK,bp (hG.le.upd a7 _) (fun j i' hj hl hi=>Heap.get_upd_ne _ _ fun e=>by
       subst e;exact hG.sep j o i' hj hl ak hi (by rw[hp];rfl)),Tm _⟩
      have iL:¬ k=0:=by omega
      have iU:k.toNat=xs.length:=by omega
      simp only[Q5,Z_,tv,hn,if_neg iL,hg,aC];rw[if_pos ⟨by omega,by omega,iH,by omega⟩];simp only[List.drop_zero,iU,mF]
   ·cases h
  ·cases h
 ·cases h
theorem Q5m (ah:∀ x,SR P B pl tb (ev x) (evV x)) (hG:Gam P B F pl tb s env σ) {size:Nat}{a b:Operand}(h:gn C d (.ext (.copy size a b)) ev s K):NOk P B F tb (.ext (.copy size a b)) evV env σ K (Za d (.ext (.copy size a b)) ev) s pl:=by
 have ha:=ah a;simp only[gn] at h;split at h
 ·rename_i o h1;have hT:Za d (.ext (.copy size a b)) ev=o:=by simp only[Za,h1]
  rw[hT];rw[h1] at ha;simp only[SR] at ha;split at h
  ·rename_i ty k xs nl ho;split at h
   ·rename_i aC;split at h
    ·rename_i ys hy;have hs:=Yc hG.leB hG.obj hy (ah b);have aj:=hG.obj o;rw[ho] at aj;refine TH hG ho (lo:=0) (n:=xs.length) aC (by omega) ha.1 rfl hs ?_ ?_ h
     ·rcases aj with⟨_,rfl,h3⟩|⟨_,i,cap,c,t,h3,_⟩
      ·exact .inl ⟨rfl,0,.inl h3⟩
      ·exact .inr ⟨i,_,cap,cap,h3,by rw[h3];simp⟩
     ·have:xs.drop ys.length=xs.drop (0+Nat.min ys.length xs.length):=by
       rcases Nat.le_total ys.length xs.length with h|h
       ·rw[show Nat.min ys.length xs.length=ys.length from Nat.min_eq_left h,Nat.zero_add]
       ·rw[show Nat.min ys.length xs.length=xs.length from Nat.min_eq_right h,Nat.zero_add,List.drop_of_length_le h,List.drop_of_length_le (Nat.le_refl _)]
      rw[this];rfl
    ·cases h
   ·cases h
  ·cases h
 ·rename_i o lo n sz h1;have hT:Za d (.ext (.copy size a b)) ev=o:=by simp only[Za,h1]
  rw[hT];rw[h1] at ha;simp only[SR] at ha;split at h
  ·rename_i ty k xs nl ho;split at h
   ·rename_i aC;split at h
    ·rename_i ys hy;have hs:=Yc hG.leB hG.obj hy (ah b);have aj:=hG.obj o;rw[ho] at aj;rcases ha with⟨rfl,rfl,h2,h3⟩|⟨i,len,cap,aq,h2,h3,h4,h5⟩
     ·refine TH hG ho (lo:=0) (n:=0) aC.1 (by omega) h2 rfl hs (.inl ⟨rfl,0,.inl rfl⟩) rfl h
     ·rcases aj with⟨_,_,h6⟩|⟨_,i',eI,c,t,h6,_⟩
      ·rw[h2] at h6;cases h6
      ·rw[h2] at h6;obtain⟨rfl,rfl,rfl⟩:=(by simpa using h6:i=i'∧len=xs.length∧cap=eI);exact TH hG ho (lo:=lo) (n:=n) aC.1 h3 h5 rfl hs (.inr ⟨i,_,cap,aq,h2,by rw[aC.2]⟩) rfl h
    ·cases h
   ·cases h
  ·cases h
 ·cases h
end
theorem OS (hG:Gam P B F pl tb s env σ) (d:Nat) (kk vk:Kind):Gam P B F (JP pl d (.map (some σ.n))) tb (s.make d (.map kk vk [])) env (σ.push (.obj (.map [] 0) true))∧SR P B (JP pl d (.map (some σ.n))) tb (.map d) (.map (some σ.n)):=by refine⟨hG.push d _ _ _ rfl ⟨σ.n,[],0,rfl,Heap.get_push_self _ _,rfl,List.nodup_nil,fun _ h=>by cases h⟩,?_⟩;simp only[SR,W7];exact⟨trivial,_,rfl⟩
end
end Go.V
namespace Go.V
open Go
def Q2f (ρ1 ρ2:Plc):Prop:=∀ i p2,ρ2 i=some p2→∃ p1,ρ1 i=some p1∧p2.blk=p1.blk∧p2.shift=p1.shift∧p2.ext=p1.ext∧p2.esz=p1.esz∧(p2.tight=true→p1.tight=true)
theorem VRel.loose {ρ1 ρ2:Plc}{n:Nat}(hl:Q2f ρ1 ρ2) {v c:Value}(h:VRel ρ1 n v c):VRel ρ2 n v c:=by
 induction h with
 |poison c=>exact .poison c
 |bool b=>exact .bool b
 |int k x=>exact .int k x
 |string s=>exact .string s
 |nilPtr=>exact .nilPtr
 |nilSl=>exact .nilSl
 |nilMap=>exact .nilMap
 |nilFunc=>exact .nilFunc
 |nilIface=>exact .nilIface
 |glob g o s=>exact .glob g o s
 |ptr i o a hi h =>refine .ptr i o a hi fun p hp=>?_;obtain⟨p1,h1,h2,h3,_⟩:=hl i p hp;rw[h2,h3];exact h p1 h1
 |sl i o len cap a aq hi h =>refine .sl i o len cap a aq hi fun p hp=>?_;obtain⟨p1,h1,h2,h3,h4,h5,h6⟩:=hl i p hp;obtain⟨k1,k2,k3⟩:=h p1 h1;rw[h2,h3,h4,h5];exact⟨k1,fun ht=>k2 (h6 ht),k3⟩
 |map i r hi h =>refine .map i r hi fun p hp=>?_;obtain⟨p1,h1,h2,_⟩:=hl i p hp;rw[h2];exact h p1 h1
 |yield i r hi h =>refine .yield i r hi fun p hp=>?_;obtain⟨p1,h1,h2,_⟩:=hl i p hp;rw[h2];exact h p1 h1
 |iface t v c _ ih=>exact .iface t v c ih
 |func fn fs gs cs ds hf hc _ _ iR iS=>exact .func fn fs gs cs ds hf hc iR iS
 |agg cs ds hc _ ih=>exact .agg cs ds hc ih
 |tuple cs ds hc _ ih=>exact .tuple cs ds hc ih
theorem LRel.loose {ρ1 ρ2:Plc}{n:Nat}(hl:Q2f ρ1 ρ2) {v c:List Value}(h:LRel ρ1 n v c):LRel ρ2 n v c:=⟨h.1,fun i a b h1 h2=>(h.2 i a b h1 h2).loose hl⟩
theorem ORel.loose {ρ1 ρ2:Plc}{n:Nat}(hl:Q2f ρ1 ρ2) {o:VObj}{O:Obj}(h:ORel ρ1 n o O):ORel ρ2 n o O:=by
 cases o with
 |map es clock =>obtain⟨entries,h1,h2,h3⟩:=h;exact⟨entries,h1,h2,fun k kv hk=>let ⟨e,he,h4,h5,hv⟩:=h3 k kv hk;⟨e,he,h4,h5,hv.loose hl⟩⟩
 |iter m since seen last=>obtain⟨rm,h1,h2⟩:=h;exact⟨rm,h1,h2.loose hl⟩
 |lp env r st pend=>exact⟨h.1,h.2.loose hl⟩
inductive Weak (n0:Nat→Prop):Value→Value→Prop
 |refl (v:Value):Weak n0 v v
 |sl (i len cap:Nat) (hi:n0 i) (hc:len≤cap):Weak n0 (.slice (some ⟨i,0,none⟩) len cap) (.slice (some ⟨i,0,none⟩) len len)
 |agg (cs ds:List Value) (hc:cs.length=ds.length) (h:∀ (i:Nat) (a b:Value),cs[i]?=some a→ds[i]?=some b→Weak n0 a b):Weak n0 (.agg cs.toArray) (.agg ds.toArray)
 |tuple (cs ds:List Value) (hc:cs.length=ds.length) (h:∀ (i:Nat) (a b:Value),cs[i]?=some a→ds[i]?=some b→Weak n0 a b):Weak n0 (.tuple cs.toArray) (.tuple ds.toArray)
theorem Weak.rel {ρ:Plc}{n:Nat}{n0:Nat→Prop}(hρ:∀ i p,n0 i→ρ i=some p→p.tight=false) {v v':Value}(h:Weak n0 v v'):∀ {c:Value},VRel ρ n v c→VRel ρ n v' c:=by
 induction h with
 |refl v=>exact fun h=>h
 |sl i len cap hi hc =>
  intro c h;cases h with
  |sl _ _ _ _ a aq bV h =>
   refine .sl _ _ _ _ _ _ bV fun p hp=>?_;obtain⟨k1,k2,o',k3,k4,k5⟩:=h p hp;refine⟨by omega,(fun ht=>by rw[hρ i p hi hp] at ht;cases ht),o',k3,k4,?_⟩;rcases k5 with k5|k5
   ·exact .inl k5
   ·exact .inr ⟨k5.1,k5.1⟩
 |agg cs ds hc h ih =>
  intro c hr;cases hr with
  |agg _ es cm hr =>
   refine .agg _ _ (by simpa [hc] using cm) fun i h1 h2=>?_;have l1:i<cs.length:=by simpa [hc] using h1
   have l2:i<ds.length:=by simpa using h1
   have:=ih i cs[i] ds[i] (List.getElem?_eq_getElem l1) (List.getElem?_eq_getElem l2) (hr i (by simpa using l1) h2);simpa using this
 |tuple cs ds hc h ih =>
  intro c hr;cases hr with
  |tuple _ es cm hr =>
   refine .tuple _ _ (by simpa [hc] using cm) fun i h1 h2=>?_;have l1:i<cs.length:=by simpa [hc] using h1
   have l2:i<ds.length:=by simpa using h1
   have:=ih i cs[i] ds[i] (List.getElem?_eq_getElem l1) (List.getElem?_eq_getElem l2) (hr i (by simpa using l1) h2);simpa using this
theorem DropTo.trans {σ0 σ1 σ2 σ3:Heap}{v1 v2 v3:Value}(h:DropTo σ0 v1 σ1 v2 σ2) (k:DropTo σ0 v2 σ2 v3 σ3):DropTo σ0 v1 σ1 v3 σ3:=by intro ρ0 w0 ρ w c fD hE hH hv;obtain⟨ρ',fO,fU,bQ⟩:=h ρ0 w0 ρ w c fD hE hH hv;exact k ρ0 w0 ρ' w c fD bQ fU fO
theorem DropTo.weaken {σ0 σ1 σ2:Heap}{v v':Value}(S:Nat→Bool) (hS:∀ i,S i=true→σ0.n≤i) (hn:σ2.n=σ1.n) (h0:σ0.n≤σ1.n) (h1:∀ i,S i=false→σ2.get i=σ1.get i)
  (h2:∀ i,S i=true→∃ c e wr t m,σ1.get i=some (.cells c e wr t)∧σ2.get i=some (.cells (c.take m) e wr false)) (hv:Weak (fun i=>S i=true) v v'):DropTo σ0 v σ1 v' σ2:=by
 intro ρ0 w0 ρ w c fD hE hH dZ;let ρ':Plc:=fun i=>if S i=false then ρ i else (ρ i).map fun p=>{p with tight:=false}
 have hl:Q2f ρ ρ':=fun i p2 hp=>by
  change (if S i=false then ρ i else (ρ i).map fun p=>{p with tight:=false})=some p2 at hp;by_cases hi:S i=false
  ·rw[if_pos hi] at hp;exact⟨p2,hp,rfl,rfl,rfl,rfl,fun h=>h⟩
  ·rw[if_neg hi,Option.map_eq_some_iff] at hp;obtain⟨p1,gi,rfl⟩:=hp;exact⟨p1,gi,rfl,rfl,rfl,rfl,fun h=>by cases h⟩
 have eg:∀ i p2,ρ' i=some p2→∃ p1,ρ i=some p1∧p2.blk=p1.blk∧p2.ext=p1.ext:=fun i p2 hp=>by obtain⟨p1,k1,k2,k3,k4,_⟩:=hl i p2 hp;exact⟨p1,k1,k2,k4⟩
 have fN:∀ i b,σ2.get i=some b→∃ b1,σ1.get i=some b1∧b.wr=b1.wr:=fun i b hb=>by
  by_cases hi:S i=false
  ·rw[h1 i hi] at hb;exact⟨b,hb,rfl⟩
  ·obtain⟨c,e,wr,t,m,k1,k2⟩:=h2 i (by simpa using hi);rw[k2] at hb;obtain rfl:=osj hb;exact⟨_,k1,rfl⟩
 have hX:Ext ρ0 σ0 w0 ρ' σ2 w:=by
  refine⟨hE.os,hE.tape,hE.output,hE.size,hE.keep,?_,by omega,fun i hi p hp=>?_⟩
  ·rintro B hB ⟨i,p,b,hp,hb,hw,rfl⟩;obtain⟨p1,k1,k2,_⟩:=eg i p hp;obtain⟨b1,k7,k8⟩:=fN i b hb;exact hE.wr _ hB ⟨i,p1,b1,k1,k7,by rw[←k8];exact hw,k2.symm⟩
  ·have:S i=false:=by
    cases hs:S i with
    |false=>rfl
    |true=>have:=hS i hs;omega
   simp only[ρ',this,if_true] at hp;exact hE.pl i hi p hp
 refine⟨ρ',?_,fD.ext ⟨fun i b hb=>?_,fun i hi=>?_,fun i p hp=>?_,fun i j p q b bT hp hq hb hw hx=>?_⟩ hX,hX⟩
 ·rw[hn];refine hv.rel (fun i p hi hp=>?_) (dZ.loose hl);have:¬ S i=false:=by simp[hi]
  change (if S i=false then ρ i else (ρ i).map fun p=>{p with tight:=false})=some p at hp;rw[if_neg this,Option.map_eq_some_iff] at hp;obtain⟨p1,_,rfl⟩:=hp;rfl
 ·by_cases hi:S i=false
  ·rw[h1 i hi] at hb;obtain⟨p,hp,hB⟩:=hH.live i b hb;refine⟨p,by simp only[ρ',hi,if_true];exact hp,?_⟩;rw[hn];cases b with
   |cells c e wr t =>obtain⟨k1,k2,k3,k4,k5,k6⟩:=hB;exact⟨k1,k2,k3,k4,fun k v hk=>let ⟨u,a1,a2⟩:=k5 k v hk;⟨u,a1,a2.loose hl⟩,k6⟩
   |obj o wr =>obtain⟨k1,O,k2,k3⟩:=hB;exact⟨k1,O,k2,k3.loose hl⟩
  ·obtain⟨c,e,wr,t,m,k1,k2⟩:=h2 i (by simpa using hi);rw[k2] at hb;obtain rfl:=osj hb;obtain⟨p,hp,hB⟩:=hH.live i _ k1;obtain⟨a1,a2,a3,a4,a5,a6⟩:=hB;refine⟨{p with tight:=false},by simp[ρ',hi,hp],a1,rfl,by simp;omega,a4,fun k v hk=>?_,fun fN=>⟨(fun h=>by cases h),(a6 fN).2⟩⟩;rw[List.getElem?_take] at hk;split at hk
   ·obtain⟨u,b1,b2⟩:=a5 k v hk;rw[hn];exact⟨u,b1,b2.loose hl⟩
   ·cases hk
 ·have hd:σ1.get i=none:=by
   by_cases bV:S i=false
   ·rw[←h1 i bV];exact hi
   ·obtain⟨c,e,wr,t,m,k1,k2⟩:=h2 i (by simpa using bV);rw[k2] at hi;cases hi
  have:=hH.dead i hd;simp only[ρ',this];split<;>rfl
 ·obtain⟨p1,k1,k2,_⟩:=eg i p hp;rw[k2];exact hH.lt i p1 k1
 ·obtain⟨p1,k1,k2,k3⟩:=eg i p hp;obtain⟨q1,k4,k5,k6⟩:=eg j q hq;obtain⟨b1,k7,k8⟩:=fN i b hb;rw[k2,k5];exact hH.sep i j p1 q1 b1 bT k1 k4 k7 (by rw[←k8];exact hw) (by rw[←k6];exact hx)
end Go.V
namespace Go.V
open Go
def mkP (σ:Heap) (v:Value) (is:List Nat):Value:=.tuple (v::is.map fun i=>match σ.get i with|some b=>Z5v i b|none=>.bool true).toArray
theorem KO.imp {H H':Heap}:∀ {k:Kind}{q:Option Nat}{x:k.T}{cs:List Value}{is:List Nat},KO H q k x cs is→(∀ i∈is,H'.get i=H.get i)→KO H' q k x cs is
 |.i _,_,_,_,_,h,_|.bo,_,_,_,_,h,_|.st,_,_,_,_,h,_=>by simp only[KO] at h ⊢;exact h
 |.list k,q,l,cs,is,h,g=>by
  simp only[KO] at h ⊢;rcases h with h|⟨i,cap,c,e,t,js,h1,rfl,h3,h4,h5,h6,h7,h8⟩
  ·exact .inl h
  ·refine .inr ⟨i,cap,c,e,t,js,h1,rfl,h3,by rw[g i List.mem_cons_self];exact h4,h5,h6,h7,?_⟩;have key:∀ {xs:List k.T}{cs:List Value}{js:List Nat},RowsO (fun x c is=>KO H none k x c is) xs cs js→(∀ i∈js,H'.get i=H.get i)→RowsO (fun x c is=>KO H' none k x c is) xs cs js:=fun h=>by
    induction h with
    |nil=>exact fun _=>.nil
    |cons h _ ih=>exact fun g=>.cons (KO.imp (k:=k) h fun i hi=>g i (List.mem_append_left _ hi)) (ih fun i hi=>g i (List.mem_append_right _ hi))
   exact key h8 fun i hi=>g i (List.mem_cons_of_mem _ hi)
 |.pair a b,_,x,cs,is,h,g=>by simp only[KO] at h ⊢;obtain⟨c1,c2,i1,i2,h1,rfl,h3,h4⟩:=h;exact⟨c1,c2,i1,i2,h1,rfl,h3.imp fun i hi=>g i (List.mem_append_left _ hi),h4.imp fun i hi=>g i (List.mem_append_right _ hi)⟩
theorem KO.cells {H:Heap}:∀ {k:Kind}{q:Option Nat}{x:k.T}{cs:List Value}{is:List Nat},KO H q k x cs is→∀ i∈is,∃ c e t,H.get i=some (.cells c e true t)
 |.i _,_,_,_,_,h,i,hi|.bo,_,_,_,_,h,i,hi|.st,_,_,_,_,h,i,hi=>by simp only[KO] at h;rw[h.2] at hi;cases hi
 |.list k,q,l,cs,is,h,i,hi=>by
  simp only[KO] at h;rcases h with⟨_,_,rfl⟩|⟨i',cap,c,e,t,js,h1,rfl,h3,h4,h5,h6,h7,h8⟩
  ·cases hi
  ·rcases List.mem_cons.1 hi with rfl|hi
   ·exact⟨_,_,_,h4⟩
   ·have key:∀ {xs:List k.T}{cs:List Value}{js:List Nat},RowsO (fun x c is=>KO H none k x c is) xs cs js→∀ i∈js,∃ c e t,H.get i=some (.cells c e true t):=fun h=>by
     induction h with
     |nil=>exact fun i hi=>by cases hi
     |cons h _ ih=>exact fun i hi=>(List.mem_append.1 hi).elim (KO.cells (k:=k) h i) (ih i)
    exact key h8 i hi
 |.pair a b,_,x,cs,is,h,i,hi=>by simp only[KO] at h;obtain⟨c1,c2,i1,i2,h1,rfl,h3,h4⟩:=h;exact(List.mem_append.1 hi).elim (h3.cells i) (h4.cells i)
theorem KO.weak {H:Heap}:∀ {k:Kind}{q:Option Nat}{x:k.T}{cs:List Value}{is:List Nat},KO H q k x cs is→KO H none k x cs is
 |.i _,_,_,_,_,h|.bo,_,_,_,_,h|.st,_,_,_,_,h=>by simp only[KO] at h ⊢;exact h
 |.list k,q,l,cs,is,h=>by
  simp only[KO] at h ⊢;rcases h with h|⟨i,cap,c,e,t,js,h1,h2,h3,h4,h5,h6,h7,h8⟩
  ·exact .inl h
  ·exact .inr ⟨i,cap,c,e,t,js,h1,h2,h3,h4,h5,(fun _ e=>by cases e),h7,h8⟩
 |.pair a b,_,x,cs,is,h=>by simp only[KO] at h ⊢;exact h
theorem KO.rows_len {H:Heap}{q:Option Nat}{k:Kind}:∀ (x:k.T) (c:List Value) (is:List Nat),KO H q k x c is→c.length=k.size:=fun _ _ _ h=>KC.length h.kc
section
variable {α:Type}{R R':α→List Value→List Nat→Prop}{sz:Nat}
theorem RowsH.imp:∀ {xs:List α}{h:Option Nat}{j:Nat}{cs:List Value}{is:List Nat},RowsH R sz h j xs cs is→(∀ x c js,R x c js→(∀ i∈js,i∈is)→R' x c js)→RowsH R' sz h j xs cs is
 |[],_,_,_,_,h,_=>h
 |x::xs,hh,j,cs,is,h,g=>by
  obtain⟨c,cs',i1,i2,rfl,rfl,h1,h2⟩:=h;refine⟨c,cs',i1,i2,rfl,rfl,?_,h2.imp fun x c js hr hj=>g x c js hr fun i hi=>List.mem_append_right _ (hj i hi)⟩;by_cases e:hh=some j
  ·rw[if_pos e] at h1 ⊢;exact h1
  ·rw[if_neg e] at h1 ⊢;exact g _ _ _ h1 fun i hi=>List.mem_append_left _ hi
theorem RowsH.hole:∀ {xs:List α}{h h':Option Nat}{j j':Nat}{cs:List Value}{is:List Nat},RowsH R sz h j xs cs is→(∀ m,h=some (j+m)↔h'=some (j'+m))→RowsH R sz h' j' xs cs is
 |[],_,_,_,_,_,_,h,_=>h
 |x::xs,h,h',j,j',cs,is,hr,g=>by
  obtain⟨c,cs',i1,i2,rfl,rfl,h1,h2⟩:=hr;refine⟨c,cs',i1,i2,rfl,rfl,?_,h2.hole fun m=>?_⟩
  ·have:=g 0;simp only[Nat.add_zero] at this;by_cases e:h=some j
   ·rw[if_pos e] at h1;rw[if_pos (this.1 e)];exact h1
   ·rw[if_neg e] at h1;rw[if_neg fun e'=>e (this.2 e')];exact h1
  ·have:=g (1+m);rw[←Nat.add_assoc,←Nat.add_assoc] at this;exact this
theorem RowsH.length (hR:∀ x c is,R x c is→c.length=sz):∀ {xs:List α}{h:Option Nat}{j:Nat}{cs:List Value}{is:List Nat},RowsH R sz h j xs cs is→cs.length=xs.length*sz
 |[],_,_,_,_,h=>by rw[h.1];simp
 |x::xs,_,j,cs,is,h=>by
  obtain⟨c,cs',i1,i2,rfl,rfl,h1,h2⟩:=h;have hc:c.length=sz:=by
   split at h1
   ·exact h1.1
   ·exact hR _ _ _ h1
  rw[List.length_append,hc,h2.length hR,List.length_cons,Nat.add_mul,Nat.one_mul,Nat.add_comm]
theorem RowsH.append:∀ {xs ys:List α}{j j':Nat}{cs ds:List Value}{is js:List Nat},RowsH R sz none j xs cs is→RowsH R sz none j' ys ds js→RowsH R sz none j (xs++ys) (cs++ds) (is++js)
 |[],ys,j,j',cs,ds,is,js,h,h'=>by obtain⟨rfl,rfl⟩:=h;exact h'.hole fun m=>by simp
 |x::xs,ys,j,j',cs,ds,is,js,h,h'=>by obtain⟨c,cs',i1,i2,rfl,rfl,h1,h2⟩:=h;exact⟨c,cs'++ds,i1,i2++js,by rw[List.append_assoc],by rw[List.append_assoc],h1,h2.append h'⟩
theorem RowsH.replicate {x:α}{c:List Value}(h:R x c []):∀ (n j:Nat),RowsH R sz none j (List.replicate n x) (List.replicate n c).flatten []
 |0,_=>⟨rfl,rfl⟩
 |n+1,j=>⟨c,_,[],[],rfl,rfl,by rw[if_neg (by simp)];exact h,RowsH.replicate h n (j+1)⟩
theorem RowsH.take (hR:∀ x c is,R x c is→c.length=sz):∀ {xs:List α}{j:Nat}{cs:List Value},RowsH R sz none j xs cs []→∀ n,RowsH R sz none j (xs.take n) (cs.take (n*sz)) []
 |[],j,cs,h,n=>by obtain⟨rfl,_⟩:=h;simp[RowsH]
 |x::xs,j,cs,h,0=>by simp[RowsH]
 |x::xs,j,cs,h,n+1=>by
  obtain⟨c,cs',i1,i2,rfl,e,h1,h2⟩:=h;obtain⟨rfl,rfl⟩:=List.append_eq_nil_iff.1 e.symm;have hc:c.length=sz:=by rw[if_neg (by simp)] at h1;exact hR _ _ _ h1
  refine⟨c,cs'.take (n*sz),[],[],?_,rfl,h1,h2.take hR n⟩;rw[Nat.add_mul,Nat.one_mul,Nat.add_comm,List.take_append,hc,List.take_of_length_le (by omega),Nat.add_sub_cancel_left]
theorem RowsH.set (hR:∀ x c is,R x c is→c.length=sz):∀ {xs:List α}{h h':Option Nat}{j i:Nat}{cs:List Value}{is:List Nat}{x:α}{c':List Value}{inew:List Nat},
  RowsH R sz h j xs cs is→(hi:i<xs.length)→(∀ m,m≠i→(h=some (j+m)↔h'=some (j+m)))→c'.length=sz→(if h'=some (j+i) then inew=[] else R x c' inew) →
  ∃ nz ix nB,is=nz++ix++nB∧RowsH R sz h' j (xs.set i x) (cs.take (i*sz)++c'++cs.drop (i*sz+sz)) (nz++inew++nB)∧(if h=some (j+i) then ix=[] else R xs[i] ((cs.drop (i*sz)).take sz) ix)
 |[],_,_,_,_,_,_,_,_,_,_,hi,_,_,_=>by simp at hi
 |y::ys,h,h',j,0,cs,is,x,c',inew,hr,hi,g,hl,hn=>by
  obtain⟨c,cs',i1,i2,rfl,rfl,h1,h2⟩:=hr;have hc:c.length=sz:=by
   split at h1
   ·exact h1.1
   ·exact hR _ _ _ h1
  have ht:RowsH R sz h' (j+1) ys cs' i2:=h2.hole fun m=>by have:=g (m+1) (by omega);rw[show j+1+m=j+(m+1) by omega];exact this
  refine⟨[],i1,i2,rfl,?_,?_⟩
  ·rw[List.set_cons_zero];refine⟨c',cs',inew,i2,?_,rfl,?_,ht⟩
   ·rw[Nat.zero_mul,List.take_zero,List.nil_append,Nat.zero_add,List.drop_append,hc,Nat.sub_self,List.drop_zero,List.drop_of_length_le (by omega),List.nil_append]
   ·rw[Nat.add_zero] at hn;split
    ·rename_i e;rw[if_pos e] at hn;exact⟨hl,hn⟩
    ·rename_i e;rw[if_neg e] at hn;exact hn
  ·rw[Nat.add_zero];split
   ·rename_i e;rw[if_pos e] at h1;exact h1.2
   ·rename_i e;rw[if_neg e] at h1;rw[Nat.zero_mul,List.drop_zero,List.take_append,hc,Nat.sub_self,List.take_zero,List.append_nil,List.take_of_length_le (by omega)];exact h1
 |y::ys,h,h',j,i+1,cs,is,x,c',inew,hr,hi,g,hl,hn=>by
  obtain⟨c,cs',i1,i2,rfl,rfl,h1,h2⟩:=hr;have hc:c.length=sz:=by
   split at h1
   ·exact h1.1
   ·exact hR _ _ _ h1
  obtain⟨nz,ix,nB,rfl,k1,k2⟩:=RowsH.set hR h2 (i:=i) (h':=h') (x:=x) (c':=c') (inew:=inew) (by simpa using hi) (fun m hm=>by
   have:=g (m+1) (by omega);rw[show j+1+m=j+(m+1) by omega];exact this) hl (by rw[show j+1+i=j+(i+1) by omega];exact hn)
  have e0:(i+1)*sz=sz+i*sz:=by rw[Nat.add_mul,Nat.one_mul,Nat.add_comm]
  refine⟨i1++nz,ix,nB,by simp[List.append_assoc],?_,?_⟩
  ·rw[List.set_cons_succ];refine⟨c,_,i1,nz++inew++nB,?_,by simp[List.append_assoc],?_,k1⟩
   ·have e1:(c++cs').take ((i+1)*sz)=c++cs'.take (i*sz):=by
     rw[e0,List.take_append,hc,List.take_of_length_le (by omega),Nat.add_sub_cancel_left]
    have e2:(c++cs').drop ((i+1)*sz+sz)=cs'.drop (i*sz+sz):=by rw[e0,List.drop_append,hc,List.drop_of_length_le (by omega),List.nil_append];congr 1;omega
    rw[e1,e2];simp[List.append_assoc]
   ·have:=g 0 (by omega);rw[Nat.add_zero] at this;by_cases e:h=some j
    ·rw[if_pos e] at h1;rw[if_pos (this.1 e)];exact h1
    ·rw[if_neg e] at h1;rw[if_neg fun e'=>e (this.2 e')];exact h1
  ·rw[show j+(i+1)=j+1+i by omega];have e3:(c++cs').drop ((i+1)*sz)=cs'.drop (i*sz):=by
    rw[e0,List.drop_append,hc,List.drop_of_length_le (by omega),List.nil_append];congr 1;omega
   rw[e3];exact k2
end
theorem DO.imp {H H':Heap}{ty:Nat}{q:Option Nat}{k:Kind}{xs:List k.T}{h:Option Nat}{v:Value}{is:List Nat}(hd:DO H ty q k xs h v is) (g:∀ i∈is,H'.get i=H.get i):DO H' ty q k xs h v is:=by
 rcases hd with hd|⟨i,cap,c,t,js,h1,rfl,h3,h4,h5,h6⟩
 ·exact .inl hd
 ·exact .inr ⟨i,cap,c,t,js,h1,rfl,h3,by rw[g i List.mem_cons_self];exact h4,h5,h6.imp fun x c uK hr hj=>KO.imp hr fun i hi=>g i (List.mem_cons_of_mem _ (hj i hi))⟩
theorem RowsH.cells {H:Heap}{q:Option Nat}{k:Kind}{sz:Nat}:∀ {xs:List k.T}{h:Option Nat}{j:Nat}{cs:List Value}{is:List Nat},RowsH (KO H q k) sz h j xs cs is→∀ i∈is,∃ c e t,H.get i=some (.cells c e true t)
 |[],_,_,_,_,h,i,hi=>by rw[h.2] at hi;cases hi
 |x::xs,_,j,cs,is,h,i,hi=>by
  obtain⟨c,cs',i1,i2,rfl,rfl,h1,h2⟩:=h;rcases List.mem_append.1 hi with hi|hi
  ·split at h1
   ·rw[h1.2] at hi;cases hi
   ·exact KO.cells h1 i hi
  ·exact h2.cells i hi
theorem DO.cells {H:Heap}{ty:Nat}{q:Option Nat}{k:Kind}{xs:List k.T}{h:Option Nat}{v:Value}{is:List Nat}(hd:DO H ty q k xs h v is):∀ i∈is,∃ c e t,H.get i=some (.cells c e true t):=by
 rcases hd with⟨_,_,rfl⟩|⟨i,cap,c,t,js,h1,rfl,h3,h4,h5,h6⟩
 ·exact fun i hi=>by cases hi
 ·exact fun j hj=>(List.mem_cons.1 hj).elim (fun e=>by subst e;exact⟨_,_,_,h4⟩) (h6.cells j)
theorem DP.open {σ:Heap}{p:Value}{ty:Nat}{q:Option Nat}{k:Kind}{xs:List k.T}{nl:Bool}{h:Option Nat}(hd:DP σ p ty q k xs nl h) :
  ∃ is,is.Nodup∧DO σ ty q k xs h (phd p) is∧(∀ i,Oid p i↔i∈is)∧(nl=true↔phd p=.slice none 0 0):=by
 obtain⟨is,hO,h1,h2,h3,h4,h5⟩:=hd;refine⟨is,h1,h2.imp fun i hi=>?_,fun i=>(hO i).trans (h3 i),h5⟩;obtain⟨b,hb⟩:=(h3 i).2 hi;rw[hb,h4 i b hb]
end Go.V
namespace Go.V
open Go
section
variable {P:Program}{B F:Heap}{pl:Nat→Value}{tb:Nat→Option Bool}{s:St}{env:Env}{σ σ':Heap}
theorem KO.nil {H:Heap}{q:Option Nat}{k:Kind}:KO H q (.list k) [] [.slice none 0 0] []:=by unfold KO;exact .inl ⟨rfl,rfl,rfl⟩
def FrL (Ts:List Nat) (s s':St) (pl pl':Nat→Value) (σ σ':Heap):Prop :=
 ∀ q,q∉Ts→(Q7 s'.own q).live=(Q7 s.own q).live∧pl' q=pl q∧((Q7 s.own q).live=true→∀ i,Oid (pl q) i→σ'.get i=σ.get i)
theorem FrL.mono {Ts rb:List Nat}{s s':St}{pl pl':Nat→Value}{σ σ':Heap}(h:FrL Ts s s' pl pl' σ σ') (hs:∀ t∈Ts,t∈rb):FrL rb s s' pl pl' σ σ':=fun q hq=>h q fun h=>hq (hs q h)
def Z0f (P:Program) (B F:Heap) (tb:Nat→Option Bool) (o:VOp) (evV:Operand→Value) (env:Env) (σ:Heap) (K:SV→St→Prop) (Ts:List Nat) (s:St) (pl:Nat→Value):Prop :=
 ∃ u σ' pl' v s',Q5 o evV σ=some (u,σ')∧K v s'∧(Gam P B F pl' tb s' env σ'∧FrL Ts s s' pl pl' σ σ')∧SR P B pl' tb v u
section
variable {C:Cx}{d:Nat}{ev:Operand→SV}{evV:Operand→Value}{K:SV→St→Prop}
theorem DO.sl {ty:Nat}{q:Option Nat}{k:Kind}{xs:List k.T}{v:Value}{is:List Nat}(hd:DO σ ty q k xs none v is) (hn:is.Nodup) :
  ∃ a cap cs js,v=.slice a xs.length cap∧σ.sl k.size v=some cs∧RowsH (KO σ q k) k.size none 0 xs cs js∧(∀ i∈js,i∈is)∧js.Nodup∧cs.all cellOk=true∧cs.length=xs.length*k.size:=by
 rcases hd with⟨rfl,rfl,rfl⟩|⟨i,cap,c,t,js,rfl,rfl,h1,h3,h4,h5⟩
 ·exact⟨_,_,[],[],rfl,rfl,⟨rfl,rfl⟩,fun i hi=>hi,List.nodup_nil,rfl,by simp⟩
 ·have hl:=h5.length KO.rows_len;refine⟨_,_,c.take (xs.length*k.size),js,rfl,?_,h5,fun i hi=>List.mem_cons_of_mem _ hi,(List.nodup_cons.1 hn).2,(h5.rows (R':=KC σ k) fun _ _ _ h=>h.kc).cellOk,hl⟩;have:=Nat.mul_le_mul_right k.size h1;simp only[Heap.sl,h3];rw[if_pos ⟨trivial,by omega⟩];simp
theorem Ti (ah:∀ x,SR P B pl tb (ev x) (evV x)) (hG:Gam P B F pl tb s env σ) {o:VOp}(h:gnd C d o ev s K):Z0f P B F tb o evV env σ K (Cs d o ev) s pl:=h.elim
end
end
end Go.V
namespace Go.V
open Go
def JK:Nat→Value:=fun _=>poison
def ZA:Nat→Option Bool:=fun _=>none
def hNil:Heap:=⟨fun _=>none,0,fun _ _=>rfl⟩
theorem E7 (B:Heap):hNil.Le B:=⟨Nat.zero_le _,fun i b h=>by cases h⟩
section
variable {P:Program}
mutual
theorem SR.retd {B B':Heap}{pl pl':Nat→Value}{tb tb':Nat→Option Bool}{n:Nat}(hp:∀ j,j<n→pl' j=pl j) :
  ∀ (s:SV) (v:Value),s.ret n=true→SR P B pl tb s v→SR P B' pl' tb' s v
 |.any,_,h,_|.bid _ _,_,h,_|.grd _ _,_,h,_|.sub _ _ _ _,_,h,_|.elp _ _ _ _,_,h,_|.rop _ _ _ _,_,h,_|.cp _ _,_,h,_|.fn _ _ _,_,h,_|.pf _ _ _ _,_,h,_=>by cases h
 |.val k x,v,h,hs=>by simp only[SR] at hs ⊢;exact KC.flat h hs
 |.nilS,v,_,hs|.nilP,v,_,hs|.nilM,v,_,hs|.nilF,v,_,hs=>by simp only[SR] at hs ⊢;exact hs
 |.lst j,v,h,hs=>by
  have hj:j<n:=by simpa [SV.ret,Nat.blt_eq] using h
  simp only[SR] at hs ⊢;rw[hp j hj];exact hs
 |.map j,v,h,hs=>by
  have hj:j<n:=by simpa [SV.ret,Nat.blt_eq] using h
  simp only[SR] at hs ⊢;rw[hp j hj];exact hs
 |.dd j w,v,h,hs=>by
  cases w with
  |out =>
   have hj:j<n:=by simpa [SV.ret,Nat.blt_eq] using h
   simp only[SR] at hs ⊢;rw[hp j hj];exact hs
  |_=>cases h
 |.box j off,v,h,hs=>by
  have hj:j<n:=by simpa [SV.ret,Nat.blt_eq] using h
  simp only[SR] at hs ⊢;rw[hp j hj];exact hs
 |.agg l,v,h,hs=>by simp only[SR] at hs ⊢;obtain⟨cs,h1,h2⟩:=hs;exact⟨cs,h1,SRs.retd hp l cs h h2⟩
 |.tup l,v,h,hs=>by simp only[SR] at hs ⊢;obtain⟨cs,h1,h2⟩:=hs;exact⟨cs,h1,SRs.retd hp l cs h h2⟩
theorem SRs.retd {B B':Heap}{pl pl':Nat→Value}{tb tb':Nat→Option Bool}{n:Nat}(hp:∀ j,j<n→pl' j=pl j) :
  ∀ (s:List SV) (v:List Value),SVs.ret n s=true→SRs P B pl tb s v→SRs P B' pl' tb' s v
 |[],v,_,hs=>by simp only[SRs] at hs ⊢;exact hs
 |s::ss,v,h,hs=>by simp only[SVs.ret,Bool.and_eq_true] at h;simp only[SRs] at hs ⊢;obtain⟨x,y,h1,h2,h3⟩:=hs;exact⟨x,y,h1,SR.retd hp s x h.1 h2,SRs.retd hp ss y h.2 h3⟩
end
mutual
theorem SR.ren {B:Heap}{pl pl':Nat→Value}{tb tb':Nat→Option Bool}{n d nt:Nat}(hp:∀ j,j<n→pl' (d+j*nt)=pl j) :
  ∀ (s:SV) (v:Value),s.ret n=true→SR P B pl tb s v→SR P B pl' tb' (s.ren d nt) v
 |.any,_,h,_|.bid _ _,_,h,_|.grd _ _,_,h,_|.sub _ _ _ _,_,h,_|.elp _ _ _ _,_,h,_|.rop _ _ _ _,_,h,_|.cp _ _,_,h,_|.fn _ _ _,_,h,_|.pf _ _ _ _,_,h,_=>by cases h
 |.val k x,v,h,hs=>by simp only[SR,SV.ren] at hs ⊢;exact hs
 |.nilS,v,_,hs|.nilP,v,_,hs|.nilM,v,_,hs|.nilF,v,_,hs=>by simp only[SR,SV.ren] at hs ⊢;exact hs
 |.lst j,v,h,hs=>by
  have hj:j<n:=by simpa [SV.ret,Nat.blt_eq] using h
  simp only[SR,SV.ren] at hs ⊢;rw[hp j hj];exact hs
 |.map j,v,h,hs=>by
  have hj:j<n:=by simpa [SV.ret,Nat.blt_eq] using h
  simp only[SR,SV.ren] at hs ⊢;rw[hp j hj];exact hs
 |.dd j w,v,h,hs=>by
  cases w with
  |out =>
   have hj:j<n:=by simpa [SV.ret,Nat.blt_eq] using h
   simp only[SR,SV.ren] at hs ⊢;rw[hp j hj];exact hs
  |_=>cases h
 |.box j off,v,h,hs=>by
  have hj:j<n:=by simpa [SV.ret,Nat.blt_eq] using h
  simp only[SR,SV.ren] at hs ⊢;rw[hp j hj];exact hs
 |.agg l,v,h,hs=>by simp only[SR,SV.ren] at hs ⊢;obtain⟨cs,h1,h2⟩:=hs;exact⟨cs,h1,SRs.ren hp l cs h h2⟩
 |.tup l,v,h,hs=>by simp only[SR,SV.ren] at hs ⊢;obtain⟨cs,h1,h2⟩:=hs;exact⟨cs,h1,SRs.ren hp l cs h h2⟩
theorem SRs.ren {B:Heap}{pl pl':Nat→Value}{tb tb':Nat→Option Bool}{n d nt:Nat}(hp:∀ j,j<n→pl' (d+j*nt)=pl j) :
  ∀ (s:List SV) (v:List Value),SVs.ret n s=true→SRs P B pl tb s v→SRs P B pl' tb' (SVs.ren d nt s) v
 |[],v,_,hs=>by simp only[SRs,SVs.ren] at hs ⊢;exact hs
 |s::ss,v,h,hs=>by simp only[SVs.ret,Bool.and_eq_true] at h;simp only[SRs,SVs.ren] at hs ⊢;obtain⟨x,y,h1,h2,h3⟩:=hs;exact⟨x,y,h1,SR.ren hp s x h.1 h2,SRs.ren hp ss y h.2 h3⟩
end
theorem MR.flat {B B':Heap}{kk vk:Kind}(h1:kk.flat=true) (h2:vk.flat=true):∀ {m:List (kk.T×vk.T)}{es:List Yq},MR B kk vk m es→MR B' kk vk m es
 |[],es,h=>h
 |m::ms,es,h=>by obtain⟨e,fY,k1,k2,k3,k4⟩:=h;exact⟨e,fY,k1,k2.flat h1,k3.flat h2,MR.flat h1 h2 k4⟩
theorem OR.retd {B B':Heap}{pl pl':Nat→Value}{tb tb':Nat→Option Bool}{σ σ':Heap}{p:Value}{b:OB}(hb:b.ret=true) (h:OR P B pl tb σ p b) (hg:∀ i,Oid p i→σ'.get i=σ.get i):OR P B' pl' tb' σ' p b:=by
 cases b with
 |dead=>trivial
 |lst ty k xs nl =>
  rcases h with h|⟨h0,i,cap,c,t,h1,h2,h3,h4,h5⟩
  ·exact .inl h
  ·exact .inr ⟨h0,i,cap,c,t,h1,h2,by rw[hg i (by rw[h1];rfl)];exact h3,h4,h5.mono fun _ _ e=>KC.flat hb e⟩
 |cells l u =>obtain⟨i,c,e,t,h1,h2,h3,h4⟩:=h;exact⟨i,c,e,t,h1,by rw[hg i (by rw[h1];rfl)];exact h2,SRs.retd (n:=0) (fun j hj=>by omega) l c hb h3,h4⟩
 |map kk vk m =>simp only[OB.ret,Bool.and_eq_true] at hb;obtain⟨i,es,clock,h1,h2,h3⟩:=h;exact⟨i,es,clock,h1,by rw[hg i (by rw[h1];rfl)];exact h2,h3.1.flat hb.1 hb.2,h3.2⟩
 |stk l vals=>cases hb
 |deep ty q k xs nl hh=>exact DP.mono h hg
 |iter kk vk m dn=>cases hb
 |lpf l q s=>cases hb
def Ls:(k:Kind)→k.T→List Value
 |.i ik,x=>[.int ik x]
 |.bo,x=>[.bool x]
 |.st,x=>[.string ⟨x.toArray⟩]
 |.list _,_=>[]
 |.pair a b,x=>Ls a x.1++Ls b x.2
def Q3g:OB→Option Blk
 |.lst ty k xs nl=>if nl then none else some (.cells (xs.map (Ls k)).flatten ⟨k.size,ty⟩ true false)
 |_=>none
def PL (σ:Heap) (bs:List OB):Heap where
 get i:=if i<σ.n then σ.get i else (bs[i-σ.n]?).bind Q3g
 n:=σ.n+bs.length
 wf i h:=by rw[if_neg (by omega),List.getElem?_eq_none (by omega)];rfl
def Rh (σ:Heap) (bs:List OB) (j:Nat):Value:=match bs[j]? with
 |some (.lst _ _ xs nl)=>if nl then .slice none 0 0 else .slice (some ⟨σ.n+j,0,none⟩) xs.length xs.length
 |_=>poison
mutual
def U7 (p:Nat→Value):SV→Value
 |.val k x=>(Ls k x).headD poison
 |.nilS=>.slice none 0 0
 |.nilP=>.pointer none
 |.nilM=>.map none
 |.nilF=>.nilFunc
 |.lst j=>p j
 |.agg l=>.agg (Kb p l).toArray
 |.tup l=>.tuple (Kb p l).toArray
 |_=>poison
def Kb (p:Nat→Value):List SV→List Value
 |[]=>[]
 |s::ss=>U7 p s::Kb p ss
end
def Dead (σ σ':Heap):Prop:=σ.n≤σ'.n∧∀ i,i<σ.n→σ.get i=none→σ'.get i=none
theorem Dead.refl (σ:Heap):Dead σ σ:=⟨Nat.le_refl _,fun _ _ h=>h⟩
theorem Dead.trans {σ0 σ σ':Heap}(h:Dead σ0 σ) (h':Dead σ σ'):Dead σ0 σ':=⟨Nat.le_trans h.1 h'.1,fun i hi hg=>h'.2 i (Nat.lt_of_lt_of_le hi h.1) (h.2 i hi hg)⟩
def Ret (P:Program) (σ:Heap) (v:SV) (bs:List OB) (u:Value) (σ':Heap):Prop :=
 (σ.Le σ'∧Dead σ σ')∧(bs=[]→σ'=σ)∧∃ pl:Nat→Value,(∀ j b,bs[j]?=some b→OR P hNil pl ZA σ' (pl j) b∧∀ i,Oid (pl j) i→σ.get i=none∧σ.n≤i) ∧
  (∀ j j' i,j<bs.length→j'<bs.length→j≠j'→Oid (pl j) i→Oid (pl j') i→False)∧SR P hNil pl ZA v u
def Oz (P:Program) (ap:SV→List SV→Option (Prop×SV)):Prop :=
 ∀ σ f args c v fV vs,SR P σ JK ZA f fV→SRs P σ JK ZA args vs→ap f args=some (c,v)→c→v.ret 0=true∧∃ g a b,fV=.func (.func g) a b∧VCalled P g (a.toList++vs++b.toList) σ fun u σ'=>σ'=σ∧SR P hNil JK ZA v u
def OkC (P:Program) (f:Nat) (sp:CSp):Prop :=
 ∀ ap,Oz P ap→∀ σ args vs c v bs,SRs P σ JK ZA args vs→sp ap args=some (c,v,bs)→v.ret bs.length=true→bs.all OB.ret=true→c→(VCalled P f vs σ fun u σ'=>Ret P σ v bs u σ') ∧
  (bs.all OB.isL=true→U4 v=true→VCalled P f vs σ fun u σ'=>u=U7 (Rh σ bs) v∧σ'=PL σ bs)
def CsOk (P:Program) (cs:List (Nat×CSp)):Prop:=∀ f sp,Qq cs f=some sp→OkC P f sp
theorem VCalled.mono {f:FuncId}{args:List Value}{σ:Heap}{R R':Value→Heap→Prop}(h:VCalled P f args σ R) (hr:∀ v σ',R v σ'→R' v σ'):VCalled P f args σ R':=by
 intro ρ w az hH hL;rcases h ρ w az hH hL with⟨h1,h2⟩|⟨c,h1,h2⟩
 ·exact .inl ⟨h1,h2.mono fun _ _ ⟨c,he,hg⟩=>⟨c,he,hg.mono hr⟩⟩
 ·exact .inr ⟨c,h1.mono hr,h2⟩
theorem P_ {B:Heap}{pl:Nat→Value}{tb:Nat→Option Bool}{k:Kind}{v:SV}{u:Value}{x:k.T}(h:gap.asV k v=some x) (hs:SR P B pl tb v u):KV B k x u:=by
 unfold gap.asV at h;cases bM:k.one with
 |true =>rw[bM] at h;exact .inl ⟨bM,QM h (by simp only[SRs];exact⟨u,[],rfl,hs,rfl⟩)⟩
 |false =>
  rw[bM] at h;simp only[_root_.cond_false] at h;split at h
  ·simp only[SR] at hs;obtain⟨cs,rfl,hs⟩:=hs;exact .inr ⟨bM,cs,rfl,QM h hs⟩
  ·cases h
theorem Rv {B:Heap}{pl:Nat→Value}{tb:Nat→Option Bool}:∀ {ks:List Kind}{args:List SV}{x:AT ks}{vs:List Value},gap.deca ks args=some x→SRs P B pl tb args vs→RU B ks x vs
 |[],[],x,vs,_,hs=>by simp only[SRs] at hs;exact hs
 |[],_::_,x,vs,h,_=>by cases h
 |[k],[],x,vs,h,_=>by cases h
 |[k],[v],x,vs,h,hs=>by obtain⟨u,rfl,h1⟩:=hs.one;exact⟨u,rfl,P_ h h1⟩
 |[k],_::_::_,x,vs,h,_=>by cases h
 |k::k'::ks,[],x,vs,h,_=>by cases h
 |k::k'::ks,v::args,x,vs,h,hs=>by
  simp only[gap.deca] at h;split at h
  ·rename_i y z h1 h2;obtain rfl:=osj h;simp only[SRs] at hs;obtain⟨u,us,rfl,h3,h4⟩:=hs;exact⟨u,us,rfl,P_ h1 h3,Rv h2 h4⟩
  ·cases h
theorem Ret.flat {σ σ':Heap}{v:SV}{u:Value}(h:Ret P σ v [] u σ') (hv:v.ret 0=true):σ'=σ∧SR P hNil JK ZA v u:=by obtain⟨_,h2,pl,_,_,h5⟩:=h;exact⟨h2 rfl,h5.retd (fun j hj=>by omega) _ _ hv⟩
theorem KV.vcall {B σ:Heap}(hB:B.Le σ) {k:Kind}{x:k.T}{v:Value}(h:KV B k x v):KV σ k x v:=by
 rcases h with⟨h1,h2⟩|⟨h1,cs,h2,h3⟩
 ·exact .inl ⟨h1,h2.mono hB⟩
 ·exact .inr ⟨h1,cs,h2,h3.mono hB⟩
theorem BO:∀ {k:Kind}{x:k.T},k.flat=true→SVs.ret 0 (Mm k x)=true
 |.i _,_,_|.bo,_,_|.st,_,_=>rfl
 |.list _,_,h=>by cases h
 |.pair a b,x,h=>by
  simp only[Kind.flat,Bool.and_eq_true] at h;have app:∀ l m:List SV,SVs.ret 0 l=true→SVs.ret 0 m=true→SVs.ret 0 (l++m)=true:=by
   intro l m hl hm;induction l with
   |nil=>exact hm
   |cons s l ih =>simp only[SVs.ret,Bool.and_eq_true,List.cons_append] at hl ⊢;exact⟨hl.1,ih hl.2⟩
  exact app _ _ (BO h.1) (BO h.2)
theorem Q2o {k:Kind}{x:k.T}(h:k.flat=true):(Q28 k x).ret 0=true:=by
 cases k with
 |pair a b=>exact BO (k:=.pair a b) h
 |list k=>cases h
 |_=>rfl
theorem DJ {cs:List (Nat×CSp)}(h:CsOk P cs):∀ n,Oz P (gap cs n)
 |0=>fun σ f args c v fV vs _ _ h=>by cases h
 |n+1=>by
  intro σ f args c v fV vs hf ha hg hc;cases f with
  |fn g a b =>
   simp only[gap] at hg;split at hg
   ·rename_i sp eu;split at hg
    ·rename_i c' v' heq;cases hv:v'.ret 0 with
     |false=>rw[hv] at hg;cases hg
     |true =>rw[hv] at hg;simp only[_root_.cond_true,Option.some.injEq,Prod.mk.injEq] at hg;obtain⟨rfl,rfl⟩:=hg;simp only[SR] at hf;obtain⟨x,y,rfl,h1,h2⟩:=hf;refine⟨hv,g,x.toArray,y.toArray,rfl,?_⟩;have:=(h g sp eu (gap cs n) (DJ h n) σ (a++args++b) (x++vs++y) c' v' [] ((h1.append ha).append h2) heq hv rfl hc).1;simpa using this.mono fun u σ' hr=>hr.flat hv
    ·cases hg
   ·cases hg
  |pf ks r cI p =>
   simp only[gap] at hg;split at hg
   ·rename_i x hx;cases hr:r.flat with
    |false=>rw[hr] at hg;cases hg
    |true =>rw[hr] at hg;obtain⟨rfl,rfl⟩:=QX hg;simp only[SR] at hf;obtain⟨g,first,cap,rfl,aB⟩:=hf;have h2:=aB x hc σ vs (Heap.Le.refl _) (Rv hx ha);have dq:=Q2o (x:=p x) hr;exact⟨dq,g,first,cap,rfl,h2.mono fun u σ' hu=>⟨hu.1,(Wc (P:=P) (pl:=JK) (tb:=ZA) hu.2).retd (fun j hj=>by omega) _ _ dq⟩⟩
   ·cases hg
  |_=>cases hg
end
end Go.V
namespace Go.V
open Go
theorem DropTo.rename2 {σ0 σf σ':Heap}{v v':Value}(π:Nat→Nat) (h1:σ0.n≤σ'.n)
  (h2:∀ i,i<σ0.n→π i=i∧σ'.get i=σf.get i∧(σf.get i=σ0.get i∨∃ b,σf.get i=some b∧b.plain=true))
  (h3:∀ i,σ0.n≤i→i<σ'.n→σ0.n≤π i∧((σ'.get i=none∧σf.get (π i)=none)∨∃ b' b,σ'.get i=some b'∧σf.get (π i)=some b∧BRen σ'.n π b' b))
  (h4:∀ i j,σ0.n≤i→i<σ'.n→σ0.n≤j→j<σ'.n→π i=π j→i=j) (h5:Ren σ'.n π v' v):DropTo σ0 v σf v' σ':=by
 intro ρ0 w0 ρ w c fD hE hH hv;have hπ:∀ i,i<σ0.n→π i=i:=fun i hi=>(h2 i hi).1;have aI:∀ i b',σ'.get i=some b'→∃ b,σf.get (π i)=some b∧BRen σ'.n π b' b:=fun i b' hb=>by
  have hi:=σ'.lt hb;rcases Nat.lt_or_ge i σ0.n with ai|bt
  ·obtain⟨k1,k2,k3⟩:=h2 i ai;rw[k1];rw[k2] at hb;refine⟨b',hb,?_⟩;rcases k3 with k3|⟨b,k3,k4⟩
   ·rw[k3] at hb;obtain⟨p,_,hB⟩:=fD.live i b' hb;exact hB.ren h1 hπ
   ·rw[k3] at hb;obtain rfl:=osj hb;exact BRen.plain k4
  ·obtain⟨_,⟨k1,_⟩|⟨b1,b,k1,k2,k3⟩⟩:=h3 i bt hi
   ·rw[k1] at hb;cases hb
   ·rw[k1] at hb;obtain rfl:=osj hb;exact⟨b,k2,k3⟩
 have dJ:∀ i j,i<σ'.n→j<σ'.n→π i=π j→i=j:=fun i j hi hj he=>by
  rcases Nat.lt_or_ge i σ0.n with ai|bt<;>rcases Nat.lt_or_ge j σ0.n with bS|ia
  ·rw[hπ i ai,hπ j bS] at he;exact he
  ·have:=(h3 j ia hj).1;rw[hπ i ai] at he;omega
  ·have:=(h3 i bt hi).1;rw[hπ j bS] at he;omega
  ·exact h4 i j bt hi ia hj he
 have hX:Ext ρ0 σ0 w0 (fun i=>if i<σ'.n then ρ (π i) else none) σ' w:=by
  refine⟨hE.os,hE.tape,hE.output,hE.size,hE.keep,?_,h1,fun i hi p hp=>?_⟩
  ·rintro B hB ⟨i,p,b,hp,hb,hw,rfl⟩;change (if i<σ'.n then ρ (π i) else none)=some p at hp;split at hp
   ·obtain⟨b0,bg,bY⟩:=aI i b hb;exact hE.wr _ hB ⟨π i,p,b0,hp,bg,by rw[←bY.wr];exact hw,rfl⟩
   ·cases hp
  ·change (if i<σ'.n then ρ (π i) else none)=some p at hp;split at hp
   ·rw[hπ i hi] at hp;exact hE.pl i hi p hp
   ·cases hp
 refine⟨fun i=>if i<σ'.n then ρ (π i) else none,h5.rel hv,fD.ext ⟨fun i b' hb=>?_,fun i hi=>?_,fun i p hp=>?_,fun i j p q b bT hp hq hb hw hx=>?_⟩ hX,hX⟩
 ·obtain⟨b,bg,bY⟩:=aI i b' hb;obtain⟨p,hp,hB⟩:=hH.live _ b bg;exact⟨p,by simp[σ'.lt hb,hp],bY.rel hB⟩
 ·show (if i<σ'.n then ρ (π i) else none)=none;split
  ·rename_i ai;rcases Nat.lt_or_ge i σ0.n with bS|bt
   ·obtain⟨k1,k2,_⟩:=h2 i bS;rw[k1];exact hH.dead i (by rw[←k2];exact hi)
   ·obtain⟨_,⟨_,k2⟩|⟨b1,b,k1,_⟩⟩:=h3 i bt ai
    ·exact hH.dead _ k2
    ·rw[k1] at hi;cases hi
  ·rfl
 ·change (if i<σ'.n then ρ (π i) else none)=some p at hp;split at hp
  ·exact hH.lt _ p hp
  ·cases hp
 ·change (if i<σ'.n then ρ (π i) else none)=some p at hp;change (if j<σ'.n then ρ (π j) else none)=some q at hq;split at hp
  ·rename_i hi;split at hq
   ·rename_i hj;obtain⟨b0,bg,bY⟩:=aI i b hb;exact hH.sep (π i) (π j) p q b0 (fun e=>bT (dJ i j hi hj e)) hp hq bg (by rw[←bY.wr];exact hw) hx
   ·cases hq
  ·cases hp
theorem KC.enc {h:Heap}:∀ {k:Kind}{x:k.T}{cs:List Value},k.flat=true→KC h k x cs→cs=Ls k x
 |.i _,_,_,_,e|.bo,_,_,_,e|.st,_,_,_,e=>e
 |.list _,_,_,f,_=>by cases f
 |.pair a b,x,cs,f,e=>by simp only[Kind.flat,Bool.and_eq_true] at f;obtain⟨c1,c2,rfl,h1,h2⟩:=e;rw[KC.enc f.1 h1,KC.enc f.2 h2];rfl
theorem Rows.enc {h:Heap}{k:Kind}(hk:k.flat=true) {xs:List k.T}{cs:List Value}(hr:Rows (KC h k) xs cs):cs=(xs.map (Ls k)).flatten:=by
 induction hr with
 |nil=>rfl
 |cons h _ ih=>rw[List.map_cons,List.flatten_cons,←ih,KC.enc hk h]
theorem Bo:∀ {k:Kind}{x:k.T},k.flat=true→(Ls k x).all Qx=true
 |.i _,_,_|.bo,_,_|.st,_,_=>rfl
 |.list _,_,h=>by cases h
 |.pair a b,x,h=>by simp only[Kind.flat,Bool.and_eq_true] at h;simp only[Ls,List.all_append,Bool.and_eq_true];exact⟨Bo h.1,Bo h.2⟩
section
variable {P:Program}
mutual
theorem UI {B:Heap}{pl:Nat→Value}{tb:Nat→Option Bool}{n:Nat}:∀ (s:SV) (v:Value),s.ret n=true→U4 s=true→SR P B pl tb s v→v=U7 pl s
 |.val k x,v,h,_,hs=>by simp only[SR] at hs;have:=KC.enc h hs;simp only[U7,←this,List.headD_cons]
 |.nilS,v,_,_,hs|.nilP,v,_,_,hs|.nilM,v,_,_,hs|.nilF,v,_,_,hs=>by simp only[SR] at hs;exact hs
 |.lst j,v,_,_,hs=>by simp only[SR] at hs;exact hs.1
 |.agg l,v,h,hb,hs=>by simp only[SR] at hs;obtain⟨cs,rfl,h2⟩:=hs;rw[GV l cs h hb h2];rfl
 |.tup l,v,h,hb,hs=>by simp only[SR] at hs;obtain⟨cs,rfl,h2⟩:=hs;rw[GV l cs h hb h2];rfl
 |.box _ _,_,_,hb,_|.map _,_,_,hb,_=>by cases hb
 |.any,_,h,_,_|.bid _ _,_,h,_,_|.grd _ _,_,h,_,_|.sub _ _ _ _,_,h,_,_|.elp _ _ _ _,_,h,_,_|.rop _ _ _ _,_,h,_,_|.cp _ _,_,h,_,_|.fn _ _ _,_,h,_,_|.pf _ _ _ _,_,h,_,_=>by cases h
theorem GV {B:Heap}{pl:Nat→Value}{tb:Nat→Option Bool}{n:Nat}:∀ (s:List SV) (v:List Value),SVs.ret n s=true→Mc s=true→SRs P B pl tb s v→v=Kb pl s
 |[],v,_,_,hs=>by simp only[SRs] at hs;exact hs
 |s::ss,v,h,hb,hs=>by simp only[SVs.ret,Bool.and_eq_true] at h;simp only[Mc,Bool.and_eq_true] at hb;simp only[SRs] at hs;obtain⟨x,y,rfl,h1,h2⟩:=hs;rw[UI s x h.1 hb.1 h1,GV ss y h.2 hb.2 h2];rfl
end
theorem Q11 {k:Kind}{x:k.T}(h:k.flat=true):Qx ((Ls k x).headD poison)=true∨(Ls k x).headD poison=poison:=by
 have:=Bo (x:=x) h;cases e:Ls k x with
 |nil=>exact .inr rfl
 |cons a l=>rw[e] at this;simp only[List.all_cons,Bool.and_eq_true] at this;exact .inl this.1
mutual
theorem Et {n m:Nat}{π:Nat→Nat}{p q:Nat→Value}(h:∀ j,j<m→Ren n π (p j) (q j)):∀ (s:SV),s.ret m=true→U4 s=true→Ren n π (U7 p s) (U7 q s)
 |.val k x,hr,_=>by
  simp only[U7];rcases Q11 (x:=x) hr with h|h
  ·exact .plain _ h
  ·rw[h];exact .poison _
 |.nilS,_,_|.nilP,_,_|.nilM,_,_|.nilF,_,_=>.plain _ rfl
 |.lst j,hr,_=>h j (by simpa [SV.ret,Nat.blt_eq] using hr)
 |.agg l,hr,hb=>by have:=Pv h l hr hb;simp only[U7];refine .agg _ _ (by simpa using this.1) fun i h1 h2=>this.2 i _ _ (by simp) (by simp)
 |.tup l,hr,hb=>by have:=Pv h l hr hb;simp only[U7];refine .tuple _ _ (by simpa using this.1) fun i h1 h2=>this.2 i _ _ (by simp) (by simp)
 |.box _ _,_,hb|.map _,_,hb=>by cases hb
 |.any,h,_|.bid _ _,h,_|.grd _ _,h,_|.sub _ _ _ _,h,_|.elp _ _ _ _,h,_|.rop _ _ _ _,h,_|.cp _ _,h,_|.fn _ _ _,h,_|.pf _ _ _ _,h,_=>by cases h
theorem Pv {n m:Nat}{π:Nat→Nat}{p q:Nat→Value}(h:∀ j,j<m→Ren n π (p j) (q j)):∀ (s:List SV),SVs.ret m s=true→Mc s=true→LRen n π (Kb p s) (Kb q s)
 |[],_,_=>⟨rfl,fun i v c hv=>by simp[Kb] at hv⟩
 |s::ss,hr,hb=>by
  simp only[SVs.ret,Bool.and_eq_true] at hr;simp only[Mc,Bool.and_eq_true] at hb;have h1:=Et h s hr.1 hb.1;have h2:=Pv h ss hr.2 hb.2;refine⟨by simp[Kb,h2.1],fun i v c hv hc=>?_⟩;cases i with
  |zero=>simp[Kb] at hv hc;subst hv;subst hc;exact h1
  |succ i=>simp[Kb] at hv hc;exact h2.2 i v c hv hc
end
mutual
theorem Cc {m:Nat}{S:Nat→Prop}{p q:Nat→Value}(h:∀ j,j<m→Weak S (p j) (q j)):∀ (s:SV),s.ret m=true→U4 s=true→Weak S (U7 p s) (U7 q s)
 |.val k x,_,_=>.refl _
 |.nilS,_,_|.nilP,_,_|.nilM,_,_|.nilF,_,_=>.refl _
 |.lst j,hr,_=>h j (by simpa [SV.ret,Nat.blt_eq] using hr)
 |.agg l,hr,hb=>by have:=BN h l hr hb;simp only[U7];exact .agg _ _ this.1 this.2
 |.tup l,hr,hb=>by have:=BN h l hr hb;simp only[U7];exact .tuple _ _ this.1 this.2
 |.box _ _,_,hb|.map _,_,hb=>by cases hb
 |.any,h,_|.bid _ _,h,_|.grd _ _,h,_|.sub _ _ _ _,h,_|.elp _ _ _ _,h,_|.rop _ _ _ _,h,_|.cp _ _,h,_|.fn _ _ _,h,_|.pf _ _ _ _,h,_=>by cases h
theorem BN {m:Nat}{S:Nat→Prop}{p q:Nat→Value}(h:∀ j,j<m→Weak S (p j) (q j)):∀ (s:List SV),SVs.ret m s=true→Mc s=true→(Kb p s).length=(Kb q s).length∧∀ (i:Nat) (a b:Value),(Kb p s)[i]?=some a→(Kb q s)[i]?=some b→Weak S a b
 |[],_,_=>⟨rfl,fun i v c hv=>by simp[Kb] at hv⟩
 |s::ss,hr,hb=>by
  simp only[SVs.ret,Bool.and_eq_true] at hr;simp only[Mc,Bool.and_eq_true] at hb;have h1:=Cc h s hr.1 hb.1;have h2:=BN h ss hr.2 hb.2;refine⟨by simp[Kb,h2.1],fun i v c hv hc=>?_⟩;cases i with
  |zero=>simp[Kb] at hv hc;subst hv;subst hc;exact h1
  |succ i=>simp[Kb] at hv hc;exact h2.2 i v c hv hc
end
theorem KC.ofEnc {h:Heap}:∀ {k:Kind}{x:k.T},k.flat=true→KC h k x (Ls k x)
 |.i _,_,_|.bo,_,_|.st,_,_=>by simp[KC,Ls]
 |.list _,_,f=>by cases f
 |.pair a b,x,f=>by simp only[Kind.flat,Bool.and_eq_true] at f;exact⟨_,_,rfl,KC.ofEnc f.1,KC.ofEnc f.2⟩
theorem Rows.ofEnc {h:Heap}{k:Kind}(hk:k.flat=true):∀ xs:List k.T,Rows (KC h k) xs (xs.map (Ls k)).flatten
 |[]=>.nil
 |x::xs=>by rw[List.map_cons,List.flatten_cons];exact .cons (KC.ofEnc hk) (Rows.ofEnc hk xs)
mutual
theorem Sk {pl:Nat→Value}{m:Nat}(h:∀ j,j<m→∃ a n c,pl j=.slice a n c):∀ (s:SV),s.ret m=true→U4 s=true→SR P hNil pl ZA s (U7 pl s)
 |.val k x,hr,hb=>by have h1:=KC.ofEnc (h:=hNil) (x:=x) hr;have h2:=KC.length h1;rw[Kind.one_size hb] at h2;obtain⟨c,e⟩:=List.length_eq_one_iff.1 h2;simp only[U7,SR,e,List.headD_cons];rw[e] at h1;exact h1
 |.nilS,_,_|.nilP,_,_|.nilM,_,_|.nilF,_,_=>by simp[U7,SR]
 |.lst j,hr,_=>by simp only[U7,SR];exact⟨trivial,h j (by simpa [SV.ret,Nat.blt_eq] using hr)⟩
 |.agg l,hr,hb=>by simp only[U7,SR];exact⟨_,rfl,Lm h l hr hb⟩
 |.tup l,hr,hb=>by simp only[U7,SR];exact⟨_,rfl,Lm h l hr hb⟩
 |.box _ _,_,hb|.map _,_,hb=>by cases hb
 |.any,h,_|.bid _ _,h,_|.grd _ _,h,_|.sub _ _ _ _,h,_|.elp _ _ _ _,h,_|.rop _ _ _ _,h,_|.cp _ _,h,_|.fn _ _ _,h,_|.pf _ _ _ _,h,_=>by cases h
theorem Lm {pl:Nat→Value}{m:Nat}(h:∀ j,j<m→∃ a n c,pl j=.slice a n c):∀ (s:List SV),SVs.ret m s=true→Mc s=true→SRs P hNil pl ZA s (Kb pl s)
 |[],_,_=>by simp[Kb,SRs]
 |s::ss,hr,hb=>by simp only[SVs.ret,Bool.and_eq_true] at hr;simp only[Mc,Bool.and_eq_true] at hb;simp only[Kb,SRs];exact⟨_,_,rfl,Sk h s hr.1 hb.1,Lm h ss hr.2 hb.2⟩
end
theorem Q7r {σ:Heap}{bs:List OB}(hl:bs.all OB.isL=true) {j:Nat}(hj:j<bs.length):∃ a n c,Rh σ bs j=.slice a n c:=by
 have hb:=List.all_eq_true.1 hl _ (List.getElem_mem hj);simp only[Rh,List.getElem?_eq_getElem hj];cases e:bs[j] with
 |lst ty k xs nl=>cases nl<;>simp
 |_=>rw[e] at hb;cases hb
theorem Ib {σ0 σf:Heap}(hA:Agree σ0 σf) (hn:σ0.n≤σf.n) {v:SV}{bs:List OB}(hv:v.ret bs.length=true) (ct:U4 v=true) (hb:bs.all OB.ret=true) (hl:bs.all OB.isL=true) {pl:Nat→Value}{u:Value}
  (aj:∀ j b,bs[j]?=some b→OR P hNil pl ZA σf (pl j) b∧∀ i,oid (pl j)=some i→σ0.n≤i)
  (de:∀ j j' i,j<bs.length→j'<bs.length→j≠j'→oid (pl j)=some i→oid (pl j')=some i→False) (hu:SR P hNil pl ZA v u) :
  DropTo σ0 u σf (U7 (Rh σ0 bs) v) (PL σ0 bs):=by
 have bZ:=UI v u hv ct hu;subst bZ;have kind:∀ j,j<bs.length→∃ ty k xs nl,bs[j]?=some (.lst ty k xs nl)∧k.flat=true∧((nl=true∧xs=[]∧pl j=.slice none 0 0)∨(nl=false∧∃ i cap c t,pl j=.slice (some ⟨i,0,none⟩) xs.length cap∧xs.length≤cap∧σ0.n≤i∧σf.get i=some (.cells c ⟨k.size,ty⟩ true t)∧c.take (xs.length*k.size)=(xs.map (Ls k)).flatten∧Rows (KC hNil k) xs (xs.map (Ls k)).flatten)):=by
  intro j hj;have e:=List.getElem?_eq_getElem hj;have h1:=List.all_eq_true.1 hb _ (List.getElem_mem hj);have h2:=List.all_eq_true.1 hl _ (List.getElem_mem hj);obtain⟨ho,hi⟩:=aj j _ e;cases cG:bs[j] with
  |lst ty k xs nl =>
   rw[cG] at e ho h1;refine⟨ty,k,xs,nl,e,h1,?_⟩;rcases ho with⟨k1,k2,k3⟩|⟨k0,i,cap,c,t,k1,k2,k3,k4,k5⟩
   ·exact .inl ⟨k1,k2,k3⟩
   ·have k6:=Rows.enc h1 k5;exact .inr ⟨k0,i,cap,c,t,k1,k2,hi i (by rw[k1];rfl),k3,k6,by rw[←k6];exact k5⟩
  |_=>rw[cG] at h2;cases h2
 let S:Nat→Bool:=fun i=>(List.range bs.length).any fun j=>decide (oid (pl j)=some i);have hS:∀ i,S i=true↔∃ j,j<bs.length∧oid (pl j)=some i:=fun i=>by simp only[S,List.any_eq_true,List.mem_range,decide_eq_true_eq]
 let σw:Heap:=⟨fun i=>if S i=true then ((List.range bs.length).find? fun j=>decide (oid (pl j)=some i)).bind fun j=>(bs[j]?).bind Q3g else σf.get i,σf.n,fun i hi=>by
  by_cases h:S i=true
  ·obtain⟨j,hj,a7⟩:=(hS i).1 h;obtain⟨ty,k,xs,nl,_,_,h3⟩:=kind j hj;rcases h3 with⟨_,_,k3⟩|⟨_,i',cap,c,t,k1,_,_,k3,_⟩
   ·rw[k3] at a7;cases a7
   ·rw[k1] at a7;obtain rfl:=osj a7;exact absurd (σf.lt k3) (Nat.not_lt.2 hi)
  ·rw[if_neg h];exact σf.wf i hi⟩
 have ef:∀ j i,j<bs.length→oid (pl j)=some i→σw.get i=(bs[j]?).bind Q3g:=fun j i hj a7=>by
  have h1:S i=true:=(hS i).2 ⟨j,hj,a7⟩;show (if S i=true then _ else _)=_;rw[if_pos h1];cases hf:(List.range bs.length).find? fun j=>decide (oid (pl j)=some i) with
  |none=>have:=List.find?_eq_none.1 hf j (List.mem_range.2 hj);simp[a7] at this
  |some j' =>have h2:=List.find?_some hf;have h3:=List.mem_range.1 (List.mem_of_find?_eq_some hf);have h4:j'=j:=Classical.byContradiction fun aA=>de j' j i h3 hj aA (by simpa using h2) a7;subst h4;rfl
 let q:Nat→Value:=fun j=>match pl j with
  |.slice (some a) n _=>.slice (some a) n n
  |v=>v
 have hq:∀ j,j<bs.length→Weak (fun i=>S i=true) (pl j) (q j):=fun j hj=>by
  obtain⟨ty,k,xs,nl,_,_,h3⟩:=kind j hj;rcases h3 with⟨_,_,k3⟩|⟨_,i',cap,c,t,k1,k2,_,k3,_⟩
  ·simp only[q,k3];exact .refl _
  ·simp only[q,k1];exact .sl _ _ _ ((hS i').2 ⟨j,hj,by rw[k1];rfl⟩) k2
 have nC:DropTo σ0 (U7 pl v) σf (U7 q v) σw:=by
  refine DropTo.weaken S (fun i hi=>?_) rfl hn (fun i hi=>?_) (fun i hi=>?_) (Cc hq v hv ct)
  ·obtain⟨j,hj,a7⟩:=(hS i).1 hi;exact(aj j _ (List.getElem?_eq_getElem hj)).2 i a7
  ·show (if S i=true then _ else _)=_;rw[if_neg (by simp[hi])]
  ·obtain⟨j,hj,a7⟩:=(hS i).1 hi;obtain⟨ty,k,xs,nl,e,_,h3⟩:=kind j hj;rcases h3 with⟨_,_,k3⟩|⟨k0,i',cap,c,t,k1,k2,_,k3,k4,_⟩
   ·rw[k3] at a7;cases a7
   ·rw[k1] at a7;obtain rfl:=osj a7;refine⟨c,_,true,t,xs.length*k.size,k3,?_⟩;rw[ef j _ hj (by rw[k1];rfl),e];simp only[Option.bind_some,Q3g,k0];rw[k4];rfl
 have dI:∀ j i,j<bs.length→oid (pl j)=some i→i<σf.n:=fun j i hj a7=>by
  obtain⟨ty,k,xs,nl,_,_,h3⟩:=kind j hj;rcases h3 with⟨_,_,k3⟩|⟨_,i',cap,c,t,k1,_,_,k3,_⟩
  ·rw[k3] at a7;cases a7
  ·rw[k1] at a7;obtain rfl:=osj a7;exact σf.lt k3
 let π:Nat→Nat:=fun i=>if i<σ0.n then i else match oid (pl (i-σ0.n)) with
  |some id=>id
  |none=>σf.n+i
 have tx:σw.n=σf.n:=rfl;have nD:DropTo σ0 (U7 q v) σw (U7 (Rh σ0 bs) v) (PL σ0 bs):=by
  refine DropTo.rename2 π (by simp[PL]) (fun i hi=>⟨by simp[π,hi],?_,.inl ?_⟩) (fun i h1 h2=>?_) (fun i j h1 h2 h3 h4 he=>?_) (Et (fun j hj=>?_) v hv ct)
  ·have hs:S i=false:=by
    cases hs:S i with
    |false=>rfl
    |true=>obtain⟨j,hj,a7⟩:=(hS i).1 hs;have:=(aj j _ (List.getElem?_eq_getElem hj)).2 i a7;omega
   show (if i<σ0.n then _ else _)=(if S i=true then _ else _);rw[if_pos hi,if_neg (by simp[hs]),hA i hi]
  ·have hs:S i=false:=by
    cases hs:S i with
    |false=>rfl
    |true=>obtain⟨j,hj,a7⟩:=(hS i).1 hs;have:=(aj j _ (List.getElem?_eq_getElem hj)).2 i a7;omega
   show (if S i=true then _ else _)=_;rw[if_neg (by simp[hs]),hA i hi]
  ·have hj:i-σ0.n<bs.length:=by simp[PL] at h2;omega
   have bt:¬ i<σ0.n:=by omega
   obtain⟨ty,k,xs,nl,e,oH,h3⟩:=kind _ hj;have nE:(PL σ0 bs).get i=(bs[i-σ0.n]?).bind Q3g:=by show (if i<σ0.n then _ else _)=_;rw[if_neg bt]
   rcases h3 with⟨k0,_,k3⟩|⟨k0,i',cap,c,t,k1,k2,lq,k3,k4,_⟩
   ·have hp:π i=σf.n+i:=by simp only[π,if_neg bt,k3,oid]
    refine⟨by omega,.inl ⟨?_,σw.wf _ (by rw[hp,tx];omega)⟩⟩;rw[nE,e];simp[Q3g,k0]
   ·have hp:π i=i':=by simp only[π,if_neg bt,k1,oid]
    rw[hp];have hw:=ef _ i' hj (by rw[k1];rfl);rw[e] at hw;simp only[Option.bind_some,Q3g,k0] at hw;refine⟨lq,.inr ⟨_,_,?_,hw,BRen.plain ?_⟩⟩
    ·rw[nE,e];simp[Q3g,k0]
    ·simp only[Blk.plain,List.all_flatten,List.all_map];rw[List.all_eq_true];intro x _;exact Bo oH
  ·have hi:i-σ0.n<bs.length:=by simp[PL] at h2;omega
   have hj:j-σ0.n<bs.length:=by simp[PL] at h4;omega
   have fI:¬ i<σ0.n:=by omega
   have tz:¬ j<σ0.n:=by omega
   simp only[π,if_neg fI,if_neg tz] at he;cases e1:oid (pl (i-σ0.n)) with
   |none =>
    cases e2:oid (pl (j-σ0.n)) with
    |none=>rw[e1,e2] at he;simp only at he;omega
    |some b=>rw[e1,e2] at he;have:=dI _ b hj e2;simp only at he;omega
   |some a =>
    cases e2:oid (pl (j-σ0.n)) with
    |none=>rw[e1,e2] at he;have:=dI _ a hi e1;simp only at he;omega
    |some b =>rw[e1,e2] at he;simp only at he;subst he;have:i-σ0.n=j-σ0.n:=Classical.byContradiction fun aA=>de _ _ a hi hj aA e1 e2;omega
  ·obtain⟨ty,k,xs,nl,e,_,h3⟩:=kind j hj;rcases h3 with⟨k0,kx,k3⟩|⟨k0,i',cap,c,t,k1,k2,_,k3,_⟩
   ·simp only[Rh,e,k0,if_true,q,k3];exact .plain _ rfl
   ·simp only[Rh,e,k0,Bool.false_eq_true,if_false,q,k1];have hp:π (σ0.n+j)=i':=by
     have:¬ σ0.n+j<σ0.n:=by omega
     simp only[π,if_neg this,Nat.add_sub_cancel_left,k1,oid]
    have:=Ren.sl (n:=(PL σ0 bs).n) (π:=π) (σ0.n+j) 0 xs.length xs.length (by simp[PL];omega)
    rwa [hp] at this
 exact nC.trans nD
def OB.wfL:OB→Prop
 |.lst _ _ xs nl=>nl=true→xs=[]
 |_=>True
theorem CL (σ0:Heap) {v:SV}{bs:List OB}(hv:v.ret bs.length=true) (ct:U4 v=true) (hb:bs.all OB.ret=true) (hl:bs.all OB.isL=true) (hw:∀ b∈bs,b.wfL):Ret P σ0 v bs (U7 (Rh σ0 bs) v) (PL σ0 bs):=by
 have kind:∀ j,j<bs.length→∃ ty k xs nl,bs[j]?=some (.lst ty k xs nl)∧k.flat=true∧(nl=true→xs=[]):=fun j hj=>by
  have e:=List.getElem?_eq_getElem hj;have h1:=List.all_eq_true.1 hb _ (List.getElem_mem hj);have h2:=List.all_eq_true.1 hl _ (List.getElem_mem hj);have h3:=hw _ (List.getElem_mem hj);cases cG:bs[j] with
  |lst ty k xs nl=>rw[cG] at e h1 h3;exact⟨ty,k,xs,nl,e,h1,h3⟩
  |_=>rw[cG] at h2;cases h2
 refine⟨⟨?_,?_⟩,?_,Rh σ0 bs,fun j b hj=>?_,fun j j' i hj cf aA h1 h2=>?_,Sk (fun j hj=>Q7r hl hj) v hv ct⟩
 ·refine⟨by simp[PL],fun i b hg=>?_⟩;show (if i<σ0.n then _ else _)=_;rw[if_pos (σ0.lt hg)];exact hg
 ·refine⟨by simp[PL],fun i hi hg=>?_⟩;show (if i<σ0.n then _ else _)=_;rw[if_pos hi];exact hg
 ·rintro rfl;apply Heap.ext'
  ·intro i;show (if i<σ0.n then _ else _)=_;by_cases hi:i<σ0.n
   ·rw[if_pos hi]
   ·rw[if_neg hi,σ0.wf i (by omega)];rfl
  ·simp[PL]
 ·have ck:j<bs.length:=(List.getElem?_eq_some_iff.1 hj).1;obtain⟨ty,k,xs,nl,e,oH,h3⟩:=kind j ck;obtain rfl:=osj (e.symm.trans hj);cases nl with
  |true =>
   have hp:Rh σ0 bs j=.slice none 0 0:=by simp[Rh,e]
   rw[hp];exact⟨.inl ⟨rfl,h3 rfl,rfl⟩,fun i hi=>by cases hi⟩
  |false =>
   have hp:Rh σ0 bs j=.slice (some ⟨σ0.n+j,0,none⟩) xs.length xs.length:=by simp[Rh,e]
   have k5:=Rows.ofEnc (h:=hNil) oH xs;have dO:=k5.length KC.rows_len;rw[hp];refine⟨.inr ⟨rfl,σ0.n+j,xs.length,(xs.map (Ls k)).flatten,false,rfl,Nat.le_refl _,?_,by omega,?_⟩,fun i hi=>?_⟩
   ·show (if σ0.n+j<σ0.n then _ else _)=_;rw[if_neg (by omega),Nat.add_sub_cancel_left,e];simp[Q3g]
   ·rw[List.take_of_length_le (by omega)];exact k5
   ·obtain rfl:=osj hi;exact⟨σ0.wf _ (by simp),by simp⟩
 ·obtain⟨ty,k,xs,nl,e,_,h3⟩:=kind j hj;obtain⟨fZ,k',cj,gL,e',_,j6⟩:=kind j' cf;simp only[Rh,e] at h1;simp only[Rh,e'] at h2;cases nl with
  |true=>simp[Oid,oid] at h1
  |false =>
   cases gL with
   |true=>simp[Oid,oid] at h2
   |false=>simp[Oid,oid] at h1 h2;omega
end
end Go.V
namespace Go.V
open Go
section
variable {P:Program}{B F:Heap}{pl:Nat→Value}{tb:Nat→Option Bool}{own:Own}{σ:Heap}
mutual
theorem Is {bx:List SV→Nat→SV}(hle:B.Le σ) (ax:∀ d,OR P B pl tb σ (pl d) (Q7 own d))
  (j7:∀ l off b c e t,σ.get b=some (.cells c e true t)→SRs P B pl tb l c→SR P σ JK ZA (bx l off) (.pointer (some ⟨b,off,none⟩))) :
  ∀ (s:SV) (v:Value),SR P B pl tb s v→SR P σ JK ZA (TI own bx s) v
 |.any,v,h=>by simp[TI,SR]
 |.val k x,v,h=>by simp only[TI,SR] at h ⊢;exact h.mono hle
 |.bid n c,v,h=>by simp only[TI,SR] at h ⊢;obtain⟨rfl,_⟩:=h;rfl
 |.grd gs s,v,h=>by simp[TI,SR]
 |.nilS,v,h=>by simp only[TI,SR] at h ⊢;exact h
 |.nilP,v,h=>by simp only[TI,SR] at h ⊢;exact h
 |.nilM,v,h=>by simp only[TI,SR] at h ⊢;exact h
 |.nilF,v,h=>by simp only[TI,SR] at h ⊢;exact h
 |.lst o,v,h=>by
  simp only[TI];split
  ·rename_i ty k xs nl ho;have:view own k (.lst o)=some xs:=by simp[view,ho,NJ]
   simp only[SR,KC];exact⟨v,rfl,(Yc hle ax this h).mono (Heap.Le.refl _) fun _ _ e=>e.mono hle⟩
  ·simp[SR]
 |.sub o lo n sz,v,h=>by
  simp only[TI];split
  ·rename_i ty k xs nl ho;split
   ·rename_i aC;have:view own k (.sub o lo n sz)=some ((xs.drop lo).take n):=by simp[view,ho,NJ,aC]
    simp only[SR,KC];exact⟨v,rfl,(Yc hle ax this h).mono (Heap.Le.refl _) fun _ _ e=>e.mono hle⟩
   ·simp[SR]
  ·simp[SR]
 |.elp o i off sz,v,h=>by simp[TI,SR]
 |.dd o w,v,h=>by
  simp only[TI];simp only[SR] at h;split
  ·rename_i ty q k xs nl hole ho;have aj:=ax o;rw[ho] at aj;have c_:=DP.le aj;split
   ·split
    ·obtain⟨h1,_⟩:=h;simp only[SR,KC];refine⟨v,rfl,?_⟩;rw[h1];exact(DP.sl aj).mono c_ fun _ _ e=>e.mono c_
    ·simp[SR]
   ·simp only[SR];exact KC.mono c_ h
   ·simp only[SR];exact KC.mono c_ h.1
   ·simp[SR]
  ·simp[SR]
 |.map o,v,h=>by simp[TI,SR]
 |.tup l,v,h=>by simp[TI,SR]
 |.box o off,v,h=>by
  simp only[TI];split
  ·rename_i l _ ho;have aj:=ax o;rw[ho] at aj;obtain⟨i,c,e,t,h1,h2,h3,_⟩:=aj;simp only[SR] at h;obtain⟨b,h4,rfl⟩:=h;rw[h4] at h1;obtain rfl:=(by simpa using h1:b=i);exact j7 l off b c e t h2 h3
  ·simp[SR]
 |.rop k l i off,v,h=>by simp only[TI];exact SR.mono (tb:=tb) hle (fun n c hn=>hn) (.rop k l i off) v h |> fun h=>by simp only[SR] at h ⊢;exact h
 |.cp l off,v,h=>by simp only[TI,SR] at h ⊢;obtain⟨b,c,e,wr,t,h1,h2,h3⟩:=h;exact⟨b,c,e,wr,t,hle.2 _ _ h1,h2,Xh hle ax j7 l c h3⟩
 |.agg l,v,h=>by simp only[TI,SR] at h ⊢;obtain⟨cs,h1,h2⟩:=h;exact⟨cs,h1,Xh hle ax j7 l cs h2⟩
 |.fn f a b,v,h=>by simp only[TI,SR] at h ⊢;obtain⟨x,y,h1,h2,h3⟩:=h;exact⟨x,y,h1,Xh hle ax j7 a x h2,Xh hle ax j7 b y h3⟩
 |.pf ks r cI p,v,h=>by simp only[TI,SR] at h ⊢;exact h.mono hle
theorem Xh {bx:List SV→Nat→SV}(hle:B.Le σ) (ax:∀ d,OR P B pl tb σ (pl d) (Q7 own d))
  (j7:∀ l off b c e t,σ.get b=some (.cells c e true t)→SRs P B pl tb l c→SR P σ JK ZA (bx l off) (.pointer (some ⟨b,off,none⟩))) :
  ∀ (s:List SV) (v:List Value),SRs P B pl tb s v→SRs P σ JK ZA (To own bx s) v
 |[],v,h=>by simp only[To,SRs] at h ⊢;exact h
 |s::ss,v,h=>by simp only[To,SRs] at h ⊢;obtain⟨x,y,h1,h2,h3⟩:=h;exact⟨x,y,h1,Is hle ax j7 s x h2,Xh hle ax j7 ss y h3⟩
end
theorem Ky (hle:B.Le σ) (ax:∀ d,OR P B pl tb σ (pl d) (Q7 own d)) {l:List SV}{v:List Value}(h:SRs P B pl tb l v):SRs P σ JK ZA (P4 own l) v:=by
 have h0:∀ {l v},SRs P B pl tb l v→SRs P σ JK ZA (Z57 own l) v:=fun h=>Xh hle ax (fun _ _ _ _ _ _ _ _=>by simp[SR]) _ _ h;have h1:∀ {l v},SRs P B pl tb l v→SRs P σ JK ZA (Z5j own l) v:=fun h=>Xh hle ax (fun l off b c e t hg hs=>by
  simp only[SR];exact⟨b,c,e,true,t,hg,rfl,h0 hs⟩) _ _ h
 exact Xh hle ax (fun l off b c e t hg hs=>by
  simp only[SR];exact⟨b,c,e,true,t,hg,rfl,h1 hs⟩) _ _ h
mutual
theorem IL {p q:Nat→Value}{n:Nat}(h:∀ j,j<n→p j=q j):∀ (s:SV),s.ret n=true→U7 p s=U7 q s
 |.val _ _,_|.nilS,_|.nilP,_|.nilM,_|.nilF,_=>by simp[U7]
 |.lst j,hr=>by simp only[U7];exact h j (by simpa [SV.ret,Nat.blt_eq] using hr)
 |.agg l,hr=>by simp only[U7];rw[Su h l hr]
 |.tup l,hr=>by simp only[U7];rw[Su h l hr]
 |.box _ _,_|.map _,_=>by simp[U7]
 |.dd _ _,_=>by simp[U7]
 |.any,h|.bid _ _,h|.grd _ _,h|.sub _ _ _ _,h|.elp _ _ _ _,h|.rop _ _ _ _,h|.cp _ _,h|.fn _ _ _,h|.pf _ _ _ _,h=>by cases h
theorem Su {p q:Nat→Value}{n:Nat}(h:∀ j,j<n→p j=q j):∀ (s:List SV),SVs.ret n s=true→Kb p s=Kb q s
 |[],_=>rfl
 |s::ss,hr=>by simp only[SVs.ret,Bool.and_eq_true] at hr;simp only[Kb];rw[IL h s hr.1,Su h ss hr.2]
end
theorem ZS {cs:List (Nat×CSp)}(aw:CsOk P cs) {f:SV}{args:List SV}{c:Prop}{v:SV}{bs:List OB}{fV:Value}{vs:List Value}(hf:SR P σ JK ZA f fV) (ha:SRs P σ JK ZA args vs)
  (h:Ud cs f args=some (c,v,bs)) (hv:v.ret bs.length=true) (hb:bs.all OB.ret=true) (hc:c):∃ g a b,fV=.func (.func g) a b∧(VCalled P g (a.toList++vs++b.toList) σ fun u σ'=>Ret P σ v bs u σ') ∧
  (bs.all OB.isL=true→U4 v=true→VCalled P g (a.toList++vs++b.toList) σ fun u σ'=>u=U7 (Rh σ bs) v∧σ'=PL σ bs):=by
 have gen:(gap cs 3 f args).map (fun x=>(x.1,x.2,([]:List OB)))=some (c,v,bs)→∃ g a b,fV=.func (.func g) a b∧(VCalled P g (a.toList++vs++b.toList) σ fun u σ'=>Ret P σ v bs u σ') ∧
   (bs.all OB.isL=true→U4 v=true→VCalled P g (a.toList++vs++b.toList) σ fun u σ'=>u=U7 (Rh σ bs) v∧σ'=PL σ bs):=fun h=>by
  simp only[Option.map_eq_some_iff] at h;obtain⟨⟨c',v'⟩,h1,h2⟩:=h;simp only[Prod.mk.injEq] at h2;obtain⟨rfl,rfl,rfl⟩:=h2;obtain⟨h3,g,a,b,rfl,h4⟩:=DJ aw 3 σ f args c' v' fV vs hf ha h1 hc;refine⟨g,a,b,rfl,h4.mono fun u σ' hu=>?_,fun _ ct=>h4.mono fun u σ' hu=>?_⟩
  ·obtain⟨rfl,hu⟩:=hu;exact⟨⟨Heap.Le.refl _,Dead.refl _⟩,fun _=>rfl,JK,(fun j b hj=>by simp at hj),(fun j j' i hj=>by simp at hj),hu⟩
  ·obtain⟨rfl,hu⟩:=hu;have hz:PL σ' []=σ':=(CL (P:=P) σ' (v:=v') (bs:=[]) h3 ct rfl rfl (fun b hb=>by cases hb)).2.1 rfl;refine⟨?_,hz.symm⟩;rw[UI v' u h3 ct hu];exact IL (fun j hj=>by omega) v' h3
 cases f with
 |fn g a b =>
  simp only[Ud] at h;split at h
  ·rename_i sp eu;simp only[SR] at hf;obtain⟨x,y,rfl,h1,h2⟩:=hf;refine⟨g,x.toArray,y.toArray,rfl,?_⟩;simpa using aw g sp eu (gap cs 3) (DJ aw 3) σ (a++args++b) (x++vs++y) c v bs ((h1.append ha).append h2) h hv hb hc
  ·cases h
 |_=>exact gen h
theorem Gam.heap_get {s:St}{env:Env}{σ':Heap}(h:Gam P B F pl tb s env σ) (hl:σ.Le σ') {d:Nat}(ak:(Q7 s.own d).live=true) {i:Nat}(hi:Oid (pl d) i):σ'.get i=σ.get i:=by
  have ai:=(h.obj d).id_lt ak hi;cases hb:σ.get i with
  |none =>
   have aj:=h.obj d;cases ho:Q7 s.own d with
   |dead=>rw[ho] at ak;cases ak
   |lst ty k xs nl =>
    rw[ho] at aj;rcases aj with⟨_,_,h2⟩|⟨_,i',cap,c,t,h2,_,h3,_⟩
    ·rw[h2] at hi;cases hi
    ·rw[h2] at hi;obtain rfl:=osj hi;rw[h3] at hb;cases hb
   |cells l u=>rw[ho] at aj;obtain⟨i',c,e,t,h2,h3,_⟩:=aj;rw[h2] at hi;obtain rfl:=osj hi;rw[h3] at hb;cases hb
   |map kk vk m=>rw[ho] at aj;obtain⟨i',es,cl,h2,h3,_⟩:=aj;rw[h2] at hi;obtain rfl:=osj hi;rw[h3] at hb;cases hb
   |stk l vals=>rw[ho] at ak;cases ak
   |lpf l q s=>rw[ho] at aj ak;obtain⟨h2,_,h3⟩:=aj;rw[h2] at hi;obtain rfl:=osj hi;have h3:=h3 ak;rw[hb] at h3;cases h3
   |iter kk vk m dn=>rw[ho] at aj;obtain⟨j',i',es,cl,wr,seen,h2,h3,_⟩:=aj;rw[h2] at hi;obtain rfl:=osj hi;rw[h3] at hb;cases hb
   |deep ty q k xs nl hh =>rw[ho] at aj;obtain⟨is,_,d2,d3,_⟩:=DP.open aj;obtain⟨c,e,t,h⟩:=d2.cells i ((d3 i).1 hi);rw[h] at hb;cases hb
  |some b=>rw[hl.2 i b hb]
theorem Gam.heap {s:St}{env:Env}{σ':Heap}(h:Gam P B F pl tb s env σ) (hl:σ.Le σ'):Gam P B F pl tb s env σ' :=
 ⟨h.bf,h.le.trans hl,h.env,fun d=>(h.obj d).mono (Heap.Le.refl _) (fun _ _ h=>h) fun ak _i hi=>h.heap_get hl ak hi,h.fresh,h.sep,h.free⟩
theorem TA {env:Env}{σ0:Heap}{d nt:Nat}(cO:0<nt) (df:Nat→Value) (bs:List OB) (hB:F.Le σ0)
  (aj:∀ j b,bs[j]?=some b→b.ret=true∧OR P hNil df ZA σ (df j) b∧∀ i,Oid (df j) i→σ0.n≤i)
  (de:∀ j j' i,j<bs.length→j'<bs.length→j≠j'→Oid (df j) i→Oid (df j') i→False) :
  ∀ (r:List OB) (j:Nat) (pl:Nat→Value) (s:St),bs.drop j=r→Gam P B F pl tb s env σ→(∀ k i,(Q7 s.own k).live=true→Oid (pl k) i→i<σ0.n∨∃ j'<j,j'<bs.length∧Oid (df j') i∧k=d+j'*nt)→(∀ j'<j,j'<bs.length→pl (d+j'*nt)=df j') →
   ∃ pl',Gam P B F pl' tb (s.makes d nt j r) env σ∧(∀ j'<bs.length,pl' (d+j'*nt)=df j')∧∀ q,(∀ j'<bs.length,q≠d+j'*nt)→pl' q=pl q∧(Q7 (s.makes d nt j r).own q).live=(Q7 s.own q).live
 |[],j,pl,s,hr,hG,_,hp=>⟨pl,hG,fun j' cf=>hp j' (by
   have:=congrArg List.length hr;simp at this;omega) cf,fun q _=>⟨rfl,rfl⟩⟩
 |b::r,j,pl,s,hr,hG,hinv,hp=>by
  have ck:j<bs.length:=by
   rcases Nat.lt_or_ge j bs.length with h|h
   ·exact h
   ·rw[List.drop_eq_nil_of_le h] at hr;cases hr
  have cG:bs[j]?=some b:=by
   have:(bs.drop j)[0]?=some b:=by rw[hr];rfl
   simpa using this
  have fC:bs.drop (j+1)=r:=by
   have:(bs.drop j).drop 1=r:=by rw[hr];rfl
   simpa [List.drop_drop,Nat.add_comm] using this
  obtain⟨h1,h2,h3⟩:=aj j b cG;have aQ:∀ j' ,j'≠j→d+j'*nt≠d+j*nt:=fun j' aA e=>aA (Nat.eq_of_mul_eq_mul_right cO (by omega));obtain⟨pl',k1,k2,k3⟩:∃ pl',Gam P B F pl' tb ((s.make (d+j*nt) b).makes d nt (j+1) r) env σ∧(∀ j'<bs.length,pl' (d+j'*nt)=df j')∧∀ q,(∀ j'<bs.length,q≠d+j'*nt)→pl' q=JP pl (d+j*nt) (df j) q∧(Q7 ((s.make (d+j*nt) b).makes d nt (j+1) r).own q).live=(Q7 (s.make (d+j*nt) b).own q).live:=by
   refine TA cO df bs hB aj de r (j+1) (JP pl (d+j*nt) (df j)) _ fC (hG.make (d+j*nt) b (df j) hG.le (fun _ _ _ _ _=>rfl) (h2.retd h1 fun _ _=>rfl) fun i _ hi=>⟨F.wf _ (by have:=h3 i hi;have:=hB.1;omega),fun k hk hl e=>?_⟩) (fun k i hl hi=>?_) fun j' cf lr=>?_
   ·rcases hinv k i hl e with h|⟨j',cf,eB,he,_⟩
    ·have:=h3 i hi;omega
    ·exact de j j' i ck eB (by omega) hi he
   ·by_cases hk:k=d+j*nt
    ·subst hk;simp only[JP,if_true] at hi;exact .inr ⟨j,by omega,ck,hi,rfl⟩
    ·have bJ:(Q7 s.own k).live=true:=by
      simp only[St.make,St.kill,Qf,Kz,if_neg hk] at hl
      rwa [OB.live_kill] at hl
     simp only[JP,if_neg hk] at hi;rcases hinv k i bJ hi with h|⟨j',cf,h5⟩
     ·exact .inl h
     ·exact .inr ⟨j',by omega,h5⟩
   ·by_cases e:j'=j
    ·subst e;simp[JP]
    ·simp only[JP,if_neg (aQ j' e)];exact hp j' (by omega) lr
  refine⟨pl',k1,k2,fun q hq=>?_⟩;obtain⟨e1,e2⟩:=k3 q hq;refine⟨by rw[e1];simp[JP,hq j ck],?_⟩;show (Q7 ((s.make (d+j*nt) b).makes d nt (j+1) r).own q).live=_;rw[e2];simp only[St.make,St.kill,Qf,Kz,if_neg (hq j ck),OB.live_kill]
theorem Ret.gamF {s:St}{env:Env}{d nt:Nat}(cO:0<nt) (hG:Gam P B F pl tb s env σ) {v:SV}{bs:List OB}{u:Value}{σ':Heap}(hv:v.ret bs.length=true) (hb:bs.all OB.ret=true) (h:Ret P σ v bs u σ') :
  ∃ pl',Gam P B F pl' tb (s.makes d nt 0 bs) env σ'∧SR P B pl' tb (v.ren d nt) u∧∀ q,(∀ j'<bs.length,q≠d+j'*nt)→(Q7 (s.makes d nt 0 bs).own q).live=(Q7 s.own q).live∧pl' q=pl q∧((Q7 s.own q).live=true→∀ i,Oid (pl q) i→σ'.get i=σ.get i):=by
 obtain⟨⟨h1,_⟩,_,df,h2,h3,h4⟩:=h
 obtain⟨pl',h5,h6,h7⟩:=TA (tb:=tb) (d:=d) cO df bs hG.le (fun j b hj=>⟨List.all_eq_true.1 hb b (List.mem_of_getElem? hj),(h2 j b hj).1,fun i hi=>((h2 j b hj).2 i hi).2⟩) h3 bs 0 pl s rfl (hG.heap h1)
  (fun k i hl hi=>.inl ((hG.obj k).id_lt hl hi)) (fun j' cf=>by omega)
 exact⟨pl',h5,SR.ren (tb:=ZA) (fun j hj=>h6 j hj) _ _ hv (SR.mono (tb:=ZA) (tb':=ZA) (E7 B) (fun _ _ h=>h) _ _ h4),fun q hq=>⟨(h7 q hq).2,(h7 q hq).1,fun hl i hi=>hG.heap_get h1 hl hi⟩⟩
theorem Ret.gam {s:St}{env:Env}{d nt:Nat}(cO:0<nt) (hG:Gam P B F pl tb s env σ) {v:SV}{bs:List OB}{u:Value}{σ':Heap}(hv:v.ret bs.length=true) (hb:bs.all OB.ret=true) (h:Ret P σ v bs u σ') :
  ∃ pl',Gam P B F pl' tb (s.makes d nt 0 bs) env σ'∧SR P B pl' tb (v.ren d nt) u:=by
 obtain⟨pl',h1,h2,_⟩:=h.gamF cO hG hv hb;exact⟨pl',h1,h2⟩
end
end Go.V
namespace Go.V
open Go
section
variable {P:Program}
structure GBase (B0 F0 D0 B F σ:Heap):Prop where
 b:B0.Le B
 f:F0.Le F
 x:∀ i b,F0.get i=some b→B0.get i=none→B.get i=none
 d:Dead D0 σ
theorem GBase.of {B F σ:Heap}{σ':Heap}(_hB:B.Le F) (h:Dead σ σ'):GBase B F σ B F σ':=⟨.refl _,.refl _,fun _ _ _ h=>h,h⟩
theorem GBase.trans {B0 F0 D0 B F σ B' F' σ':Heap}(h:GBase B0 F0 D0 B F σ) (h':GBase B F σ B' F' σ'):GBase B0 F0 D0 B' F' σ' :=
 ⟨h.b.trans h'.b,h.f.trans h'.f,fun i b h1 h2=>h'.x i b (h.f.2 _ _ h1) (h.x i b h1 h2),h.d.trans h'.d⟩
def GRel (P:Program) (B0 F0 D0:Heap) (s:St) (env:Env) (σ:Heap):Prop:=∃ B F pl tb,GBase B0 F0 D0 B F σ∧Gam P B F pl tb s env σ
theorem Gj {B0 F0 D0 B F:Heap}{σ σ':Heap}(hB:GBase B0 F0 D0 B F σ) (h:Dead σ σ'):GBase B0 F0 D0 B F σ':=⟨hB.b,hB.f,hB.x,hB.d.trans h⟩
theorem Gam.evs {B F:Heap}{pl:Nat→Value}{tb:Nat→Option Bool}{s:St}{env:Env}{σ:Heap}(h:Gam P B F pl tb s env σ) {gs:List Gd}(hg:Gds tb gs) (x:Operand):SR P B pl tb (gev gs s.env x) (Q3 env x):=Q1a hg h.env x
theorem Gds.nil {tb:Nat→Option Bool}:Gds tb []:=fun _ h=>by cases h
theorem Ij {gs:List Gd}{c:Prop}(h:Q8z gs c) (hg:∀ g∈gs,g.c=g.want):c:=by
 induction gs with
 |nil=>exact h
 |cons g gs ih=>exact ih (h (hg g (by simp))) fun g' dz=>hg g' (by simp[dz])
theorem Zu {gs:List Gd}{cs:List Prop}{q:Prop}(h:SE gs cs q):q∧((∀ g∈gs,g.c=g.want)→∀ c∈cs,c):=by
 induction cs with
 |nil=>exact⟨h,fun _ c hc=>by cases hc⟩
 |cons c cs ih =>
  obtain⟨h1,h2⟩:=h;obtain⟨h3,h4⟩:=ih h2;exact⟨h3,fun hg c' cm=>by
   rcases List.mem_cons.1 cm with rfl|cm
   ·exact Ij h1 hg
   ·exact h4 hg c' cm⟩
theorem Dead.push (σ:Heap) (b:Blk):Dead σ (σ.push b):=⟨by simp,fun i hi h=>by rw[Heap.get_push_lt _ _ hi];exact h⟩
theorem Dead.upd (σ:Heap) (j:Nat) (b:Blk) (hj:(σ.get j).isSome=true):Dead σ (σ.upd j b):=⟨by simp,fun i hi h=>by
 have:i≠j:=fun e=>by subst e;rw[h] at hj;cases hj
 rw[Heap.get_upd_ne _ _ this];exact h⟩
theorem Dead.kill (σ:Heap) (j:Nat):Dead σ (σ.kill j):=⟨by simp,fun i hi h=>by
 by_cases e:i=j
 ·subst e;exact Heap.get_kill_self _ _
 ·rw[Heap.get_kill_ne _ e];exact h⟩
theorem Cg {e:El}{bytes m:Nat}{σ σ':Heap}{s u:Value}{xs:List Value}(h:YQ e bytes σ s m xs=some (u,σ')):Dead σ σ':=by
 unfold YQ at h;split at h
 ·split at h
  ·obtain⟨rfl,rfl⟩:=QX h;exact Dead.refl _
  ·split at h
   ·obtain⟨rfl,rfl⟩:=QX h;exact Dead.push _ _
   ·cases h
 ·split at h
  ·rename_i hg;split at h
   ·split at h
    ·obtain⟨rfl,rfl⟩:=QX h;exact Dead.refl _
    ·split at h
     ·split at h
      ·obtain⟨rfl,rfl⟩:=QX h;exact Dead.upd _ _ _ (by rw[hg];rfl)
      ·cases h
     ·split at h
      ·split at h
       ·obtain⟨rfl,rfl⟩:=QX h;exact Dead.push _ _
       ·split at h
        ·obtain⟨rfl,rfl⟩:=QX h;exact(Dead.kill _ _).trans (Dead.push _ _)
        ·cases h
      ·cases h
   ·cases h
  ·cases h
 ·cases h
theorem V7 {o:VOp}{ev:Operand→Value}{σ σ':Heap}{u:Value}(h:Q5 o ev σ=some (u,σ')):Dead σ σ':=by
 by_cases hk:o.kind=2
 ·cases o<;>first|(cases hk;done)|skip
  case alloc t z=>obtain⟨rfl,rfl⟩:=QX h;exact Dead.push _ _
  case box t x =>
   simp only[Q5] at h;split at h
   ·obtain⟨rfl,rfl⟩:=QX h;exact Dead.push _ _
   ·cases h
  case buildSlice e z n ps =>
   simp only[Q5] at h;split at h
   ·obtain⟨rfl,rfl⟩:=QX h;exact Dead.push _ _
   ·cases h
  case makeSlice e b z l c =>
   simp only[Q5] at h;split at h
   ·split at h
    ·obtain⟨rfl,rfl⟩:=QX h;exact Dead.push _ _
    ·cases h
   ·cases h
  case store size a x =>
   simp only[Q5] at h;split at h
   ·split at h
    ·rename_i hg;split at h
     ·obtain⟨rfl,rfl⟩:=QX h;exact Dead.upd _ _ _ (by rw[hg];rfl)
     ·cases h
    ·cases h
   ·cases h
  case append e b x y =>
   simp only[Q5] at h;split at h
   ·split at h
    ·exact Cg h
    ·cases h
   ·cases h
  case slice size x lo hi mx =>
   simp only[Q5] at h;split at h
   ·have sl:∀ {l hh:Nat}{m:Option Nat}{v:Value},K6 size σ v l hh m=some (u,σ')→Dead σ σ':=fun {l hh m v} h=>by
     unfold K6 at h;split at h
     ·split at h
      ·obtain⟨rfl,rfl⟩:=QX h;exact Dead.refl _
      ·cases h
     ·split at h
      ·split at h
       ·split at h
        ·obtain⟨rfl,rfl⟩:=QX h;exact Dead.refl _
        ·cases h
       ·split at h
        ·split at h
         ·obtain⟨rfl,rfl⟩:=QX h;exact Dead.push _ _
         ·obtain⟨rfl,rfl⟩:=QX h;exact Dead.refl _
        ·cases h
      ·cases h
     ·cases h
    split at h
    ·exact sl h
    ·split at h
     ·exact sl h
     ·cases h
    ·cases h
   ·cases h
  case callF f a=>cases h
  case callV f a=>cases h
  case ext x =>
   cases x<;>first|(cases hk;done)|skip
   case makeMap=>obtain⟨rfl,rfl⟩:=QX h;exact Dead.push _ _
   case mapUpdate mk m k v =>
    simp only[Q5,Z_] at h;split at h
    ·split at h
     ·rename_i hm;split at h
      ·obtain⟨rfl,rfl⟩:=QX h;refine Dead.upd _ _ _ ?_;unfold Heap.mapAt at hm;split at hm
       ·rename_i hg;rw[hg];rfl
       ·cases hm
      ·cases h
     ·cases h
    ·cases h
   case delete mk m k=>cases h
   case rangeMap x =>
    simp only[Q5,Z_] at h;split at h
    ·split at h
     ·obtain⟨rfl,rfl⟩:=QX h;exact Dead.push _ _
     ·cases h
    ·cases h
   case nextMap x=>cases h
   case copy size a b =>
    simp only[Q5,Z_] at h;split at h
    ·split at h
     ·obtain⟨rfl,rfl⟩:=QX h;exact Dead.refl _
     ·split at h
      ·split at h
       ·rename_i hg;split at h
        ·obtain⟨rfl,rfl⟩:=QX h;exact Dead.upd _ _ _ (by rw[hg];rfl)
        ·cases h
       ·cases h
      ·cases h
    ·cases h
   case strBytes e x =>
    simp only[Q5,Z_] at h;split at h
    ·split at h
     ·obtain⟨rfl,rfl⟩:=QX h;exact Dead.push _ _
     ·cases h
    ·cases h
   case unsafeStr e x n =>
    simp only[Q5,Z_] at h;split at h
    ·split at h
     ·obtain⟨rfl,rfl⟩:=QX h;exact Dead.refl _
     ·split at h
      ·split at h
       ·rename_i hg;split at h
        ·split at h
         ·obtain⟨rfl,rfl⟩:=QX h;exact Dead.upd _ _ _ (by rw[hg];rfl)
         ·cases h
        ·cases h
       ·cases h
      ·cases h
    ·cases h
 ·obtain rfl:=Dk hk h;exact Dead.refl _
theorem NW {B F:Heap}{pl:Nat→Value}{tb:Nat→Option Bool}{s:St}{env:Env}{σ:Heap}(hG:Gam P B F pl tb s env σ) {x:Operand}{b:Bool}(h:Ct s.env x=some b):Q3 env x=.bool b:=by
 unfold Ct at h;split at h
 ·rename_i j;split at h
  ·rename_i gs v he;split at h
   ·split at h
    ·rename_i k y;split at h
     ·obtain rfl:=osj h;have:=hG.env.getD j undef;rw[he] at this;simp only[SR] at this;have h2:=this.2.1 (fun g hg=>by cases hg);have h3:[env.getD j undef]=[Value.bool _]:=h2;exact(List.cons.inj h3).1
     ·cases h
    ·cases h
   ·cases h
  ·cases h
 ·cases h
theorem KE {B F:Heap}{pl:Nat→Value}{tb:Nat→Option Bool}{s:St}{env:Env}{σ:Heap}(hG:Gam P B F pl tb s env σ) {g:Option (Nat×Bool)}{t:Bool}(h:Q1h s.env g=some t):Jc env g=some t:=by
 unfold Q1h at h;split at h
 ·cases h
 ·rename_i j want;split at h
  ·rename_i b hb;obtain rfl:=osj h;have:=NW hG hb;simp only[Q3] at this;simp only[Jc,this]
  ·cases h
theorem UZ {B F:Heap}{pl:Nat→Value}{tb:Nat→Option Bool}{s:St}{env:Env}{σ:Heap}(hG:Gam P B F pl tb s env σ) {gs:List Gd}(hg:Gds tb gs) {c a b:Operand}{v:SV}(h:FD gs s.env c a b=some v) :
  ∃ u,Q5 (.pick c a b) (Q3 env) σ=some (u,σ)∧SR P B pl tb v u:=by
 unfold FD at h;split at h
 ·rename_i t ht;have e:=NW hG ht;obtain rfl:=osj h;cases t with
  |true=>exact⟨Q3 env a,by simp only[Q5,e];rfl,hG.evs hg a⟩
  |false=>exact⟨Q3 env b,by simp only[Q5,e];rfl,hG.evs hg b⟩
 have hc:=hG.evs hg c;unfold Q41 at h;split at h
 ·rename_i n t heq;rw[heq] at hc;simp only[SR] at hc;obtain⟨e,cJ⟩:=hc;have ht:∀ w,t=w→Gds tb (gs++[⟨n,w,t⟩]):=fun w hw g dz=>by
   rcases List.mem_append.1 dz with h1|h1
   ·exact hg g h1
   ·obtain rfl:=List.mem_singleton.1 h1;exact⟨hw,cJ⟩
  have hv:∀ u,(if t then Q3 env a else Q3 env b)=u→Q5 (.pick c a b) (Q3 env) σ=some (u,σ):=fun u hu=>by simp only[Q5,e];rw[←hu]
  split at h
  ·rename_i b';simp only[Option.map_eq_some_iff] at h;obtain⟨y,h1,rfl⟩:=h;refine⟨.bool (t||y),hv _ ?_,J6 _⟩;cases t with
   |true=>rfl
   |false=>simpa using W2 h1 (hG.evs (ht false rfl) _)
  ·rename_i a' aA;simp only[Option.map_eq_some_iff] at h;obtain⟨x,h1,rfl⟩:=h;refine⟨.bool (t&&x),hv _ ?_,J6 _⟩;cases t with
   |true=>simpa using W2 h1 (hG.evs (ht true rfl) _)
   |false=>rfl
  ·split at h
   ·rename_i k x k' y h1 h2;split at h
    ·rename_i hk;subst hk;obtain rfl:=osj h;refine⟨.int k (if t then x else y),hv _ ?_,XB _ _⟩;cases t with
     |true=>have:=hG.evs (ht true rfl) a;rw[h1] at this;exact J1 rfl this
     |false=>have:=hG.evs (ht false rfl) b;rw[h2] at this;exact J1 rfl this
    ·cases h
   ·rename_i x y h1 h2;obtain rfl:=osj h;refine⟨.bool (if t then x else y),hv _ ?_,J6 _⟩;cases t with
    |true=>have:=hG.evs (ht true rfl) a;rw[h1] at this;exact W2 rfl this
    |false=>have:=hG.evs (ht false rfl) b;rw[h2] at this;exact W2 rfl this
   ·cases h
 ·cases h
theorem Gam.bid {B F:Heap}{pl:Nat→Value}{tb:Nat→Option Bool}{s:St}{env:Env}{σ:Heap}(hG:Gam P B F pl tb s env σ) {j:Nat}{v:SV}{c:Bool}(hv:∀ tb',(∀ n c,tb n=some c→tb' n=some c)→tb' s.nx=some c→SR P B pl tb' v (env.getD j undef)) :
  ∃ tb',(∀ n c,tb n=some c→tb' n=some c)∧tb' s.nx=some c∧Gam P B F pl tb' ⟨s.env.set j v,s.own,s.nx+1⟩ env σ:=by
 refine⟨fun n=>if n=s.nx then some c else tb n,?_,by simp,?_⟩
 ·intro n c' hn;by_cases e:n=s.nx
  ·rw[e,hG.free _ (Nat.le_refl _)] at hn;cases hn
  ·simp only[if_neg e];exact hn
 ·have hm:∀ n c',tb n=some c'→(fun n=>if n=s.nx then some c else tb n) n=some c':=fun n c' hn=>by
   by_cases e:n=s.nx
   ·rw[e,hG.free _ (Nat.le_refl _)] at hn;cases hn
   ·simp only[if_neg e];exact hn
  refine⟨hG.bf,hG.le,?_,fun d=>(hG.obj d).mono (Heap.Le.refl _) hm fun _ _ _=>rfl,hG.fresh,hG.sep,fun n hn=>?_⟩
  ·have h1:=SRs.mono (Heap.Le.refl B) hm _ _ hG.env;by_cases hj:j<env.length
   ·have:=h1.set j (hv _ hm (by simp))
    rwa [List.getD_eq_getElem?_getD,List.getElem?_eq_getElem hj,Option.getD_some,List.set_getElem_self] at this
   ·have:s.env.set j v=s.env:=List.set_eq_of_length_le (by rw[hG.env.length];omega);rw[this];exact h1
  ·have:n≠s.nx:=by simp only at hn;omega
   simp only[if_neg this];exact hG.free n (by simp only at hn;omega)
theorem Q0y {gs:List Gd}(h:¬ ∀ g∈gs,g.c=g.want):∃ g∈gs,g.c≠g.want:=by
 rcases Classical.em (∃ g∈gs,g.c≠g.want) with h'|h'
 ·exact h'
 ·exact absurd (fun g hg=>Classical.byContradiction fun aA=>h' ⟨g,hg,aA⟩) h
theorem We {B F:Heap}{pl:Nat→Value}{tb:Nat→Option Bool}{s:St}{env:Env}{σ:Heap}(hG:Gam P B F pl tb s env σ) {j:Nat}{want:Bool}{gs:List Gd}{s':St}(h:H9 s j want=some (gs,s')) :
  ∃ tb',Gam P B F pl tb' s' env σ∧(∀ g∈gs,tb' g.id=some g.c)∧∃ b,Jc env (some (j,want))=some b∧(b=true→∀ g∈gs,g.c=g.want)∧(b=false→∃ g∈gs,g.c≠g.want):=by
 have hj:=hG.env.getD j undef;unfold H9 at h;split at h
 ·rename_i c heq;obtain⟨rfl,rfl⟩:=QX h;rw[heq] at hj;have hb:env.getD j undef=.bool c:=W2 (s:=.val .bo c) rfl hj;obtain⟨tb',h1,h2,h3⟩:=hG.bid (j:=j) (v:=.bid s.nx c) (c:=c) fun tb' _ h=>by simp only[SR];exact⟨hb,h⟩
  refine⟨tb',h3,fun g hg=>by obtain rfl:=List.mem_singleton.1 hg;exact h2,c==want,by simp only[Jc,hb],fun e g hg=>?_,fun e=>⟨_,List.mem_singleton.2 rfl,?_⟩⟩
  ·obtain rfl:=List.mem_singleton.1 hg;simpa using e
  ·simpa using e
 ·rename_i n c heq;obtain⟨rfl,rfl⟩:=QX h;rw[heq] at hj;simp only[SR] at hj;refine⟨tb,hG,fun g hg=>by obtain rfl:=List.mem_singleton.1 hg;exact hj.2,c==want,by simp only[Jc,hj.1],fun e g hg=>?_,fun e=>⟨_,List.mem_singleton.2 rfl,?_⟩⟩
  ·obtain rfl:=List.mem_singleton.1 hg;simpa using e
  ·simpa using e
 ·rename_i oI c heq;obtain⟨rfl,rfl⟩:=QX h;rw[heq] at hj;simp only[SR] at hj;obtain⟨⟨k1,k0⟩,k2,k3⟩:=hj;obtain⟨tb',h1,h2,h3⟩:=hG.bid (j:=j) (v:=.grd oI (.bid s.nx c)) (c:=c) fun tb' hm h=>by
   simp only[SR];exact⟨⟨fun g hg=>hm _ _ (k1 g hg),h⟩,fun hall=>⟨W2 (s:=.val .bo c) (P:=P) (B:=B) (pl:=pl) (tb:=tb) rfl (by simpa only [SR] using k2 hall),h⟩,k3⟩
  refine⟨tb',h3,fun g hg=>?_,?_⟩
  ·rcases List.mem_append.1 hg with h4|h4
   ·exact h1 _ _ (k1 g h4)
   ·obtain rfl:=List.mem_singleton.1 h4;exact h2
  ·by_cases hall:∀ g∈oI,g.c=g.want
   ·have hb:env.getD j undef=.bool c:=W2 (s:=.val .bo c) (P:=P) (B:=B) (pl:=pl) (tb:=tb) rfl (by simpa only [SR] using k2 hall);refine⟨c==want,by simp only[Jc,hb],fun e g hg=>?_,fun e=>⟨_,List.mem_append.2 (.inr (List.mem_singleton.2 rfl)),by simpa using e⟩⟩;rcases List.mem_append.1 hg with h4|h4
    ·exact hall g h4
    ·obtain rfl:=List.mem_singleton.1 h4;simpa using e
   ·have hex:=Q0y hall;refine⟨false,by simp only[Jc,k3 hex];rfl,(fun e=>by cases e),fun _=>?_⟩;obtain⟨g,hg,aA⟩:=hex;exact⟨g,List.mem_append.2 (.inl hg),aA⟩
 ·rename_i oI n c heq;obtain⟨rfl,rfl⟩:=QX h;rw[heq] at hj;simp only[SR] at hj;obtain⟨⟨k1,k0⟩,k2,k3⟩:=hj;refine⟨tb,hG,fun g hg=>?_,?_⟩
  ·rcases List.mem_append.1 hg with h4|h4
   ·exact k1 g h4
   ·obtain rfl:=List.mem_singleton.1 h4;exact k0
  ·by_cases hall:∀ g∈oI,g.c=g.want
   ·obtain⟨hb,cJ⟩:=k2 hall;refine⟨c==want,by simp only[Jc,hb],fun e g hg=>?_,fun e=>⟨_,List.mem_append.2 (.inr (List.mem_singleton.2 rfl)),by simpa using e⟩⟩;rcases List.mem_append.1 hg with h4|h4
    ·exact hall g h4
    ·obtain rfl:=List.mem_singleton.1 h4;simpa using e
   ·have hex:=Q0y hall;refine⟨false,by simp only[Jc,k3 hex];rfl,(fun e=>by cases e),fun _=>?_⟩;obtain⟨g,hg,aA⟩:=hex;exact⟨g,List.mem_append.2 (.inl hg),aA⟩
 ·cases h
theorem Gam.gcall {B F:Heap}{pl:Nat→Value}{tb:Nat→Option Bool}{s:St}{env:Env}{σ:Heap}(hG:Gam P B F pl tb s env σ) {gs:List Gd}(hg:Gds tb gs) (args:List Operand):SRs P σ JK ZA (P4 s.own (args.map (gev gs s.env))) (args.map (Q3 env)) :=
 Ky hG.leB hG.obj (SRs.map fun x _=>hG.evs hg x)
theorem Gam.gfun {B F:Heap}{pl:Nat→Value}{tb:Nat→Option Bool}{s:St}{env:Env}{σ:Heap}(hG:Gam P B F pl tb s env σ) {gs:List Gd}(hg:Gds tb gs) (f:Operand):SR P σ JK ZA ((P4 s.own [gev gs s.env f]).getD 0 .any) (Q3 env f):=by have:=(Ky hG.leB hG.obj (show SRs P B pl tb [gev gs s.env f] [Q3 env f] by simp only[SRs];exact⟨_,[],rfl,hG.evs hg f,rfl⟩)).getD 0 poison;simpa using this
theorem M6 {env:Env}{f:Operand}{args:List Operand}{σ:Heap}{K:Value→Heap→Prop}{g:FuncId}{a b:Array Value}(e:Q3 env f=.func (.func g) a b) (h:VCalled P g (a.toList++args.map (Q3 env)++b.toList) σ K) :
  vop (Q1 P) (.callV f args) env σ K:=by
 simp only[vop,e];exact h
def XOk (P:Program) (f:Nat) (x:XSp):Prop :=
 ∀ (B F:Heap) (pl:Nat→Value) (tb:Nat→Option Bool) (s:St) (env:Env) (σ:Heap) (d:Nat) (args:List SV) (vs:List Value) (K:SV→St→Prop) (R:Value→Heap→Prop),
  Gam P B F pl tb s env σ→SRs P B pl tb args vs→x d args s K →
  (∀ v s' B' F' pl' tb' u σ',K v s'→GBase B F σ B' F' σ'→Gam P B' F' pl' tb' s' env σ'→SR P B' pl' tb' v u→R u σ')→VCalled P f vs σ R
def Q3r (P:Program) (f:Nat) (x:XSp) (j:Nat):Prop :=
 ∀ (B F:Heap) (pl:Nat→Value) (tb:Nat→Option Bool) (s:St) (env:Env) (σ:Heap) (d:Nat) (args:List SV) (vs:List Value) (K:SV→St→Prop) (R:Value→Heap→Prop) (t:Nat),
  Gam P B F pl tb s env σ→SRs P B pl tb args vs→A7 s.own j args=some t→x d args s K →
  (∀ v s' u σ',K v s'→Dead σ σ'→Gam P B F pl tb s' env σ'→SR P B pl tb v u→FrL [t] s s' pl pl σ σ'→R u σ')→VCalled P f vs σ R
def Z5e (P:Program) (f:Nat) (it:ISp):Prop:=XO P f ∧
 ∀ (B:Heap) (args:List SV) (vs:List Value) (c:Prop) (m ar:Nat) (xs:Nat→List SV),SRs P B JK ZA args vs→it args=some (c,m,ar,xs)→c →
  (∀ k,(xs k).length=ar∧SVs.pure (xs k)=true)∧∀ (i:Nat) (Y:R1) (J:Nat→Heap→Prop) (E:Heap→Prop) (τ0:Heap),U9 P i Y→(∀ k τ,J k τ→B.Le τ) →
   (∀ k us τ,k<m→J k τ→SRs P B JK ZA (xs k) us→Y us τ fun v τ'=>(v=.bool true∧J (k+1) τ')∨(v=.bool false∧E τ')) →
   J 0 τ0→VCallsTo P f (.func (.yield i) #[] #[]::vs) τ0 fun _ τ=>J m τ∨E τ
def Q2e (P:Program) (o:Nat) (y:YSp):Prop :=
 ∀ (B F:Heap) (pl:Nat→Value) (tb:Nat→Option Bool) (s:St) (env:Env) (σ:Heap) (args:List SV) (us:List Value) (K:SV→St→Prop) (R:Value→Heap→Prop) (i:Nat),
  Gam P B F pl tb s env σ→SRs P B pl tb args us→y args s K→pl o=.pointer (some ⟨i,0,none⟩) →
  (∀ v s' B' F' pl' tb' u σ',K v s'→GBase B F σ B' F' σ'→Gam P B' F' pl' tb' s' env σ'→SR P B' pl' tb' v u→R u σ')→Pu P i us σ R
def Z5g (P:Program) (f:Nat) (x:Z33):Prop:=XO P f ∧
 ∀ (B F:Heap) (pl:Nat→Value) (tb:Nat→Option Bool) (s:St) (env:Env) (σ:Heap) (o:Nat) (args:List SV) (vs:List Value) (y:YSp) (K:St→Prop) (R:Heap→Prop),
  Gam P B F pl tb s env σ→SRs P B pl tb args vs→Q2e P o y→x o args (o,y) s K →
  (∀ s' B' F' pl' tb' ae σ',K s'→GBase B F σ B' F' σ'→Gam P B' F' pl' tb' s' ae σ'→R σ')→VCallsTo P f vs σ fun _=>R
structure COk (P:Program) (C:Cx):Prop where
 cs:CsOk P C.cs
 xs:∀ f x,Qq C.xs f=some x→XOk P f x
 it:∀ f x,Qq C.it f=some x→Z5e P f x
 yl:∀ o y,Qq C.yl o=some y→Q2e P o y
 iy:∀ f x,Qq C.iy f=some x→Z5g P f x
 xf:∀ f j,Qq C.xf f=some j→∀ x,Qq C.xs f=some x→Q3r P f x j
theorem PE {C:Cx}(aw:CsOk P C.cs) {B F:Heap}{pl:Nat→Value}{tb:Nat→Option Bool}{s:St}{env:Env}{σ:Heap}(hG:Gam P B F pl tb s env σ) {gs:List Gd}(hg:Gds tb gs) {raw:Bool}{o:VOp}{cs:List Prop}{v:SV}
  (h:gqc C raw o (gev gs s.env) s.own=some (cs,v)) (hc:∀ c∈cs,c) {K:Value→Heap→Prop}(hK:∀ u,SR P B pl tb v u→K u σ):vop (Q1 P) o env σ K:=by
 have flat:∀ {c:Prop}{v':SV},(bif v'.ret 0 then some ([c],v') else none)=some (cs,v)→v'.ret 0=true∧c∧v'=v:=fun {c v'} h=>by
  cases hv:v'.ret 0 with
  |false=>rw[hv] at h;cases h
  |true =>rw[hv] at h;obtain⟨rfl,rfl⟩:=QX h;exact⟨rfl,hc _ (by simp),rfl⟩
 have quiet:∀ o,gq C.kt raw o (gev gs s.env) s.own=some (cs,v)→(∀ K,QI (Q5 o (Q3 env) σ) (fun p=>K p.1 p.2)→vop (Q1 P) o env σ K)→vop (Q1 P) o env σ K:=fun o h hv=>by obtain⟨u,h1,h2⟩:=SN (hG.evs hg) (fun _=>rfl) hG.leB hG.obj h hc;exact hv K (by rw[h1];exact hK u h2)
 cases o
 case callF f args =>
  simp only[gqc] at h;split at h
  ·rename_i c v' heq;obtain⟨h1,h2,rfl⟩:=flat h;obtain⟨g,a,b,h3,h4,_⟩:=ZS aw (show SR P σ JK ZA (.fn f [] []) (.func (.func f) #[] #[]) by simp only[SR,SRs];exact⟨[],[],rfl,rfl,rfl⟩) (hG.gcall hg args) heq h1 rfl h2;obtain⟨rfl,rfl,rfl⟩:=(by simpa using h3:f=g∧#[]=a∧#[]=b);have:=h4.mono (R':=K) fun u σ' hr=>by
    obtain⟨rfl,hu⟩:=hr.flat h1;exact hK u (hu.retd (fun j hj=>by omega) _ _ h1)
   show VCalled P f (args.map (Q3 env)) σ K;simpa using this
  ·cases h
 case callV f args =>
  simp only[gqc] at h;split at h
  ·rename_i c v' heq;obtain⟨h1,h2,rfl⟩:=flat h;obtain⟨g,a,b,h3,h4,_⟩:=ZS aw (hG.gfun hg f) (hG.gcall hg args) heq h1 rfl h2;exact M6 h3 (h4.mono fun u σ' hr=>by
    obtain⟨rfl,hu⟩:=hr.flat h1;exact hK u (hu.retd (fun j hj=>by omega) _ _ h1))
  ·cases h
 case ext x =>
  cases x
  case nextMap x=>cases h
  all_goals exact quiet _ h fun _ h=>h
 all_goals exact quiet _ h fun _ h=>h
end
end Go.V
namespace Go.V
open Go
section
variable {P:Program}
mutual
theorem EM:∀ (v:SV) {K:SV→Prop},nmV v K→K v
 |.val k x,K,h=>by simp only[nmV] at h;exact h x rfl
 |.agg l,K,h=>by simp only[nmV] at h;exact T6 l h
 |.tup l,K,h=>by simp only[nmV] at h;exact T6 l h
 |.any,_,h|.dd _ _,_,h|.bid _ _,_,h|.grd _ _,_,h|.nilS,_,h|.nilP,_,h|.nilM,_,h|.nilF,_,h|.lst _,_,h|.sub _ _ _ _,_,h|.elp _ _ _ _,_,h|.rop _ _ _ _,_,h|.box _ _,_,h|.cp _ _,_,h|.map _,_,h|.fn _ _ _,_,h|.pf _ _ _ _,_,h=>by simp only[nmV] at h;exact h
theorem T6:∀ (l:List SV) {K:List SV→Prop},Q8r l K→K l
 |[],K,h=>by simp only[Q8r] at h;exact h
 |v::r,K,h=>by simp only[Q8r] at h;exact T6 r (EM v h)
end
theorem Zj {C:Cx}{o:VOp}{ev:Operand→SV}{v:SV}{K:SV→Prop}(h:gnm C o ev v K):K v:=by
 unfold gnm at h;cases hb:(C.nm&&Z4l o ev) with
 |true=>rw[hb] at h;exact EM v h
 |false=>rw[hb] at h;exact h
theorem P2 {B:Heap}{pl:Nat→Value}{tb:Nat→Option Bool}{v:SV}{u:Value}(h:SR P B pl tb v u):SR P B pl tb (DU v) u∧gtb tb (DU v):=by
 cases v with
 |bid n c=>simp only[SR] at h;obtain⟨rfl,_⟩:=h;exact⟨J6 _,trivial⟩
 |_=>exact⟨h,trivial⟩
theorem HW {tb:Nat→Option Bool}(v:SV):gtb tb (DU v):=by cases v<;>trivial
theorem H3 {C:Cx}(aw:COk P C) {B F:Heap}{pl:Nat→Value}{tb:Nat→Option Bool}{s:St}{env:Env}{σ:Heap}(hG:Gam P B F pl tb s env σ) {d:Nat}{f:SV}{args:List SV}{fV:Value}{vs:List Value}(hf:SR P B pl tb f fV) (ha:SRs P B pl tb args vs) {K:SV→St→Prop}(h:F5 C d f args s K) {R:Value→Heap→Prop}
  (hK:∀ v s' B' F' pl' tb' u σ',K v s'→GBase B F σ B' F' σ'→Gam P B' F' pl' tb' s' env σ'→SR P B' pl' tb' v u→R u σ'):∃ g a b,fV=.func (.func g) a b∧VCalled P g (a.toList++vs++b.toList) σ R:=by
 unfold F5 at h;have kU:SR P σ JK ZA ((P4 s.own [f]).getD 0 .any) fV:=by have:=(Ky hG.leB hG.obj (show SRs P B pl tb [f] [fV] by simp only[SRs];exact⟨_,[],rfl,hf,rfl⟩)).getD 0 poison;simpa using this
 have jD:=Ky hG.leB hG.obj ha;split at h
 ·rename_i c v bs heq;cases hb:(v.ret bs.length&&(bs.all OB.ret&&Nat.blt 0 C.nt)) with
  |false=>rw[hb] at h;exact h.elim
  |true =>rw[hb] at h;obtain⟨h1,h2⟩:=h;simp only[Bool.and_eq_true] at hb;obtain⟨g,a,b,e,aB,_⟩:=ZS aw.cs kU jD heq hb.1 hb.2.1 h1;refine⟨g,a,b,e,aB.mono fun u σ' hr=>?_⟩;obtain⟨pl',h3,h4⟩:=hr.gam (nt:=C.nt) (d:=d) (by simpa [Nat.blt_eq] using hb.2.2) hG hb.1 hb.2.1;exact hK _ _ B F pl' tb u σ' h2 (.of hG.bf hr.1.2) h3 h4
 ·exact h.elim
theorem H7 {C:Cx}(aw:COk P C) {B F:Heap}{pl:Nat→Value}{tb:Nat→Option Bool}{s:St}{env:Env}{σ:Heap}(hG:Gam P B F pl tb s env σ) {d:Nat}{f:SV}{args:List SV}{fV:Value}{vs:List Value}(hf:SR P B pl tb f fV) (ha:SRs P B pl tb args vs) {K:SV→St→Prop}(h:RL C d f args s K) (tA:∀ o,f≠.dd o .yv) {R:Value→Heap→Prop}
  (hK:∀ v s' B' F' pl' tb' u σ',K v s'→GBase B F σ B' F' σ'→Gam P B' F' pl' tb' s' env σ'→SR P B' pl' tb' v u→R u σ'):∃ g a b,fV=.func (.func g) a b∧VCalled P g (a.toList++vs++b.toList) σ R:=by
 unfold RL at h;split at h
 ·rename_i g a b;split at h
  ·rename_i x hx;have uL:=hf;simp only[SR] at hf;obtain⟨a',b',rfl,h1,h2⟩:=hf;refine⟨g,a'.toArray,b'.toArray,rfl,?_⟩;have:=aw.xs g x hx B F pl tb s env σ d _ _ K R hG (h1.append (ha.append h2)) h hK;simpa using this
  ·exact H3 aw hG hf ha h hK
 ·exact(tA _ rfl).elim
 ·exact H3 aw hG hf ha h hK
theorem Fm {C:Cx}{B F:Heap}{pl:Nat→Value}{tb:Nat→Option Bool}{s:St}{env:Env}{σ:Heap}(hG:Gam P B F pl tb s env σ) {d:Nat}{o:VOp}{K:SV→St→Prop}(h:gnd C d o (gev [] s.env) s K) {R:Value→Heap→Prop}
  (hK:∀ v s' B' F' pl' tb' u σ',K v s'→GBase B F σ B' F' σ'→Gam P B' F' pl' tb' s' env σ'→SR P B' pl' tb' v u→R u σ'):vop (Q1 P) o env σ R:=by
 obtain⟨u,σ',pl',v,s',h1,h2,h3,h4⟩:=Ti (fun x=>hG.evs (Gds.nil (tb:=tb)) x) hG h;have fin:QI (Q5 o (Q3 env) σ) (fun p=>R p.1 p.2):=by rw[h1];exact hK v s' B F pl' tb u σ' h2 (.of hG.bf (V7 h1)) h3.1 h4
 cases o
 case buildSlice e z n ps=>exact fin
 case makeSlice e b z l c=>exact fin
 case append e b x y=>exact fin
 case store size a x=>exact fin
 all_goals exact h.elim
section
variable {B F:Heap}{pl:Nat→Value}{tb:Nat→Option Bool}{s:St}{env:Env}{σ:Heap}
def Heap.ins (B σ:Heap) (i:Nat) (h:B.n≤σ.n):Heap where
 get j:=if j=i then σ.get i else B.get j
 n:=σ.n
 wf j hj:=by
  by_cases e:j=i
  ·simp only[if_pos e];subst e;exact σ.wf j hj
  ·simp only[if_neg e];exact B.wf j (Nat.le_trans h hj)
theorem Heap.ins_self (B σ:Heap) (i:Nat) (h:B.n≤σ.n):(B.ins σ i h).get i=σ.get i:=by simp[Heap.ins]
theorem Heap.ins_ne (B σ:Heap) {i j:Nat}(h:B.n≤σ.n) (e:j≠i):(B.ins σ i h).get j=B.get j:=by simp[Heap.ins,e]
theorem Heap.Le.ins {B σ:Heap}(h:B.Le σ) (i:Nat):B.Le (B.ins σ i h.1):=⟨h.1,fun j b hb=>by
 by_cases e:j=i
 ·subst e;rw[Heap.ins_self];exact h.2 _ _ hb
 ·rw[Heap.ins_ne _ _ _ e];exact hb⟩
theorem Heap.Le.ins_le {B σ:Heap}(h:B.Le σ) (i:Nat):(B.ins σ i h.1).Le σ:=⟨Nat.le_refl _,fun j b hb=>by
 by_cases e:j=i
 ·subst e;rw[Heap.ins_self] at hb;exact hb
 ·rw[Heap.ins_ne _ _ _ e] at hb;exact h.2 _ _ hb⟩
theorem Heap.ins_ins {B F σ:Heap}(h:B.Le F) (i:Nat) (hB:B.n≤σ.n) (hF:F.n≤σ.n):(B.ins σ i hB).Le (F.ins σ i hF):=⟨Nat.le_refl _,fun j b hb=>by
 by_cases e:j=i
 ·subst e;rw[Heap.ins_self] at hb ⊢;exact hb
 ·rw[Heap.ins_ne _ _ _ e] at hb ⊢;exact h.2 _ _ hb⟩
theorem Gam.freeze (hG:Gam P B F pl tb s env σ) {o i:Nat}(hl:(Q7 s.own o).live=true) (hi:Oid (pl o) i) :
  GBase B F σ (B.ins σ i hG.leB.1) (F.ins σ i hG.le.1) σ∧Gam P (B.ins σ i hG.leB.1) (F.ins σ i hG.le.1) pl tb ⟨s.env,oset s.own o .dead,s.nx⟩ env σ:=by
 have l9:=hG.fresh o i hl hi;have lv:∀ d,(Q7 (oset s.own o .dead) d).live=true→d≠o∧(Q7 s.own d).live=true:=fun d h=>by
  rw[Qf] at h;by_cases e:d=o
  ·rw[if_pos e] at h;cases h
  ·rw[if_neg e] at h;exact⟨e,h⟩
 refine⟨⟨hG.leB.ins i,hG.le.ins i,fun j b h1 h2=>?_,.refl _⟩,⟨Heap.ins_ins hG.bf i _ _,hG.le.ins_le i,SRs.mono (hG.leB.ins i) (fun _ _ h=>h) _ _ hG.env,fun d=>?_,fun d j h1 h2=>?_,fun d d' j aA h1 h2 h3 h4=>hG.sep d d' j aA (lv d h1).2 (lv d' h2).2 h3 h4,hG.free⟩⟩
 ·have e:j≠i:=by rintro rfl;rw[l9] at h1;cases h1
  rw[Heap.ins_ne _ _ _ e];exact h2
 ·simp only[Qf];by_cases e:d=o
  ·rw[if_pos e];trivial
  ·rw[if_neg e];exact(hG.obj d).mono (hG.leB.ins i) (fun _ _ h=>h) fun _ _ _=>rfl
 ·obtain⟨aA,bL⟩:=lv d h1;have e:j≠i:=by rintro rfl;exact hG.sep d o j aA bL hl h2 hi
  rw[Heap.ins_ne _ _ _ e];exact hG.fresh d j bL h2
theorem Gam.own {s':St}(hG:Gam P B F pl tb s env σ) (h1:s'.env=s.env) (h2:∀ d,Q7 s'.own d=Q7 s.own d) (h3:s'.nx=s.nx):Gam P B F pl tb s' env σ :=
 ⟨hG.bf,hG.le,by rw[h1];exact hG.env,fun d=>by rw[h2];exact hG.obj d,fun d i=>by rw[h2];exact hG.fresh d i,fun d d' i aA=>by rw[h2,h2];exact hG.sep d d' i aA,fun n hn=>hG.free n (by rw[←h3];exact hn)⟩
theorem Gam.drop (hG:Gam P B F pl tb s env σ) (o:Nat):Gam P B F pl tb ⟨s.env,oset s.own o .dead,s.nx⟩ env σ:=by
 have lv:∀ d,(Q7 (oset s.own o .dead) d).live=true→d≠o∧(Q7 s.own d).live=true:=fun d h=>by
  rw[Qf] at h;by_cases e:d=o
  ·rw[if_pos e] at h;cases h
  ·rw[if_neg e] at h;exact⟨e,h⟩
 refine⟨hG.bf,hG.le,hG.env,fun d=>?_,fun d j h1 h2=>hG.fresh d j (lv d h1).2 h2,fun d d' j aA h1 h2 h3 h4=>hG.sep d d' j aA (lv d h1).2 (lv d' h2).2 h3 h4,hG.free⟩;simp only[Qf];by_cases e:d=o
 ·rw[if_pos e];trivial
 ·rw[if_neg e];exact hG.obj d
theorem C5 (s:St) (d:Nat) (b:OB) (q:Nat):Q7 (s.make d .dead).own q=Q7 (oset (s.make d b).own d .dead) q:=by
 simp only[St.make,Qf];by_cases e:q=d
 ·rw[if_pos e,if_pos e]
 ·rw[if_neg e,if_neg e,if_neg e]
theorem I3 {C:Cx}(hG:Gam P B F pl tb s env σ) {d:Nat}{x:Operand}{K:SV→St→Prop}(h:gn C d (.ext (.rangeMap x)) (gev [] s.env) s K) {R:Value→Heap→Prop}
  (hK:∀ v s' B' F' pl' tb' u σ',K v s'→GBase B F σ B' F' σ'→Gam P B' F' pl' tb' s' env σ'→SR P B' pl' tb' v u→R u σ'):vop (Q1 P) (.ext (.rangeMap x)) env σ R:=by
 have ha:=hG.evs (Gds.nil (tb:=tb)) x;simp only[gn] at h;split at h
 ·rename_i o h1;rw[h1] at ha;simp only[SR] at ha;split at h
  ·rename_i kk vk m ho;split at h
   ·have aj:=hG.obj o;rw[ho] at aj;obtain⟨i,es,clock,h2,h3,h4⟩:=aj;obtain⟨g1,g2⟩:=hG.freeze (o:=o) (i:=i) (by rw[ho];rfl) (by rw[h2];rfl)
    have iw:=g2.push d (.iter kk vk m []) (.pointer (some ⟨σ.n,0,none⟩)) (.obj (.iter i clock [] clock) true) rfl
     ⟨σ.n,i,es,clock,true,[],rfl,Heap.get_push_self _ _,by rw[Heap.ins_self];exact h3,h4.mono g1.b,rfl,fun t r h=>by simp at h⟩
    show QI (Q5 (.ext (.rangeMap x)) (Q3 env) σ) _;have hv:Q5 (.ext (.rangeMap x)) (Q3 env) σ=some (.pointer (some ⟨σ.n,0,none⟩),σ.push (.obj (.iter i clock [] clock) true)):=by simp only[Q5,Z_,ha.1,h2,Heap.mapAt,h3]
    rw[hv];exact hK _ _ _ _ _ _ _ _ h (g1.trans (.of g2.bf (Dead.push _ _))) iw (by simp only[SR,W7];exact⟨_,rfl,rfl⟩)
   ·exact h.elim
  ·exact h.elim
 ·exact h.elim
theorem Od {C:Cx}(hG:Gam P B F pl tb s env σ) {d:Nat}{x:Operand}{K:SV→St→Prop}(h:gn C d (.ext (.nextMap x)) (gev [] s.env) s K) {R:Value→Heap→Prop}
  (hK:∀ v s' B' F' pl' tb' u σ',K v s'→GBase B F σ B' F' σ'→Gam P B' F' pl' tb' s' env σ'→SR P B' pl' tb' v u→R u σ'):vop (Q1 P) (.ext (.nextMap x)) env σ R:=by
 have ha:=hG.evs (Gds.nil (tb:=tb)) x;simp only[gn] at h;split at h
 ·rename_i o f h1;rw[h1] at ha;simp only[SR] at ha;split at h
  ·rename_i kk vk m dn ho;split at h
   ·rename_i hf;obtain⟨rfl,nF⟩:=hf;have ak:(Q7 s.own o).live=true:=by rw[ho];rfl
    have aj:=hG.obj o;rw[ho] at aj;obtain⟨j,i,es,clock,wr,seen,h2,h3,h4,h5,h6⟩:=aj;obtain⟨b,e2,e3⟩:=ha;rw[h2] at e2;obtain rfl:j=b:=by simpa using e2
    have aV:σ.mapAt i=some (es,clock,wr):=by simp[Heap.mapAt,hG.leB.2 _ _ h4]
    have hlen:=h5.1.length;obtain⟨hA,hB⟩:=h;have a7:F.get j=none:=hG.fresh o j ak (by rw[h2];rfl);have bm:∀ q i',q≠o→(Q7 s.own q).live=true→Oid (pl q) i'→i'≠j:=fun q i' hq hl hi e=>by subst e;exact hG.sep q o i' hq hl ak hi (by rw[h2];rfl)
    show Ay (Q3 env x) σ R;unfold Ay;rw[e3];simp only[h3,aV];refine⟨?_,?_,fun hall=>?_,fun e he ld=>?_⟩
    ·cases es with
     |nil=>simp
     |cons e es=>simp[h5.2.2 e (by simp)]
    ·rw[List.all_eq_true];intro e he;obtain⟨r,hr⟩:=List.mem_iff_getElem?.1 he;obtain⟨_,k1,_⟩:=MR.at h5.1 hr;exact LD nF k1
    ·refine hK _ _ _ _ _ _ _ _ (hA fun r hr=>?_) (.of hG.bf (Dead.refl σ)) hG (by simp only[SR,SRs];exact⟨[.bool false],rfl,_,[],rfl,rfl,rfl⟩);have dO:r<es.length:=by omega
     have he:=List.getElem?_eq_getElem dO;have:=List.all_eq_true.1 hall es[r] (List.getElem_mem dO);have ai:=h5.2.2 _ (List.getElem_mem dO);rw[Bool.or_eq_true,decide_eq_true_eq] at this;rcases this with this|this
     ·rw[List.contains_iff_mem] at this;obtain⟨t,ht⟩:=List.mem_iff_getElem?.1 this;have uM:t<seen.length:=(List.getElem?_eq_some_iff.1 ht).1;have rf:t<dn.length:=by have:=h6.1;omega
      obtain⟨e',k1,k2⟩:=h6.2 t dn[t] (List.getElem?_eq_getElem rf);rw[ht] at k2;have:=C4 h5.2 he k1 (osj k2);rw[this];exact List.getElem_mem rf
     ·omega
    ·obtain⟨r,hr⟩:=List.mem_iff_getElem?.1 he;have dO:r<es.length:=(List.getElem?_eq_some_iff.1 hr).1;have rh:r∉dn:=fun hm=>by
      obtain⟨t,ht⟩:=List.mem_iff_getElem?.1 hm;obtain⟨e',k1,k2⟩:=h6.2 t r ht;rw[hr] at k1;obtain rfl:=osj k1;have:seen.contains e.2.2=true:=by rw[List.contains_iff_mem];exact List.mem_of_getElem? k2
      rw[this] at ld;cases ld
     refine hK _ _ _ _ _ _ _ _ (hB r (by omega) rh) (.of hG.bf (Dead.upd _ _ _ (by rw[h3];rfl))) (hG.write o _ (hG.le.upd a7 _) ak (fun q i' hq hl hi=>Heap.get_upd_ne _ _ (bm q i' hq hl hi)) ⟨j,i,es,clock,wr,seen++[e.2.2],h2,Heap.get_upd_self _ _ (σ.lt h3),h4,h5,?_,fun t r' ht=>?_⟩) (by simp only[SR,SRs];exact⟨[.bool true,e.1,e.2.1],rfl,_,_,rfl,rfl,_,_,rfl,trivial,_,_,rfl,trivial,rfl⟩)
     ·simp[h6.1]
     ·rw[List.getElem?_append] at ht;split at ht
      ·rename_i ai;obtain⟨e',k1,k2⟩:=h6.2 t r' ht;refine⟨e',k1,?_⟩;rw[List.getElem?_append_left (by have:=h6.1;omega)];exact k2
      ·rename_i bt;have h0:t-dn.length=0:=by
        cases hz:t-dn.length with
        |zero=>rfl
        |succ n=>rw[hz] at ht;simp at ht
       rw[h0] at ht;obtain rfl:r=r':=by simpa using ht
       refine⟨e,hr,?_⟩;rw[List.getElem?_append_right (by have:=h6.1;omega),show t-seen.length=0 by have:=h6.1;omega];rfl
   ·exact h.elim
  ·exact h.elim
 ·exact h.elim
theorem S7 {d:Nat}(gM:B.Le F) {ty:Nat}{k:Kind}{xs:List k.T}{nl:Bool}(hk:k.flat=true) {pl':Nat→Value}{u:Value}{σ':Heap}(h1:Gam P B F pl' tb (s.make d (.lst ty k xs nl)) env σ') (h2:SR P B pl' tb (.lst d) u) (hd:Dead σ σ') :
  ∃ B' F',GBase B F σ B' F' σ'∧Gam P B' F' pl' tb (s.make d .dead) env σ'∧SR P B' pl' tb (.val (.list k) xs) u:=by
 have aj:=h1.obj d;have cL:Q7 (s.make d (.lst ty k xs nl)).own d=.lst ty k xs nl:=by simp only[St.make,Qf,if_true]
 rw[cL] at aj;simp only[SR] at h2;obtain⟨rfl,_⟩:=h2;rcases aj with⟨_,hx,hp⟩|⟨_,i,cap,c,t,hp,cK,hg,hlen,b7⟩
 ·refine⟨B,F,.of gM hd,(h1.drop d).own rfl (C5 s d _) rfl,?_⟩;simp only[SR];exact⟨_,rfl,.inl ⟨hx,hp⟩⟩
 ·obtain⟨g1,g2⟩:=h1.freeze (o:=d) (i:=i) (by rw[cL];rfl) (by rw[hp];rfl);refine⟨_,_,(GBase.of gM hd).trans g1,g2.own rfl (C5 s d _) rfl,?_⟩;simp only[SR];refine⟨_,rfl,.inr ⟨i,0,cap,c,⟨k.size,ty⟩,true,t,hp,cK,by rw[Heap.ins_self];exact hg,rfl,by have:=Nat.mul_le_mul_right k.size cK;omega,?_⟩⟩;rw[List.drop_zero];exact b7.mono fun _ _ e=>KC.flat hk e
theorem Ep {d nt:Nat}(cO:0<nt) (hG:Gam P B F pl tb s env σ) {ty:Nat}{k:Kind}{xs:List k.T}{nl:Bool}(hk:k.flat=true) {u:Value}{σ':Heap}(h:Ret P σ (.lst 0) [.lst ty k xs nl] u σ') :
  ∃ B' F' pl',GBase B F σ B' F' σ'∧Gam P B' F' pl' tb (s.make d .dead) env σ'∧SR P B' pl' tb (.val (.list k) xs) u:=by
 obtain⟨pl',h1,h2⟩:=h.gam (d:=d) cO hG (by rfl) (by simp only[List.all_cons,List.all_nil,Bool.and_true,OB.ret];exact hk);simp only[St.makes,Nat.zero_mul,Nat.add_zero,SV.ren] at h1 h2;obtain⟨B',F',k⟩:=S7 hG.bf hk h1 h2 h.1.2;exact⟨B',F',pl',k⟩
theorem MO {nt:Nat}{r:Option (Prop×SV×List OB)}{c:Prop}{v:SV}(h:EG nt r=some (c,v)):∃ ty k xs nl,r=some (c,.lst 0,[.lst ty k xs nl])∧v=.val (.list k) xs∧k.flat=true∧0<nt:=by
 unfold EG at h;split at h
 ·split at h
  ·rename_i k xs _;cases hc:(k.flat&&Nat.blt 0 nt) with
   |false=>rw[hc] at h;cases h
   |true =>rw[hc] at h;obtain⟨rfl,rfl⟩:=QX h;simp only[Bool.and_eq_true,Nat.blt_eq] at hc;exact⟨_,_,_,_,rfl,rfl,hc.1,hc.2⟩
  ·cases h
 ·cases h
theorem E1 {C:Cx}(aw:CsOk P C.cs) (hG:Gam P B F pl tb s env σ) {gs:List Gd}(hg:Gds tb gs) {o:VOp}{c:Prop}{v:SV}{d:Nat}(h:Sq C o (gev gs s.env) s.own=some (c,v)) (hc:c) {K:Value→Heap→Prop}
  (hK:∀ u σ' B' F' pl',GBase B F σ B' F' σ'→Gam P B' F' pl' tb (s.make d .dead) env σ'→SR P B' pl' tb v u→K u σ'):vop (Q1 P) o env σ K:=by
 cases o<;>first|(cases h;done)|skip
 case callF f args =>
  simp only[Sq] at h;obtain⟨ty,k,xs,nl,heq,rfl,hk,cO⟩:=MO h;obtain⟨g,a,b,h3,h4,_⟩:=ZS aw (show SR P σ JK ZA (.fn f [] []) (.func (.func f) #[] #[]) by simp only[SR,SRs];exact⟨[],[],rfl,rfl,rfl⟩) (hG.gcall hg args) heq (by rfl) (by simp only[List.all_cons,List.all_nil,Bool.and_true,OB.ret];exact hk) hc;obtain⟨rfl,rfl,rfl⟩:=(by simpa using h3:f=g∧#[]=a∧#[]=b);have:=h4.mono (R':=K) fun u σ' hr=>by obtain⟨B',F',pl',k1,k2,k3⟩:=Ep (d:=d) cO hG hk hr;exact hK u σ' B' F' pl' k1 k2 k3
  show VCalled P f (args.map (Q3 env)) σ K;simpa using this
 case callV f args =>
  simp only[Sq] at h;obtain⟨ty,k,xs,nl,heq,rfl,hk,cO⟩:=MO h;obtain⟨g,a,b,h3,h4,_⟩:=ZS aw (hG.gfun hg f) (hG.gcall hg args) heq (by rfl) (by simp only[List.all_cons,List.all_nil,Bool.and_true,OB.ret];exact hk) hc;exact M6 h3 (h4.mono fun u σ' hr=>by
   obtain⟨B',F',pl',k1,k2,k3⟩:=Ep (d:=d) cO hG hk hr;exact hK u σ' B' F' pl' k1 k2 k3)
 case buildSlice e z n ps =>
  simp only[Sq] at h;split at h
  ·rename_i k tB;split at h
   ·rename_i dN;split at h
    ·rename_i xs hx;obtain⟨rfl,rfl⟩:=QX h;have tC:gn C d (.buildSlice e z n ps) (gev gs s.env) s (fun v s'=>v=.lst d∧s'=s.make d (.lst e.ty k xs false)):=by
      simp only[gn,tB,hx];rw[if_pos ⟨dN.1,dN.2.1⟩];simp
     obtain⟨u,σ',pl',v,s',h1,⟨rfl,rfl⟩,⟨h3,_⟩,h4⟩:=Mw (fun x=>hG.evs hg x) hG tC;obtain⟨B',F',k1,k2,k3⟩:=S7 hG.bf dN.2.2 h3 h4 (V7 h1);show QI (Q5 (.buildSlice e z n ps) (Q3 env) σ) _;rw[h1];exact hK u σ' B' F' pl' k1 k2 k3
    ·cases h
   ·cases h
  ·cases h
theorem Cb {C:Cx}{o:VOp}{ev:Operand→SV}{own:Own}{c:Prop}{v:SV}(h:Sq C o ev own=some (c,v)):∃ (k:Kind) (xs:List k.T),v=.val (.list k) xs:=by
 cases o<;>first|(cases h;done)|skip
 case callF=>simp only[Sq] at h;obtain⟨ty,k,xs,nl,_,hv,_⟩:=MO h;exact⟨k,xs,hv⟩
 case callV=>simp only[Sq] at h;obtain⟨ty,k,xs,nl,_,hv,_⟩:=MO h;exact⟨k,xs,hv⟩
 case buildSlice e z n ps =>
  simp only[Sq] at h;split at h
  ·split at h
   ·split at h
    ·obtain⟨_,rfl⟩:=QX h;exact⟨_,_,rfl⟩
    ·cases h
   ·cases h
  ·cases h
theorem Q3n {C:Cx}(aw:COk P C) {B F:Heap}{pl:Nat→Value}{tb:Nat→Option Bool}{s:St}{env:Env}{σ:Heap}(hG:Gam P B F pl tb s env σ) {d:Nat}{o:VOp}{K:SV→St→Prop}(h:gn C d o (gev [] s.env) s K) {R:Value→Heap→Prop}
  (hK:∀ v s' B' F' pl' tb' u σ',K v s'→GBase B F σ B' F' σ'→Gam P B' F' pl' tb' s' env σ'→SR P B' pl' tb' v u→R u σ'):vop (Q1 P) o env σ R:=by
 have ah:=hG.evs (Gds.nil (tb:=tb));have act:∀ o {T:Nat},NOk P B F tb o (Q3 env) env σ K T s pl→(∀ R',QI (Q5 o (Q3 env) σ) (fun p=>R' p.1 p.2)→vop (Q1 P) o env σ R')→vop (Q1 P) o env σ R:=fun o _ ⟨u,σ',pl',v,s',h1,h2,h3,h4⟩ hv=>hv R (by rw[h1];exact hK v s' B F pl' tb u σ' h2 (.of hG.bf (V7 h1)) h3.1 h4);have av:∀ args:List Operand,SRs P B pl tb (args.map (gev [] s.env)) (args.map (Q3 env)):=fun args=>SRs.map fun x _=>hG.evs Gds.nil x;cases o
 case alloc t z=>exact act _ (Q23 ah hG h) fun _ h=>h
 case box t x=>exact act _ (Q96 ah hG h) fun _ h=>h
 case buildSlice e z n ps=>exact act _ (Mw ah hG h) fun _ h=>h
 case makeSlice e b z l c=>exact act _ (Ph ah hG h) fun _ h=>h
 case append e b x y=>exact act _ (EC ah hG h) fun _ h=>h
 case store size a x=>exact act _ (Q05 ah hG h) fun _ h=>h
 case callF f args =>
  simp only[gn] at h;obtain⟨g,a,b,h3,h4⟩:=H7 aw hG (show SR P B pl tb (.fn f [] []) (.func (.func f) #[] #[]) by simp only[SR,SRs];exact⟨[],[],rfl,rfl,rfl⟩) (av args) h (fun _ e=>by cases e) hK;obtain⟨rfl,rfl,rfl⟩:=(by simpa using h3:f=g∧#[]=a∧#[]=b);show VCalled P f (args.map (Q3 env)) σ R;simpa using h4
 case callV f args =>
  simp only[gn] at h;by_cases hy:∃ o,gev [] s.env f=.dd o .yv
  ·obtain⟨o,hy⟩:=hy;have hf:=hG.evs (Gds.nil (tb:=tb)) f;have h':RL C d (gev [] s.env f) (args.map (gev [] s.env)) s K:=h;rw[hy] at hf h';simp only[SR,DR] at hf;obtain⟨i,hp,hv⟩:=hf;simp only[RL] at h';split at h'
   ·rename_i y ri;have:=aw.yl o y ri B F pl tb s env σ _ _ K R i hG (av args) h' hp hK;simp only[vop,hv];exact this
   ·exact h'.elim
  obtain⟨g,a,b,h3,h4⟩:=H7 aw hG (hG.evs Gds.nil f) (av args) h (fun o e=>hy ⟨o,e⟩) hK;exact M6 h3 h4
 case ext x =>
  cases x
  case mapUpdate mk m k v=>exact act _ (P9 ah hG h) fun _ h=>h
  case copy size a b=>exact act _ (Q5m ah hG h) fun _ h=>h
  case unsafeStr e a n=>exact act _ (T1 ah hG h) fun _ h=>h
  case strBytes e a=>exact act _ (Rt ah hG h) fun _ h=>h
  case rangeMap a=>exact I3 hG h hK
  case nextMap a=>exact Od hG h hK
  all_goals exact h.elim
 all_goals exact h.elim
theorem Gam.frz (hG:Gam P B F pl tb s env σ) (o:Nat):∃ B' F',GBase B F σ B' F' σ∧Gam P B' F' pl tb (s.frz o) env σ:=by
 unfold St.frz;split
 ·rename_i ty k xs nl ho;have fin:∀ {B' F':Heap},Gam P B' F' pl tb ⟨s.env,oset s.own o .dead,s.nx⟩ env σ→KC B' (.list k) xs [pl o]→Gam P B' F' pl tb ⟨SVs.frz o k xs s.env,Q3f o k xs s.own,s.nx⟩ env σ:=fun {B' F'} h hk=>by
   have e1:∀ d,Q7 (Q3f o k xs s.own) d=(Q7 (oset s.own o .dead) d).frz o k xs:=fun d=>by
    rw[IG,Qf];by_cases e:d=o
    ·rw[if_pos e,if_pos e];rfl
    ·rw[if_neg e,if_neg e]
   have lv:∀ d,(Q7 (Q3f o k xs s.own) d).live=(Q7 (oset s.own o .dead) d).live:=fun d=>by rw[e1,OB.live_frz]
   refine⟨h.bf,h.le,SRs.frz hk _ _ h.env,fun d=>?_,fun d i h1 h2=>?_,fun d d' i aA h1 h2=>?_,h.free⟩
   ·simp only[e1];exact(h.obj d).frz hk
   ·simp only[lv] at h1;exact h.fresh d i h1 h2
   ·simp only[lv] at h1 h2;exact h.sep d d' i aA h1 h2
  have aj:=hG.obj o;rw[ho] at aj;rcases aj with⟨_,hx,hp⟩|⟨_,i,cap,c,t,hp,cK,hg,hlen,b7⟩
  ·exact⟨B,F,.of hG.bf (.refl _),fin (hG.drop o) ⟨_,rfl,.inl ⟨hx,hp⟩⟩⟩
  ·obtain⟨g1,g2⟩:=hG.freeze (o:=o) (i:=i) (by rw[ho];rfl) (by rw[hp];rfl);refine⟨_,_,g1,fin g2 ⟨_,rfl,.inr ⟨i,0,cap,c,⟨k.size,ty⟩,true,t,hp,cK,by rw[Heap.ins_self];exact hg,rfl,by have:=Nat.mul_le_mul_right k.size cK;omega,?_⟩⟩⟩;rw[List.drop_zero];exact b7.mono fun _ _ e=>KC.mono g1.b e
 ·exact⟨B,F,.of hG.bf (.refl _),hG⟩
theorem GRel.frzs {B0 F0 D0:Heap}:∀ (l:List Nat) {s:St},GRel P B0 F0 D0 s env σ→GRel P B0 F0 D0 (s.frzs l) env σ
 |[],_,h=>h
 |o::r,s,⟨B,F,pl,tb,hB,hG⟩=>by obtain⟨B',F',g1,g2⟩:=hG.frz o;exact GRel.frzs r ⟨B',F',pl,tb,hB.trans g1,g2⟩
end
theorem CW {j:Nat}{f:Nat→Prop}:∀ {n i:Nat},OM (j:Int) f n i→i≤j→j<i+n→f j
 |0,i,_,h1,h2=>by omega
 |n+1,i,h,h1,h2=>by
  rcases Nat.lt_or_ge i j with h3|h3
  ·exact CW h.2 h3 (by omega)
  ·have:j=i:=by omega
   subst this;exact h.1 rfl
theorem OW {o:VOp}{len i:Nat}{f:Nat→VOp}(h:Q9w o=some (len,i,f)) {n:Nat}:(∃ size x,f n=.indexAddrArr len size x (.const (.int .i64 (Int.ofNat n))))∨∃ agg size x,f n=.indexArr len agg size x (.const (.int .i64 (Int.ofNat n))):=by
 unfold Q9w at h;split at h
 ·cases h;exact .inl ⟨_,_,rfl⟩
 ·cases h;exact .inr ⟨_,_,_,rfl⟩
 ·cases h
theorem Q2i {o:VOp}{len i:Nat}{f:Nat→VOp}(h:Q9w o=some (len,i,f)) {S:VSpecs}{env:Env}{σ:Heap}{k:IntKind}{n:Nat}(he:Q3 env (.tmp i)=.int k (n:Int)) {R:Value→Heap→Prop}(hv:vop S (f n) env σ R):vop S o env σ R:=by
 have hc:Q3 env (.const (.int .i64 (Int.ofNat n)))=.int .i64 (n:Int):=rfl;unfold Q9w at h;split at h
 ·rename_i len size x t;cases h;change QI (Q5 _ (Q3 env) σ) _ at hv;change QI (Q5 _ (Q3 env) σ) _;simp only[Q5,he,hc] at hv ⊢;generalize Q3 env x=u at hv ⊢;cases u<;>first|exact hv|skip
  rename_i p;cases p<;>first|exact hv|skip
  rename_i a;obtain⟨b,o,sp⟩:=a;cases sp<;>exact hv
 ·rename_i len agg size x t;cases h;change QI (Q5 _ (Q3 env) σ) _ at hv;change QI (Q5 _ (Q3 env) σ) _;simp only[Q5,he,hc] at hv ⊢;generalize Q3 env x=u at hv ⊢;cases u<;>exact hv
 ·cases h
theorem RS {C:Cx}(aw:COk P C) {B0 F0 D0:Heap}{s:St}{env:Env}{σ:Heap}(hR:GRel P B0 F0 D0 s env σ) {o:VOper}{K:St→Prop}(h:Z2q C o s K) {R:Env→Heap→Prop}(hK:∀ s' ae σ',K s'→GRel P B0 F0 D0 s' ae σ'→R ae σ') :
  QI (Jc env o.guard) fun b=>vif b (vop (Q1 P) o.op env σ fun v σ'=>R (Xr env o.dst v) σ') (R (Xr env o.dst undef) σ):=by
 unfold Z2q at h;split at h
 ·rename_i hg;rw[hg];refine⟨fun _=>?_,fun e=>by cases e⟩
  replace hR:=hR.frzs (Q7n C (o.dst.getD 0) o.op (gev [] s.env) s.own)
  generalize s.frzs (Q7n C (o.dst.getD 0) o.op (gev [] s.env) s.own)=s at h hR;obtain⟨B,F,pl,tb,hB,hG⟩:=hR;unfold Z4u at h;split at h
  ·rename_i len i f rj;split at h
   ·rename_i k j hj;obtain⟨h1,h2,h3⟩:=h;obtain⟨n,rfl⟩:=Int.eq_ofNat_of_zero_le h1;have hn:n<len:=by omega
    have h4:=CW h3 (Nat.zero_le n) (by omega);have he:=J1 hj (hG.evs (Gds.nil (tb:=tb)) (.tmp i));split at h4
    ·rename_i cs v dt;obtain⟨k1,k2⟩:=Zu h4
     replace k1:=Zj k1
     have hv:=PE (C:=C) aw.cs hG Gds.nil (o:=f n) (raw:=C.raw.contains (o.dst.getD 0)) (cs:=cs) (v:=v) (by
      rw[←dt];obtain⟨size,x,hf⟩|⟨agg,size,x,hf⟩:=OW rj<;>rw[hf];rfl;rfl) (k2 fun g hg=>by cases hg) fun u hu=>hK _ _ _ k1 ⟨B,F,pl,tb,hB,hG.put o.dst hu⟩
     exact Q2i rj he hv
    ·exact h4.elim
   ·exact h.elim
  unfold Z59 at h;split at h
  ·rename_i c a b bB;split at h
   ·rename_i v hv;obtain⟨u,h1,h2⟩:=UZ hG Gds.nil hv;rw[bB];show QI (Q5 (.pick c a b) (Q3 env) σ) _;rw[h1];exact hK _ _ _ (Zj h) ⟨B,F,pl,tb,hB,hG.put o.dst h2⟩
   ·exact h.elim
  ·rename_i uN;cases hq:Q1j o.op with
   |true =>
    rw[hq] at h;simp only[_root_.cond_true] at h;split at h
    ·rename_i cs v dt;obtain⟨h1,h2⟩:=Zu h
     replace h1:=Zj h1
     refine PE (C:=C) aw.cs hG Gds.nil (raw:=C.raw.contains (o.dst.getD 0)) (cs:=cs) (v:=v) ?_ (h2 fun g hg=>by cases hg) fun u hu=>hK _ _ _ h1 ⟨B,F,pl,tb,hB,hG.put o.dst hu⟩;rw[←dt];cases ho:o.op<;>first|rfl|(rw[ho] at hq;cases hq)
    ·exact h.elim
   |false =>
    rw[hq] at h;simp only[_root_.cond_false] at h;split at h
    ·rename_i bB;split at h
     ·rename_i kk vk _;obtain⟨h1,h2⟩:=OS hG (C.off+o.dst.getD 0) kk vk;rw[bB];change R (Xr env o.dst (.map (some σ.n))) (σ.push (.obj (.map [] 0) true));exact hK _ _ _ h ⟨B,F,_,tb,Gj hB (Dead.push _ _),h1.put o.dst h2⟩
     ·exact h.elim
    ·rename_i bB;cases j8:LG C (o.dst.getD 0) o.op (gev [] s.env) with
     |true =>rw[j8] at h;simp only[_root_.cond_true] at h;exact Fm hG h fun v s' B' F' pl' tb' u σ' h1 hd h2 h3=>hK _ _ _ h1 ⟨B',F',pl',tb',hB.trans hd,h2.put o.dst h3⟩
     |false =>rw[j8] at h;simp only[_root_.cond_false] at h;exact Q3n aw hG h fun v s' B' F' pl' tb' u σ' h1 hd h2 h3=>hK _ _ _ h1 ⟨B',F',pl',tb',hB.trans hd,h2.put o.dst h3⟩
 ·rename_i j want hg;obtain⟨B,F,pl,tb,hB,hG⟩:=hR;rw[hg];split at h
  ·exact h.elim
  ·rename_i gs s' dU;obtain⟨tb',bj,cJ,b,hw,bg,bY⟩:=We hG dU;rw[hw];refine⟨fun e=>?_,fun e=>?_⟩
   ·have gb:Gds tb' gs:=fun g hg=>⟨bg e g hg,cJ g hg⟩;have fin:∀ {v u},SR P B pl tb' v u→SR P B pl tb' (.grd gs (DU v)) u:=fun {v u} hs=>by
     simp only[SR];obtain⟨h1,h2⟩:=P2 hs;exact⟨⟨cJ,h2⟩,fun _=>h1,fun ⟨g,hg,aA⟩=>absurd (bg e g hg) aA⟩
    split at h
    ·rename_i c a b' bB;split at h
     ·rename_i v hv;obtain⟨u,h1,h2⟩:=UZ bj gb hv;rw[bB];show QI (Q5 (.pick c a b') (Q3 env) σ) _;rw[h1];exact hK _ _ _ (Zj h) ⟨B,F,pl,tb',hB,bj.put o.dst (fin h2)⟩
     ·exact h.elim
    ·split at h
     ·rename_i cs v dt;obtain⟨h1,h2⟩:=Zu h
      replace h1:=Zj h1
      exact PE aw.cs bj gb dt (h2 (bg e)) fun u hu=>hK _ _ _ h1 ⟨B,F,pl,tb',hB,bj.put o.dst (fin hu)⟩
     ·split at h
      ·rename_i c v j9;obtain⟨h1,h2⟩:=Zu h
       replace h1:=Zj h1
       refine E1 aw.cs bj gb (d:=C.off+o.dst.getD 0) j9 (h2 (bg e) c (by simp)) fun u σ' B' F' pl' k1 k2 k3=>hK _ _ _ h1 ⟨B',F',pl',tb',hB.trans k1,k2.put o.dst ?_⟩;simp only[SR];refine⟨⟨cJ,?_⟩,fun _=>k3,fun ⟨g,hg,aA⟩=>absurd (bg e g hg) aA⟩;obtain⟨k,xs,rfl⟩:=Cb j9;trivial
      ·exact h.elim
   ·have fin:∀ v,SR P B pl tb' (.grd gs (DU v)) undef:=fun v=>by
     simp only[SR];obtain⟨g,hg,aA⟩:=bY e;exact⟨⟨cJ,HW v⟩,fun hall=>absurd (hall g hg) aA,fun _=>trivial⟩
    split at h
    ·split at h
     ·exact hK _ _ _ (Zj h) ⟨B,F,pl,tb',hB,bj.put o.dst (fin _)⟩
     ·exact h.elim
    ·split at h
     ·exact hK _ _ _ (Zj (Zu h).1) ⟨B,F,pl,tb',hB,bj.put o.dst (fin _)⟩
     ·split at h
      ·rename_i c v j9;refine hK _ _ _ (Zj (Zu h).1) ⟨B,F,_,tb',hB,(bj.make (C.off+o.dst.getD 0) .dead undef bj.le (fun _ _ _ _ _=>rfl) trivial (fun i hl _=>by cases hl)).put o.dst ?_⟩;simp only[SR];obtain⟨g,hg,aA⟩:=bY e;refine⟨⟨cJ,?_⟩,fun hall=>absurd (hall g hg) aA,fun _=>trivial⟩;obtain⟨k,xs,rfl⟩:=Cb j9;trivial
      ·exact h.elim
theorem Q04 {C:Cx}(aw:COk P C) {B0 F0 D0:Heap}{s:St}{env:Env}{σ:Heap}(hR:GRel P B0 F0 D0 s env σ) {o:VOper}{K:St→Prop}(h:gop C o s K) {R:Env→Heap→Prop}(hK:∀ s' ae σ',K s'→GRel P B0 F0 D0 s' ae σ'→R ae σ') :
  QI (Jc env o.guard) fun b=>vif b (vop (Q1 P) o.op env σ fun v σ'=>R (Xr env o.dst v) σ') (R (Xr env o.dst undef) σ):=by
 unfold gop at h;split at h
 ·rename_i t ht;have nG:=hR;obtain⟨B,F,pl,tb,hB,hG⟩:=hR;rw[KE hG ht];cases t with
  |true =>simp only[_root_.cond_true] at h;exact RS aw nG (o:=⟨o.dst,o.op,none⟩) h hK
  |false =>simp only[_root_.cond_false] at h;exact⟨(fun e=>by cases e),fun _=>hK _ _ _ h ⟨B,F,pl,tb,hB,hG.put o.dst (by simp[SR])⟩⟩
 ·exact RS aw hR h hK
theorem FV {C:Cx}{B0 F0 D0:Heap}{s:St}{env:Env}{σ:Heap}(hR:GRel P B0 F0 D0 s env σ) {d:Option Nat}{K:St→Prop}(h:Z2m C d K s):∃ s2,K s2∧GRel P B0 F0 D0 s2 env σ:=by
 unfold Z2m at h;split at h
 ·exact⟨s,h,hR⟩
 ·rename_i d;cases hb:C.spl.contains d with
  |false=>rw[hb] at h;exact⟨s,h,hR⟩
  |true =>
   rw[hb] at h;simp only[_root_.cond_true] at h;split at h
   ·rename_i t ht;obtain⟨B,F,pl,tb,hB,hG⟩:=hR;have he:=W2 ht (hG.env.getD d undef);have b9:∀ v,SR P B pl tb v (env.getD d undef)→GRel P B0 F0 D0 (s.put (some d) v) env σ:=fun v hv=>by
     have:=hG.put (some d) hv;refine⟨B,F,pl,tb,hB,?_⟩;have e2:Xr env (some d) (env.getD d undef)=env:=by
      show env.set d _=env;rcases Nat.lt_or_ge d env.length with h|h
      ·rw[List.getD_eq_getElem?_getD,List.getElem?_eq_getElem h];simp
      ·rw[List.set_eq_of_length_le h]
     rw[e2] at this;exact this
    have sr:SR P B pl tb (.grd [] (.val .bo t)) (env.getD d undef):=by simp only[SR];exact⟨⟨(fun g hg=>by cases hg),trivial⟩,(fun _=>by rw[he];simp[KC]),fun ⟨g,hg,_⟩=>by cases hg⟩
    cases t with
    |true=>exact⟨_,h.1 rfl,b9 _ sr⟩
    |false=>exact⟨_,h.2 rfl,b9 _ sr⟩
   ·exact h.elim
theorem MP {C:Cx}(aw:COk P C) {B0 F0 D0:Heap}:∀ (ops:List VOper) {s:St}{env:Env}{σ:Heap},GRel P B0 F0 D0 s env σ→∀ {K:St→Prop},Z2d C ops s K→∀ {R:Env→Heap→Prop},(∀ s' ae σ',K s'→GRel P B0 F0 D0 s' ae σ'→R ae σ')→Pd (Q1 P) ops env σ R
 |[],s,env,σ,hR,_K,h,_R,hK=>hK s env σ h hR
 |_o::r,_s,_env,_σ,hR,_K,h,_R,hK=>Q04 (R:=fun env σ=>Pd (Q1 P) r env σ _R) aw hR h fun _ _ _ h1 h2=>by obtain⟨s2,k1,k2⟩:=FV h2 h1;exact MP aw r k2 k1 hK
theorem Q22 {S:VSpecs}{l:List DOper}{rest:List DSeg}{env:Env}{σ:Heap}{K:Env→Heap→Prop}(h:l.all (fun o=>!(o.kind==2)&&!(o.op.kind==2))=true) (hv:Pd S (l.map dv) env σ fun env σ=>G3 S rest env σ K):G3 S (.alts [l]::rest) env σ K:=by
 intro ops ho;obtain rfl:=List.mem_singleton.1 ho;have key:∀ (l:List DOper) (env:Env) (pend:List (Nat×(Heap→Prop))) (K':Env→Heap→Prop),l.all (fun o=>!(o.kind==2)&&!(o.op.kind==2))=true→Pd S (l.map dv) env σ K'→Zx S l env [σ] σ pend K':=by
  intro l;induction l with
  |nil=>intro env pend K' _ h;exact h
  |cons o rest ih =>
   intro env pend K' hk h;simp only[List.all_cons,Bool.and_eq_true,Bool.not_eq_true',beq_eq_false_iff_ne] at hk;obtain⟨⟨bc,au⟩,hr⟩:=hk;have hr:rest.all (fun o=>!(o.kind==2)&&!(o.op.kind==2))=true:=by simpa using hr
   simp only[List.map_cons,Pd,dv] at h;simp only[Zx];cases hw:Jc env o.guard with
   |none=>rw[hw] at h;exact h.elim
   |some b =>
    rw[hw] at h;obtain⟨ht,hf⟩:=h;refine⟨fun e=>?_,fun e=>?_⟩
    ·have ht:=ht e;obtain⟨p,hp,fC⟩:∃ p,Q5 o.op (Q3 env) σ=some p∧Pd S (rest.map dv) (Xr env o.dst p.1) p.2 K':=by
      have:=ht;unfold vop at this;split at this
      ·rename_i f bK heq;rw[heq] at au;exact absurd rfl au
      ·rename_i f bK heq;rw[heq] at au;exact absurd rfl au
      ·rename_i x heq;rw[heq] at au;exact absurd rfl au
      ·cases dD:Q5 o.op (Q3 env) σ with
       |none=>rw[dD] at this;exact this.elim
       |some p=>rw[dD] at this;exact⟨p,rfl,this⟩
     have hq:p.2=σ:=Dk au (v:=p.1) (σ':=p.2) hp;rw[hq] at fC;rw[if_neg bc];split
     ·rw[hp];refine⟨fun τ hτ=>?_,ih _ _ _ hr fC⟩;have:τ=σ:=by
       have:=List.mem_of_mem_drop hτ;simpa using this
      subst this;show QI (Q5 o.op (Q3 env) τ) _;rw[hp];rfl
     ·rw[hp];exact ih _ _ _ hr fC
    ·rw[if_neg bc];exact ih _ _ _ hr (hf e)
 have:=key ops env [] _ h hv;have mono:∀ (l:List DOper) (env:Env) (hs:List Heap) (τ:Heap) (pend:List (Nat×(Heap→Prop))) (A B:Env→Heap→Prop),l.all (fun o=>!(o.kind==2)&&!(o.op.kind==2))=true→(∀ e s,A e s→B e s)→Zx S l env hs τ pend A→Zx S l env hs τ pend B:=by
  intro l;induction l with
  |nil=>intro env hs τ pend A B _ kO h;exact kO _ _ h
  |cons o rest ih =>
   intro env hs τ pend A B hk kO h;simp only[List.all_cons,Bool.and_eq_true,Bool.not_eq_true',beq_eq_false_iff_ne] at hk;obtain⟨⟨bc,au⟩,hr⟩:=hk;have hr:rest.all (fun o=>!(o.kind==2)&&!(o.op.kind==2))=true:=by simpa using hr
   simp only[Zx] at h ⊢;cases hw:Jc env o.guard with
   |none=>rw[hw] at h;exact h.elim
   |some b =>
    rw[hw] at h;obtain⟨ht,hf⟩:=h;refine⟨fun e=>?_,fun e=>?_⟩
    ·have ht:=ht e;rw[if_neg bc] at ht ⊢;by_cases oz:o.kind=1
     ·rw[if_pos oz] at ht ⊢;cases dD:Q5 o.op (Q3 env) τ with
      |none=>rw[dD] at ht;exact ht.elim
      |some p=>rw[dD] at ht;exact⟨ht.1,ih _ _ _ _ _ _ hr kO ht.2⟩
     ·rw[if_neg oz] at ht ⊢;cases dD:Q5 o.op (Q3 env) τ with
      |none=>rw[dD] at ht;exact ht.elim
      |some p=>rw[dD] at ht;exact ih _ _ _ _ _ _ hr kO ht
    ·have hf:=hf e;rw[if_neg bc] at hf ⊢;exact ih _ _ _ _ _ _ hr kO hf
 exact mono ops env _ _ _ _ _ h (fun e s hs=>⟨e,s,.refl _ _ _,hs⟩) this
theorem JR {op:VOp}{ev:Operand→Value}{u:Value}{τ τ':Heap}(h:Q5 op ev τ=some (u,τ')):Xq op ev u τ:=by unfold Xq;rw[h];rfl
theorem Zc (s:St) (d:Option Nat) (v:SV):(s.put d v).own=s.own:=by cases d<;>rfl
theorem Kx {s s':St}{j:Nat}{want:Bool}{gs:List Gd}(h:H9 s j want=some (gs,s')):s'.own=s.own:=by unfold H9 at h;split at h<;>first|(cases h;done)|(obtain⟨_,rfl⟩:=QX h;rfl)
theorem Ui {C:Cx}{B F:Heap}{pl:Nat→Value}{tb:Nat→Option Bool}{s:St}{env:Env}{σ:Heap}(hG:Gam P B F pl tb s env σ) {o:DOper}{K:St→Prop}(h:gd1 C o s K) :
  ∃ b,Jc env o.guard=some b∧(b=true→∃ u s' tb',Q5 o.op (Q3 env) σ=some (u,σ)∧K s'∧s'.own=s.own∧Gam P B F pl tb' s' (Xr env o.dst u) σ)∧(b=false→∃ s' tb',K s'∧s'.own=s.own∧Gam P B F pl tb' s' (Xr env o.dst undef) σ):=by
 unfold gd1 at h;split at h
 ·rename_i hg;rw[hg];refine⟨true,rfl,fun _=>?_,fun e=>by cases e⟩;split at h
  ·rename_i c a b bB;split at h
   ·rename_i v hv;obtain⟨u,h1,h2⟩:=UZ hG Gds.nil hv;exact⟨u,_,tb,by rw[bB];exact h1,Zj h,Zc _ _ _,hG.put o.dst h2⟩
   ·exact h.elim
  ·split at h
   ·rename_i cs v dt;obtain⟨h1,h2⟩:=Zu h;obtain⟨u,h3,h4⟩:=SN (hG.evs (Gds.nil (tb:=tb))) (fun _=>rfl) hG.leB hG.obj dt (h2 fun g hg=>by cases hg);exact⟨u,_,tb,h3,Zj h1,Zc _ _ _,hG.put o.dst h4⟩
   ·exact h.elim
 ·rename_i j want hg;rw[hg];split at h
  ·exact h.elim
  ·rename_i gs s' dU;obtain⟨tb',bj,cJ,b,hw,bg,bY⟩:=We hG dU;refine⟨b,hw,fun e=>?_,fun e=>?_⟩
   ·have gb:Gds tb' gs:=fun g hg=>⟨bg e g hg,cJ g hg⟩;have fin:∀ {v u},SR P B pl tb' v u→SR P B pl tb' (.grd gs (DU v)) u:=fun {v u} hs=>by
     simp only[SR];obtain⟨h1,h2⟩:=P2 hs;exact⟨⟨cJ,h2⟩,fun _=>h1,fun ⟨g,hg,aA⟩=>absurd (bg e g hg) aA⟩
    split at h
    ·rename_i c a b' bB;split at h
     ·rename_i v hv;obtain⟨u,h1,h2⟩:=UZ bj gb hv;exact⟨u,_,tb',by rw[bB];exact h1,Zj h,(Zc _ _ _).trans (Kx dU),bj.put o.dst (fin h2)⟩
     ·exact h.elim
    ·split at h
     ·rename_i cs v dt;obtain⟨h1,h2⟩:=Zu h;obtain⟨u,h3,h4⟩:=SN (bj.evs gb) (fun _=>rfl) bj.leB bj.obj dt (h2 (bg e));exact⟨u,_,tb',h3,Zj h1,(Zc _ _ _).trans (Kx dU),bj.put o.dst (fin h4)⟩
     ·exact h.elim
   ·have fin:∀ v,SR P B pl tb' (.grd gs (DU v)) undef:=fun v=>by
     simp only[SR];obtain⟨g,hg,aA⟩:=bY e;exact⟨⟨cJ,HW v⟩,fun hall=>absurd (hall g hg) aA,fun _=>trivial⟩
    split at h
    ·split at h
     ·exact⟨_,tb',Zj h,(Zc _ _ _).trans (Kx dU),bj.put o.dst (fin _)⟩
     ·exact h.elim
    ·split at h
     ·exact⟨_,tb',Zj (Zu h).1,(Zc _ _ _).trans (Kx dU),bj.put o.dst (fin _)⟩
     ·exact h.elim
theorem AK {bs:List OB}{q:Prop}(h:Q1s bs q):(∀ b∈bs,b.wf)∧q:=by
 induction bs with
 |nil=>exact⟨(fun b hb=>by cases hb),h⟩
 |cons b r ih =>
  obtain⟨h1,h2⟩:=h;obtain⟨h3,h4⟩:=ih h2;exact⟨fun b' bF=>by
   rcases List.mem_cons.1 bF with rfl|bF
   ·exact h1
   ·exact h3 b' bF,h4⟩
mutual
theorem Ea {d nt:Nat}:∀ (v:SV),v.ret 0=true→(v.ren d nt).ret 0=true
 |.val k x,h=>h
 |.nilS,_|.nilP,_|.nilM,_|.nilF,_=>rfl
 |.lst j,h|.box j _,h|.map j,h=>by simp[SV.ret,Nat.blt] at h
 |.agg l,h=>by simp only[SV.ren,SV.ret] at h ⊢;exact Tb l h
 |.tup l,h=>by simp only[SV.ren,SV.ret] at h ⊢;exact Tb l h
 |.any,h|.bid _ _,h|.grd _ _,h|.sub _ _ _ _,h|.elp _ _ _ _,h|.rop _ _ _ _,h|.cp _ _,h|.fn _ _ _,h|.pf _ _ _ _,h=>by cases h
theorem Tb {d nt:Nat}:∀ (v:List SV),SVs.ret 0 v=true→SVs.ret 0 (SVs.ren d nt v)=true
 |[],_=>rfl
 |s::ss,h=>by simp only[SVs.ret,SVs.ren,Bool.and_eq_true] at h ⊢;exact⟨Ea s h.1,Tb ss h.2⟩
end
theorem Wj {C:Cx}(aw:COk P C) {B F:Heap}{pl:Nat→Value}{tb:Nat→Option Bool}{s:St}{env:Env}{σ:Heap}(hG:Gam P B F pl tb s env σ) {d:Nat}{f:SV}{args:List SV}{K:List Nat→SV→St→Prop}(h:Gl C d f args s K) {fV:Value}{vs:List Value}
  (hf:SR P σ JK ZA f fV) (ha:SRs P σ JK ZA args vs):∃ g a b u σ' ts v s' pl',fV=.func (.func g) a b∧(VCalled P g (a.toList++vs++b.toList) σ fun u' aD=>u'=u∧aD=σ')∧K ts v s'∧Gam P B F pl' tb s' env σ'∧SR P B pl' tb v u∧(ts=[]→σ'=σ∧pl'=pl∧s'=s)∧σ.Le σ'∧Dead σ σ'∧FrL ts s s' pl pl' σ σ':=by
 unfold Gl at h;split at h
 ·rename_i c v bs heq;cases hb:(v.ret bs.length&&(bs.all OB.ret&&(Nat.blt 0 C.nt&&(bs.all OB.isL&&U4 v)))) with
  |false=>rw[hb] at h;exact h.elim
  |true =>
   rw[hb] at h;obtain⟨h1,h2⟩:=h;obtain⟨h3,h4⟩:=AK h2;simp only[Bool.and_eq_true] at hb;obtain⟨hv,l_,cO,hl,ct⟩:=hb;obtain⟨g,a,b,e,_,hx⟩:=ZS aw.cs hf ha heq hv l_ h1;have dq:=CL (P:=P) σ hv ct l_ hl (fun b hb=>by have:=h3 b hb;cases b<;>exact this);by_cases b6:bs=[]
   ·subst b6;obtain⟨k1,k2⟩:=dq.flat hv;refine⟨g,a,b,_,_,_,_,_,pl,e,hx hl ct,h4,?_,?_,fun _=>⟨k1,rfl,rfl⟩,dq.1.1,dq.1.2,fun q _=>⟨rfl,rfl,fun _ _ _=>by rw[k1]⟩⟩
    ·rw[k1];exact hG
    ·exact SR.retd (B:=hNil) (pl:=pl) (tb:=ZA) (n:=0) (fun j hj=>by omega) _ _ (Ea v hv) (SR.ren (pl:=JK) (tb:=ZA) (n:=0) (fun j hj=>by omega) v _ hv k2)
   ·obtain⟨pl',h5,h6,h7⟩:=dq.gamF (nt:=C.nt) (d:=d) (by simpa [Nat.blt_eq] using cO) hG hv l_;refine⟨g,a,b,_,_,_,_,_,pl',e,hx hl ct,h4,h5,h6,fun he=>absurd (by simpa using he) b6,dq.1.1,dq.1.2,fun q hq=>h7 q fun j hj e=>hq ?_⟩;exact List.mem_map.2 ⟨j,List.mem_range.2 hj,e.symm⟩
 ·exact h.elim
def O4:VOp→Bool
 |.callF ..|.callV ..=>true
 |.ext (.rangeMap _)|.ext (.nextMap _)=>true
 |_=>false
theorem Q4y {C:Cx}{B F:Heap}{pl:Nat→Value}{tb:Nat→Option Bool}{s:St}{env:Env}{σ:Heap}(hG:Gam P B F pl tb s env σ) {d:Nat}{o:VOp}{K:SV→St→Prop}(h:gn C d o (gev [] s.env) s K) (hc:O4 o=false) :
  NOk P B F tb o (Q3 env) env σ K (Za d o (gev [] s.env)) s pl:=by
 have ah:=hG.evs (Gds.nil (tb:=tb));cases o
 case alloc t z=>exact Q23 ah hG h
 case box t x=>exact Q96 ah hG h
 case buildSlice e z n ps=>exact Mw ah hG h
 case makeSlice e b z l c=>exact Ph ah hG h
 case append e b x y=>exact EC ah hG h
 case store size a x=>exact Q05 ah hG h
 case callF=>cases hc
 case callV=>cases hc
 case ext x =>
  cases x
  case mapUpdate mk m k v=>exact P9 ah hG h
  case copy size a b=>exact Q5m ah hG h
  case unsafeStr e a n=>exact T1 ah hG h
  case strBytes e a=>exact Rt ah hG h
  case rangeMap=>cases hc
  case nextMap=>cases hc
  all_goals exact h.elim
 all_goals exact h.elim
theorem Lq {o:VOp}{ev:Operand→Value}{σ σ':Heap}{u:Value}(hm:PT o=true) (h:Q5 o ev σ=some (u,σ')):σ.Le σ':=by
 have push:∀ b:Blk,σ.Le (σ.push b):=fun b=>(Heap.Le.refl σ).push b;cases o<;>first|(cases hm;done)|skip
 case alloc t z=>obtain⟨rfl,rfl⟩:=QX h;exact push _
 case box t x =>
  simp only[Q5] at h;split at h
  ·obtain⟨rfl,rfl⟩:=QX h;exact push _
  ·cases h
 case buildSlice e z n ps =>
  simp only[Q5] at h;split at h
  ·obtain⟨rfl,rfl⟩:=QX h;exact push _
  ·cases h
 case makeSlice e b z l c =>
  simp only[Q5] at h;split at h
  ·split at h
   ·obtain⟨rfl,rfl⟩:=QX h;exact push _
   ·cases h
  ·cases h
def Fp (σ:Heap) (own:Own) (pl:Nat→Value) (Q:Heap→Prop):Option Nat→Prop
 |none=>∀ τ,σ.Le τ→Q τ
 |some q=>(Q7 own q).live=true∧∃ i b,Oid (pl q) i∧σ.get i=some b∧∀ τ,τ.get i=some b→Q τ
structure DSt (hs:List Heap) (σ:Heap) (pend:List (Nat×(Heap→Prop))) (hl chg:Nat) (A R:List (Nat×Option Nat)) (own:Own) (pl:Nat→Value):Prop where
 len:hs.length=hl
 same:∀ j τ,chg≤j→hs[j]?=some τ→τ=σ
 pend:∀ c∈pend,c.1<hl∨∃ r∈R,c.1≤r.1∧Fp σ own pl c.2 r.2
 fr:∀ j τ q i,hs[j]?=some τ→Zh A j q=true→(Q7 own q).live=true→Oid (pl q) i→τ.get i=σ.get i
theorem Kl {r:Nat}{σ:Heap}:∀ {l:List (Nat×(Heap→Prop))},(∀ c∈l,r≤c.1→c.2 σ)→Xb r σ l
 |[],_=>trivial
 |c::l,h=>⟨h c (by simp),Kl fun c' cm=>h c' (by simp[cm])⟩
theorem JN {hs:List Heap}{σ' τ:Heap}{j:Nat}(h:(hs++[σ'])[j]?=some τ):(j<hs.length∧hs[j]?=some τ)∨(j=hs.length∧τ=σ'):=by
 rw[List.getElem?_append] at h;split at h
 ·rename_i ai;exact .inl ⟨ai,h⟩
 ·have:j-hs.length=0:=by
   cases hz:j-hs.length with
   |zero=>rfl
   |succ n=>rw[hz] at h;simp at h
  rw[this] at h;exact .inr ⟨by omega,by simpa using h.symm⟩
theorem R3 {a:Nat×Option Nat}{A:List (Nat×Option Nat)}{j q:Nat}(h:Zh (a::A) j q=true) (hj:j≤a.1):(∃ t,a.2=some t∧t≠q)∧Zh A j q=true:=by
 simp only[Zh,List.all_cons,Bool.and_eq_true,Bool.or_eq_true,Nat.blt_eq] at h;refine⟨?_,h.2⟩;rcases h.1 with h|h
 ·omega
 ·split at h
  ·rename_i t ht;exact⟨t,ht,fun e=>by subst e;simp at h⟩
  ·cases h
theorem DSt.stay {hs:List Heap}{σ:Heap}{pend:List (Nat×(Heap→Prop))}{hl chg:Nat}{A R:List (Nat×Option Nat)}{own:Own}{pl:Nat→Value}(h:DSt hs σ pend hl chg A R own pl) :
  Xb hs.length σ pend∧DSt (hs++[σ]) σ pend (hl+1) chg A R own pl:=by
 have hr:∀ c∈pend,∀ r∈R,Fp σ own pl c.2 r.2→c.2 σ:=fun c _ r _ af=>by
  unfold Fp at af;split at af
  ·exact af σ (.refl _)
  ·obtain⟨_,i,b,_,h2,h3⟩:=af;exact h3 σ h2
 refine⟨Kl fun c hc hle=>?_,⟨by simp[h.len],fun j τ hj ht=>?_,fun c hc=>?_,fun j τ q i ht hu hl hi=>?_⟩⟩
 ·rcases h.pend c hc with h1|⟨r,h1,_,h2⟩
  ·rw[h.len] at hle;omega
  ·exact hr c hc r h1 h2
 ·rcases JN ht with⟨_,h1⟩|⟨_,h1⟩
  ·exact h.same j τ hj h1
  ·exact h1
 ·rcases h.pend c hc with h1|h1
  ·exact .inl (by omega)
  ·exact .inr h1
 ·rcases JN ht with⟨_,h1⟩|⟨_,rfl⟩
  ·exact h.fr j τ q i h1 hu hl hi
  ·rfl
theorem DSt.write {hs:List Heap}{σ σ':Heap}{pend:List (Nat×(Heap→Prop))}{hl chg:Nat}{A R:List (Nat×Option Nat)}{s s':St}{pl pl':Nat→Value}(h:DSt hs σ pend hl chg A R s.own pl) {T:Nat}(hf:Fr T s s' pl pl' σ σ') {mk:Bool}(hm:mk=true→σ.Le σ')
  (hc:((mk&&Cr R hl T)||R_ R hl T)=true) (aN:0<hl):Xb hs.length σ' pend∧DSt (hs++[σ']) σ' pend (hl+1) hl ((hl-1,some T)::A) R s'.own pl':=by
 have hr:∀ Q:Heap→Prop,∀ r∈R,hl≤r.1→Fp σ s.own pl Q r.2→Fp σ' s'.own pl' Q r.2:=fun Q r nH bt af=>by
  have hq:∀ q,r.2=some q→q≠T:=fun q hq e=>by
   subst e;simp only[Bool.or_eq_true,Bool.and_eq_true,Cr,R_] at hc;rcases hc with⟨_,hc⟩|hc
   ·have:=List.all_eq_true.1 hc r nH;rw[hq] at this;simp only[Bool.or_eq_true,Nat.blt_eq,Nat.beq_refl,Bool.not_true,Bool.false_eq_true,or_false] at this;omega
   ·have:=List.all_eq_true.1 hc r nH;rw[hq] at this;simp only[Bool.or_eq_true,Nat.blt_eq,Nat.beq_refl,Bool.not_true,Bool.false_eq_true,or_false] at this;omega
  cases e:r.2 with
  |none =>
   rw[e] at af;have dS:mk=true:=by
    simp only[Bool.or_eq_true,Bool.and_eq_true,R_] at hc;rcases hc with⟨hc,_⟩|hc
    ·exact hc
    ·have:=List.all_eq_true.1 hc r nH;rw[e] at this;simp only[Bool.or_eq_true,Nat.blt_eq,Bool.false_eq_true,or_false] at this;omega
   exact fun τ ht=>af τ ((hm dS).trans ht)
  |some q =>rw[e] at af;obtain⟨k1,i,b,k2,k3,k4⟩:=af;obtain⟨f1,f2,f3⟩:=hf q (hq q e);exact⟨by rw[f1];exact k1,i,b,by rw[f2];exact k2,by rw[f3 k1 i k2];exact k3,k4⟩
 have now:∀ Q:Heap→Prop,∀ r,Fp σ' s'.own pl' Q r→Q σ':=fun Q r af=>by
  unfold Fp at af;split at af
  ·exact af σ' (.refl _)
  ·obtain⟨_,i,b,_,h2,h3⟩:=af;exact h3 σ' h2
 refine⟨Kl fun c hc hle=>?_,⟨by simp[h.len],fun j τ hj ht=>?_,fun c hc=>?_,fun j τ q i ht hu bJ hi=>?_⟩⟩
 ·rw[h.len] at hle;rcases h.pend c hc with h1|⟨r,h1,h2,h3⟩
  ·omega
  ·exact now _ _ (hr _ r h1 (by omega) h3)
 ·rcases JN ht with⟨h1,_⟩|⟨_,h1⟩
  ·rw[h.len] at h1;omega
  ·exact h1
 ·rcases h.pend c hc with h1|⟨r,h1,h2,h3⟩
  ·exact .inl (by omega)
  ·by_cases bt:hl≤r.1
   ·exact .inr ⟨r,h1,h2,hr _ r h1 bt h3⟩
   ·exact .inl (by omega)
 ·rcases JN ht with⟨h1,h2⟩|⟨_,rfl⟩
  ·rw[h.len] at h1;obtain⟨⟨t,ht,tD⟩,bZ⟩:=R3 hu (by simp only;omega);obtain rfl:=osj ht;obtain⟨f1,f2,f3⟩:=hf q (Ne.symm tD);rw[f1] at bJ;rw[f2] at hi;rw[f3 bJ i hi];exact h.fr j τ q i h2 bZ bJ hi
  ·rfl
theorem Dn {ts:List Nat}{hl j q:Nat}{A:List (Nat×Option Nat)}(h:Zh (ts.map (fun t=>(hl,some t))++A) j q=true) (hj:j≤hl):q∉ts∧Zh A j q=true:=by simp only[Zh,List.all_append,Bool.and_eq_true] at h ⊢;refine⟨fun hm=>?_,h.2⟩;have:=List.all_eq_true.1 h.1 (hl,some q) (List.mem_map.2 ⟨q,hm,rfl⟩);simp only[Bool.or_eq_true,Nat.blt_eq,Nat.beq_refl,Bool.not_true,Bool.false_eq_true,or_false] at this;omega
theorem DSt.call {hs:List Heap}{σ σ':Heap}{pend:List (Nat×(Heap→Prop))}{hl chg:Nat}{A R:List (Nat×Option Nat)}{s s':St}{pl pl':Nat→Value}(h:DSt hs σ pend hl chg A R s.own pl) (hle:σ.Le σ') {Ts:List Nat}(hf:FrL Ts s s' pl pl' σ σ') (aN:0<hl) :
  Xb hs.length σ' pend∧DSt (hs++[σ']) σ' pend (hl+1) hl (Ts.map (fun t=>(hl-1,some t))++A) (R.map fun r=>(r.1,none)) s'.own pl':=by
 have hr:∀ Q r,Fp σ s.own pl Q r→∀ τ,σ'.Le τ→Q τ:=fun Q r af τ ht=>by
  unfold Fp at af;split at af
  ·exact af τ (hle.trans ht)
  ·obtain⟨_,i,b,_,h2,h3⟩:=af;exact h3 τ (ht.2 _ _ (hle.2 _ _ h2))
 refine⟨Kl fun c hc hle=>?_,⟨by simp[h.len],fun j τ hj ht=>?_,fun c hc=>?_,fun j τ q i ht hu bJ hi=>?_⟩⟩
 ·rcases h.pend c hc with h1|⟨r,h1,_,h2⟩
  ·rw[h.len] at hle;omega
  ·exact hr _ _ h2 _ (.refl _)
 ·rcases JN ht with⟨h1,_⟩|⟨_,h1⟩
  ·rw[h.len] at h1;omega
  ·exact h1
 ·rcases h.pend c hc with h1|⟨r,h1,h2,h3⟩
  ·exact .inl (by omega)
  ·exact .inr ⟨(r.1,none),List.mem_map.2 ⟨r,h1,rfl⟩,h2,hr _ _ h3⟩
 ·rcases JN ht with⟨h1,h2⟩|⟨_,rfl⟩
  ·rw[h.len] at h1;obtain⟨hq,bZ⟩:=Dn hu (by omega);obtain⟨f1,f2,f3⟩:=hf q hq;rw[f1] at bJ;rw[f2] at hi;rw[f3 bJ i hi];exact h.fr j τ q i h2 bZ bJ hi
  ·rfl
theorem DSt.writeD {hs:List Heap}{σ σ':Heap}{pend:List (Nat×(Heap→Prop))}{hl chg:Nat}{A R:List (Nat×Option Nat)}{s s':St}{pl pl':Nat→Value}(h:DSt hs σ pend hl chg A R s.own pl) {Ts:List Nat}(hf:FrL Ts s s' pl pl' σ σ') {mk:Bool}(hm:mk=true→σ.Le σ')
  (hc:Io mk R hl Ts=true) (aN:0<hl):Xb hs.length σ' pend∧DSt (hs++[σ']) σ' pend (hl+1) hl (Ts.map (fun t=>(hl-1,some t))++A) R s'.own pl':=by
 have hr:∀ Q:Heap→Prop,∀ r∈R,hl≤r.1→Fp σ s.own pl Q r.2→Fp σ' s'.own pl' Q r.2:=fun Q r nH bt af=>by
  have lu:=List.all_eq_true.1 hc r nH;have lu:(match r.2 with|some q=>Ts.all (fun t=>!(Nat.beq q t))|none=>mk)=true:=by rw[Bool.or_eq_true,Nat.blt_eq] at lu;exact lu.resolve_left (by omega)
  cases e:r.2 with
  |none =>rw[e] at af lu;exact fun τ ht=>af τ ((hm lu).trans ht)
  |some q =>
   rw[e] at af lu;obtain⟨k1,i,b,k2,k3,k4⟩:=af;obtain⟨f1,f2,f3⟩:=hf q fun hq=>by have:=List.all_eq_true.1 lu q hq;simp at this
   exact⟨by rw[f1];exact k1,i,b,by rw[f2];exact k2,by rw[f3 k1 i k2];exact k3,k4⟩
 have now:∀ Q:Heap→Prop,∀ r,Fp σ' s'.own pl' Q r→Q σ':=fun Q r af=>by
  unfold Fp at af;split at af
  ·exact af σ' (.refl _)
  ·obtain⟨_,i,b,_,h2,h3⟩:=af;exact h3 σ' h2
 refine⟨Kl fun c hc hle=>?_,⟨by simp[h.len],fun j τ hj ht=>?_,fun c hc=>?_,fun j τ q i ht hu bJ hi=>?_⟩⟩
 ·rw[h.len] at hle;rcases h.pend c hc with h1|⟨r,h1,h2,h3⟩
  ·omega
  ·exact now _ _ (hr _ r h1 (by omega) h3)
 ·rcases JN ht with⟨h1,_⟩|⟨_,h1⟩
  ·rw[h.len] at h1;omega
  ·exact h1
 ·rcases h.pend c hc with h1|⟨r,h1,h2,h3⟩
  ·exact .inl (by omega)
  ·by_cases bt:hl≤r.1
   ·exact .inr ⟨r,h1,h2,hr _ r h1 bt h3⟩
   ·exact .inl (by omega)
 ·rcases JN ht with⟨h1,h2⟩|⟨_,rfl⟩
  ·rw[h.len] at h1;obtain⟨hq,bZ⟩:=Dn hu (by omega);obtain⟨f1,f2,f3⟩:=hf q hq;rw[f1] at bJ;rw[f2] at hi;rw[f3 bJ i hi];exact h.fr j τ q i h2 bZ bJ hi
  ·rfl
theorem TV {hl d j q:Nat}{A:List (Nat×Option Nat)}(h:Zh ((hl,none)::A) j q=true):Zh ([d].map (fun t=>(hl,some t))++A) j q=true:=by simp only[Zh,List.all_cons,Bool.and_eq_true,Bool.or_eq_true,Bool.false_eq_true,or_false,List.map_cons,List.map_nil,List.cons_append,List.nil_append] at h ⊢;exact⟨.inl h.1,h.2⟩
theorem DSt.frozen {hs:List Heap}{σ:Heap}{pend:List (Nat×(Heap→Prop))}{hl chg m d:Nat}{A R:List (Nat×Option Nat)}{own:Own}{pl:Nat→Value}(h:DSt hs σ pend hl chg ([d].map (fun t=>(m,some t))++A) R own pl):DSt hs σ pend hl chg ((m,none)::A) R own pl :=
 ⟨h.len,h.same,h.pend,fun j τ q i ht hu=>h.fr j τ q i ht (TV hu)⟩
theorem HX {ts:List Nat}{m j:Nat}{A:List (Nat×Option Nat)}(h:Dd (ts.map (fun t=>(m,some t))++A) j=true):Dd A j=true:=by simp only[Dd,List.all_append,Bool.and_eq_true] at h;exact h.2
theorem Ty {a:Nat×Option Nat}{j:Nat}{A:List (Nat×Option Nat)}(h:Dd (a::A) j=true):Dd A j=true:=by simp only[Dd,List.all_cons,Bool.and_eq_true] at h;exact h.2
theorem RH {C:Cx}{f:SV}{args:List SV}{cs:List Prop}{v:SV}(h:Q13 C f args=some (cs,v)):∃ c ty k xs nl,Ud C.cs f args=some (c,.lst 0,[.lst ty k xs nl])∧cs=[c,nl=true→xs=[]]∧v=.val (.list k) xs∧k.flat=true∧0<C.nt:=by
 unfold Q13 at h;split at h
 ·rename_i heq;split at h
  ·rename_i k xs nl;cases hc:(k.flat&&Nat.blt 0 C.nt) with
   |false=>rw[hc] at h;cases h
   |true =>rw[hc] at h;obtain⟨rfl,rfl⟩:=QX h;simp only[Bool.and_eq_true,Nat.blt_eq] at hc;exact⟨_,_,_,_,_,heq,rfl,rfl,hc.1,hc.2⟩
  ·cases h
 ·cases h
theorem Cd {b:OB}(h:b.here=true):b.live=true:=by cases b<;>first|rfl|cases h
theorem Kv {B F:Heap}{pl:Nat→Value}{tb:Nat→Option Bool}{s:St}{env:Env}{σ:Heap}(hG:Gam P B F pl tb s env σ) {o:VOp}{q:Nat}(h:Mj o (gev [] s.env) s.own=some q) {u:Value}{σ2:Heap}(hv:Q5 o (Q3 env) σ=some (u,σ2)) :
  (Q7 s.own q).live=true∧∃ i b,Oid (pl q) i∧σ.get i=some b∧∀ τ,τ.get i=some b→Q5 o (Q3 env) τ=some (u,τ):=by
 unfold Mj at h;split at h
 ·rename_i agg size a;have ha:=hG.evs (Gds.nil (tb:=tb)) a;have key:∀ q i off,(Q7 s.own q).live=true→Oid (pl q) i→Q3 env a=.pointer (some ⟨i,off,none⟩)→(Q7 s.own q).live=true∧∃ i b,Oid (pl q) i∧σ.get i=some b∧∀ τ,τ.get i=some b→Q5 (.load agg size a) (Q3 env) τ=some (u,τ):=fun q i off hl hi he=>by
   simp only[Q5,he] at hv;cases hb:σ.get i with
   |none=>rw[hb] at hv;cases hv
   |some b =>
    refine⟨hl,i,b,hi,hb,fun τ ht=>?_⟩;rw[hb] at hv;simp only[Q5,he,ht];cases b with
    |obj o wr=>cases hv
    |cells c e wr t =>
     simp only at hv ⊢;split at hv
     ·obtain⟨rfl,rfl⟩:=QX hv;rfl
     ·cases hv
  split at h
  ·rename_i q' off hx;rw[hx] at ha;simp only[SR] at ha;obtain⟨b,h1,h2⟩:=ha;cases hh:(Q7 s.own q').here with
   |false=>rw[hh] at h;cases h
   |true =>rw[hh] at h;obtain rfl:=osj h;exact key q' b off (Cd hh) (by rw[h1];rfl) h2
  ·rename_i q' i off sz hx;rw[hx] at ha;simp only[SR] at ha;obtain⟨b,len,cap,h1,h2,h3,h4⟩:=ha;cases hh:(Q7 s.own q').here with
   |false=>rw[hh] at h;cases h
   |true =>rw[hh] at h;obtain rfl:=osj h;exact key q' b _ (Cd hh) (by rw[h1];rfl) h4
  ·cases h
 ·cases h
theorem MV {r:Nat}{σ:Heap}:∀ {l:List (Nat×(Heap→Prop))},Xb r σ l→∀ {c},c∈l→r≤c.1→c.2 σ
 |c::l,h,c',hc,hr=>by
  rcases List.mem_cons.1 hc with rfl|hc
  ·exact h.1 hr
  ·exact MV h.2 hc hr
theorem MS {B F:Heap}{pl:Nat→Value}{tb:Nat→Option Bool}{s:St}{env:Env}{σ:Heap}(hG:Gam P B F pl tb s env σ) {gs:List Gd}(hg:Gds tb gs) {o:VOp}(h:Q8u o (gev gs s.env)=true) {u:Value}{σ2:Heap}(hv:Q5 o (Q3 env) σ=some (u,σ2)) :
  ∀ τ,B.Le τ→Q5 o (Q3 env) τ=some (u,τ):=by
 unfold Q8u at h;split at h
 ·rename_i agg size a;have ha:=hG.evs hg a;have key:∀ i off,(∃ b,B.get i=some b)→Q3 env a=.pointer (some ⟨i,off,none⟩)→∀ τ,B.Le τ→Q5 (.load agg size a) (Q3 env) τ=some (u,τ):=fun i off ⟨b,hb⟩ he τ hτ=>by
   simp only[Q5,he,hG.leB.2 _ _ hb] at hv;simp only[Q5,he,hτ.2 _ _ hb];cases b with
   |obj o wr=>cases hv
   |cells c e wr t =>
    simp only at hv ⊢;split at hv
    ·obtain⟨rfl,rfl⟩:=QX hv;rfl
    ·cases hv
  split at h
  ·rename_i k l i off hx;rw[hx] at ha;simp only[SR] at ha;obtain⟨b,o,c,e,wr,t,_,_,h3,h4,_⟩:=ha;exact key b _ ⟨_,h3⟩ h4
  ·rename_i l off hx;rw[hx] at ha;simp only[SR] at ha;obtain⟨b,c,e,wr,t,h3,h4,_⟩:=ha;exact key b _ ⟨_,h3⟩ h4
  ·cases h
 ·cases h
def Jr (S:VSpecs):List DOper→Env→List Heap→Heap→List (Nat×(Heap→Prop))→(Env→Heap→Prop)→Prop
 |[],env,_,σ,_,K=>K env σ
 |o::rest,env,hs,σ,pend,K=>QI (Jc env o.guard) fun b =>
   vif b (if o.kind=2 then DS (fun R=>vop S o.op env σ R) fun v σ'=>Xb hs.length σ' pend∧Jr S rest (Xr env o.dst v) (hs++[σ']) σ' pend K
     else if o.kind=1 then QI (Q5 o.op (Q3 env) σ) fun p=>(∀ τ∈hs.drop o.kmin,Xq o.op (Q3 env) p.1 τ) ∧
      Jr S rest (Xr env o.dst p.1) hs σ (if hs.length≤o.kmax then (o.kmax,Xq o.op (Q3 env) p.1)::pend else pend) K
     else QI (Q5 o.op (Q3 env) σ) fun p=>Jr S rest (Xr env o.dst p.1) hs σ pend K)
    (if o.kind=2 then Xb hs.length σ pend∧Jr S rest (Xr env o.dst undef) (hs++[σ]) σ pend K else Jr S rest (Xr env o.dst undef) hs σ pend K)
theorem Tq {α:Type}{o:Option α}{f g:α→Prop}(h:QI o f) (tF:∀ a,f a→g a):QI o g:=by
 cases o with
 |none=>exact h.elim
 |some a=>exact tF a h
theorem Yi {S:VSpecs}{K:Env→Heap→Prop}:∀ {ops:List DOper}{env:Env}{hs:List Heap}{σ:Heap}{pend:List (Nat×(Heap→Prop))},Jr S ops env hs σ pend K→Zx S ops env hs σ pend K
 |[],_,_,_,_,h=>h
 |o::r,env,hs,σ,pend,h=>by
  simp only[Jr] at h;simp only[Zx];refine Tq h fun b h=>⟨fun e=>?_,fun e=>?_⟩
  ·have h:=h.1 e;split at h
   ·rename_i hk;rw[if_pos hk];obtain⟨v,σ',h1,h2,h3⟩:=h;exact .inl ⟨v,σ',h1,h2,Yi h3⟩
   ·rename_i hk;rw[if_neg hk];split at h
    ·rename_i bc;rw[if_pos bc];exact Tq h fun p h=>⟨h.1,Yi h.2⟩
    ·rename_i bc;rw[if_neg bc];exact Tq h fun p h=>Yi h
  ·have h:=h.2 e;split at h
   ·rename_i hk;rw[if_pos hk];exact⟨h.1,Yi h.2⟩
   ·rename_i hk;rw[if_neg hk];exact Yi h
theorem Ql {C:Cx}(aw:COk P C) (bA:C.xs=[]) {B0 F0 D0:Heap}:∀ (ops:List DOper),(∀ o∈ops,o.kind=o.op.kind)→∀ {s:St}{env:Env}{σ:Heap}{B F:Heap}{pl:Nat→Value}{tb:Nat→Option Bool},GBase B0 F0 D0 B F σ→Gam P B F pl tb s env σ→∀ {hl chg:Nat}{A Rd:List (Nat×Option Nat)}{hs:List Heap}{pend pd:List (Nat×(Heap→Prop))},DSt hs σ pd hl chg A Rd s.own pl→(∀ c∈pend,(∀ τ,B.Le τ→c.2 τ)∨c∈pd)→(∀ j τ,hs[j]?=some τ→Dd A j=true→B.Le τ)→chg≤hl→0<hl →
  ∀ {K:St→Prop},XQ C ops s hl chg A Rd K→∀ {R:Env→Heap→Prop},(∀ s' ae σ',K s'→GRel P B0 F0 D0 s' ae σ'→R ae σ')→Jr (Q1 P) ops env hs σ pend R
 |[],_,s,env,σ,B,F,pl,tb,hB,hG,_,_,_,_,_,_,_,_,_,_,_,_,K,h,R,hK=>hK s env σ h ⟨B,F,pl,tb,hB,hG⟩
 |o0::r,fe,s,env,σ,B,F,pl,tb,hB,hG,hl,chg,A,Rd,hs,pend,pd,hD,hp,b6,eE,aN,K,h,R,hK=>by
  have ew:∀ {n:Nat}{τ:Heap},B.Le τ→Xb n τ pd→Xb n τ pend:=fun {n τ} hb hv=>Kl fun c hc hn=>(hp c hc).elim (fun h=>h τ hb) fun h=>MV hv h hn;have snoc:∀ {τ:Heap}{A':List (Nat×Option Nat)},B.Le τ→(∀ j,Dd A' j=true→Dd A j=true)→∀ j τ',(hs++[τ])[j]?=some τ'→Dd A' j=true→B.Le τ':=fun {τ A'} hb hA j τ' hm hn=>by
   rcases JN hm with⟨_,h1⟩|⟨_,rfl⟩
   ·exact b6 j τ' h1 (hA j hn)
   ·exact hb
  have b_:∀ o∈r,o.kind=o.op.kind:=fun o' dw=>fe o' (List.mem_cons_of_mem _ dw);have lx:=fe o0 List.mem_cons_self;unfold XQ at h;split at h
  ·rename_i bE;have hw:=KE hG bE;simp only[Jr];rw[hw];refine⟨fun e=>(by cases e),fun _=>?_⟩;have b9:=hG.put o0.dst (show SR P B pl tb .any undef by simp[SR]);by_cases au:o0.kind=2
   ·rw[if_pos au] at h ⊢;obtain⟨k1,k2⟩:=hD.stay;exact⟨ew hG.leB k1,Ql aw bA r b_ hB b9 (by rw[Zc];exact k2) hp (snoc hG.leB fun _ h=>h) (by omega) (by omega) h hK⟩
   ·rw[if_neg au] at h ⊢;exact Ql aw bA r b_ hB b9 (by rw[Zc];exact hD) hp b6 eE aN h hK
  have cB:(Ff s.env o0).kind=(Ff s.env o0).op.kind:=by unfold Ff;split<;>exact lx
  have cP:Jr (Q1 P) (Ff s.env o0::r) env hs σ pend R→Jr (Q1 P) (o0::r) env hs σ pend R:=fun hv=>by
   unfold Ff at hv;split at hv
   ·rename_i bE;simp only[Jr] at hv ⊢;rw[KE hG bE];exact hv
   ·exact hv
  refine cP ?_;clear cP;generalize Ff s.env o0=o at h cB ⊢
  replace h:=id h
  simp only[Jr];by_cases au:o.kind=2
  ·rw[if_pos au] at h
   have fin:∀ {u:Value}{σ':Heap}{ts:List Nat}{v:SV}{s':St}{pl':Nat→Value},(∀ R',R' u σ'→vop (Q1 P) o.op env σ R')→XQ C r (s'.put o.dst v) (hl+1) (bif ts.isEmpty then chg else hl) (ts.map (fun t=>(hl-1,some t))++A) (bif ts.isEmpty then Rd else Rd.map fun r=>(r.1,none)) K→Gam P B F pl' tb s' env σ'→SR P B pl' tb v u→(ts=[]→σ'=σ∧pl'=pl∧s'=s)→σ.Le σ'→Dead σ σ'→FrL ts s s' pl pl' σ σ' →
     DS (fun R=>vop (Q1 P) o.op env σ R) fun v σ'=>Xb hs.length σ' pend∧Jr (Q1 P) r (Xr env o.dst v) (hs++[σ']) σ' pend R:=fun {u σ' ts v s' pl'} bB nJ bj gN he hle hd cu=>by
    cases ts with
    |nil =>obtain⟨rfl,rfl,rfl⟩:=he rfl;obtain⟨k1,k2⟩:=hD.stay;exact⟨u,σ',bB _ ⟨rfl,rfl⟩,ew bj.leB k1,Ql aw bA r b_ (Gj hB hd) (bj.put o.dst gN) (by rw[Zc];exact k2) hp (snoc bj.leB fun _ h=>h) (by simp only[List.isEmpty,_root_.cond_true] at *;omega) (by omega) nJ hK⟩
    |cons t ts =>obtain⟨k1,k2⟩:=hD.call hle cu aN;exact⟨u,σ',bB _ ⟨rfl,rfl⟩,ew bj.leB k1,Ql aw bA r b_ (Gj hB hd) (bj.put o.dst gN) (by rw[Zc];exact k2) hp (snoc bj.leB fun _ h=>HX h) (by simp only[List.isEmpty,_root_.cond_false] at *;omega) (by omega) nJ hK⟩
   split at h
   ·rename_i f args bB;split at h
    ·rename_i hg;rw[hg];refine⟨fun _=>?_,fun e=>by cases e⟩;rw[if_pos au];rw[bA] at h;simp only[Qq] at h;obtain⟨g,a,b,u,σ',e,v,s',pl',h1,h2,h3,h4,h5,h6,h7,h8,h9⟩:=Wj aw hG h (show SR P σ JK ZA (.fn f [] []) (.func (.func f) #[] #[]) by simp only[SR,SRs];exact⟨[],[],rfl,rfl,rfl⟩) (hG.gcall Gds.nil args);obtain⟨rfl,rfl,rfl⟩:=(by simpa using h1:f=g∧#[]=a∧#[]=b);refine fin (u:=u) (σ':=σ') (fun R' hr=>?_) h3 h4 h5 h6 h7 h8 h9;rw[bB];show VCalled P f (args.map (Q3 env)) σ R';have:=h2.mono (R':=R') fun u' aD ⟨e1,e2⟩=>by subst e1;subst e2;exact hr
     simpa using this
    ·rename_i j want hg;rw[hg];split at h
     ·exact h.elim
     ·rename_i gs s1 dU;obtain⟨tb',bj,cJ,b,hw,bg,bY⟩:=We hG dU;have aJ:=Kx dU;rw[hw];split at h
      ·rename_i cs v dt;cases ct:U4 v with
       |false=>rw[ct] at h;exact h.elim
       |true =>
       rw[ct] at h;simp only[_root_.cond_true] at h;obtain⟨h1,h2⟩:=Zu h;obtain⟨k1,k2⟩:=hD.stay;have lq:∀ x,DSt (hs++[σ]) σ pd (hl+1) chg A Rd (s1.put o.dst x).own pl:=fun x=>by rw[Zc,aJ];exact k2
       refine⟨fun e=>?_,fun e=>?_⟩
       ·rw[if_pos au];have gb:Gds tb' gs:=fun g hg=>⟨bg e g hg,cJ g hg⟩;have ly:∀ {v u},SR P B pl tb' v u→SR P B pl tb' (.grd gs (DU v)) u:=fun {v u} hs=>by
         simp only[SR];obtain⟨h1,h2⟩:=P2 hs;exact⟨⟨cJ,h2⟩,fun _=>h1,fun ⟨g,hg,aA⟩=>absurd (bg e g hg) aA⟩
        simp only[gqc] at dt;split at dt
        ·rename_i c v' heq;cases bR:v'.ret 0 with
         |false=>rw[bR] at dt;cases dt
         |true =>
          rw[bR] at dt;obtain⟨rfl,rfl⟩:=QX dt;obtain⟨g,a,b',h3,h4,_⟩:=ZS aw.cs (show SR P σ JK ZA (.fn f [] []) (.func (.func f) #[] #[]) by simp only[SR,SRs];exact⟨[],[],rfl,rfl,rfl⟩) (bj.gcall gb args) heq bR rfl (h2 (bg e) _ (by simp));obtain⟨rfl,rfl,rfl⟩:=(by simpa using h3:f=g∧#[]=a∧#[]=b');refine⟨U7 JK v',σ,?_,ew hG.leB k1,Ql aw bA r b_ hB (bj.put o.dst (ly ?_)) (lq _) hp (snoc hG.leB fun _ h=>h) (by omega) (by omega) (Zj h1) hK⟩
          ·rw[bB];show VCalled P f (args.map (Q3 env)) σ _;have:=h4.mono (R':=fun u σ'=>u=U7 JK v'∧σ'=σ) fun u σ' hr=>by
            obtain⟨rfl,hu⟩:=hr.flat bR;exact⟨UI v' u bR ct hu,rfl⟩
           simpa using this
          ·exact SR.retd (fun j hj=>by omega) _ _ bR (Sk (P:=P) (pl:=JK) (m:=0) (fun j hj=>by omega) v' bR ct)
        ·cases dt
       ·rw[if_pos au];obtain⟨g,dz,aA⟩:=bY e;exact⟨ew hG.leB k1,Ql aw bA r b_ hB (bj.put o.dst (by simp only[SR];exact⟨⟨cJ,HW v⟩,fun hall=>absurd (hall g dz) aA,fun _=>trivial⟩)) (lq _) hp (snoc hG.leB fun _ h=>h) (by omega) (by omega) (Zj h1) hK⟩
      ·split at h
       ·rename_i cs v j9;obtain⟨c,ty,k,xs,nl,heq,rfl,rfl,hk,cO⟩:=RH j9;obtain⟨h1,h2⟩:=Zu h;have frz:∀ {B' σ':Heap},B'.Le σ'→∀ j τ',(hs++[σ'])[j]?=some τ'→Dd ((hl-1,none)::A) j=true→B'.Le τ':=fun {B' σ'} hb j τ' hm hn=>by
         rcases JN hm with⟨h1,_⟩|⟨_,rfl⟩
         ·simp only[Dd,List.all_cons,Bool.and_eq_true,Bool.or_eq_true,Nat.blt_eq,Option.isSome_none,Bool.false_eq_true,or_false] at hn;have:=hD.len;omega
         ·exact hb
        refine⟨fun e=>?_,fun e=>?_⟩
        ·rw[if_pos au];have gb:Gds tb' gs:=fun g hg=>⟨bg e g hg,cJ g hg⟩;have fP:=h2 (bg e) c (by simp);have kX:=h2 (bg e) (nl=true→xs=[]) (by simp);have dU:Gl C (C.off+o.dst.getD 0) (.fn f [] []) (P4 s1.own (args.map (gev gs s1.env))) s1 (fun ts v' s'=>ts=[C.off+o.dst.getD 0]∧v'=.lst (C.off+o.dst.getD 0)∧s'=s1.make (C.off+o.dst.getD 0) (.lst ty k xs nl)):=by
          unfold Gl;rw[heq];dsimp only;have ao:(SV.ret [OB.lst ty k xs nl].length (.lst 0)&&([OB.lst ty k xs nl].all OB.ret&&(Nat.blt 0 C.nt&&([OB.lst ty k xs nl].all OB.isL&&U4 (.lst 0)))))=true:=by simp only[SV.ret,List.length_singleton,List.all_cons,List.all_nil,Bool.and_true,OB.ret,hk,Bool.true_and,OB.isL,U4];rw[Bool.and_eq_true];exact⟨rfl,by rw[Nat.blt_eq];exact cO⟩
          rw[ao];simp only[_root_.cond_true,Q1s,OB.wf];refine⟨fP,kX,?_,?_,?_⟩
          ·simp[List.range_succ]
          ·simp[SV.ren]
          ·simp[St.makes]
         obtain⟨g,a,b',u,σ',ts,v',s',pl',h3,h4,⟨rfl,rfl,rfl⟩,h5,h6,_,h7,h8,h9⟩:=Wj aw bj dU (show SR P σ JK ZA (.fn f [] []) (.func (.func f) #[] #[]) by simp only[SR,SRs];exact⟨[],[],rfl,rfl,rfl⟩) (bj.gcall gb args);obtain⟨rfl,rfl,rfl⟩:=(by simpa using h3:f=g∧#[]=a∧#[]=b');obtain⟨B',F',m1,m2,m3⟩:=S7 bj.bf hk h5 h6 h8;have cu:FrL [C.off+o.dst.getD 0] s ((s1.make (C.off+o.dst.getD 0) .dead).put o.dst (.grd gs (.val (.list k) xs))) pl pl' σ σ':=fun q hq=>by obtain⟨f1,f2,f3⟩:=h9 q hq;rw[aJ] at f3;refine⟨?_,f2,f3⟩;rw[Zc,Ut _ _ _ (by simpa using hq),aJ]
         obtain⟨k1,k2⟩:=hD.call h7 cu aN;refine⟨u,σ',?_,ew (m1.b.trans m2.leB) k1,Ql aw bA r b_ (hB.trans m1) (m2.put o.dst ?_) k2.frozen (fun c hc=>(hp c hc).imp (fun h τ hτ=>h τ (m1.b.trans hτ)) id) (frz m2.leB) (by omega) (by omega) h1 hK⟩
         ·rw[bB];show VCalled P f (args.map (Q3 env)) σ _;simpa using h4
         ·simp only[SR];exact⟨⟨cJ,trivial⟩,fun _=>m3,fun ⟨g,hg,aA⟩=>absurd (bg e g hg) aA⟩
        ·rw[if_pos au];obtain⟨g,dz,aA⟩:=bY e;have cu:FrL [C.off+o.dst.getD 0] s ((s1.make (C.off+o.dst.getD 0) .dead).put o.dst (.grd gs (.val (.list k) xs))) pl (JP pl (C.off+o.dst.getD 0) undef) σ σ:=fun q hq=>by
          have cQ:q≠C.off+o.dst.getD 0:=by simpa using hq
          refine⟨?_,by simp[JP,cQ],fun _ _ _=>rfl⟩;rw[Zc,Ut _ _ _ cQ,aJ]
         obtain⟨k1,k2⟩:=hD.call (.refl σ) cu aN;refine⟨ew hG.leB k1,Ql aw bA r b_ hB ((bj.make (C.off+o.dst.getD 0) .dead undef bj.le (fun _ _ _ _ _=>rfl) trivial (fun i hl _=>by cases hl)).put o.dst ?_) k2.frozen hp (frz hG.leB) (by omega) (by omega) h1 hK⟩;simp only[SR];exact⟨⟨cJ,trivial⟩,fun hall=>absurd (hall g dz) aA,fun _=>trivial⟩
       ·exact h.elim
   ·rename_i f args bB;split at h
    ·rename_i hg;rw[hg];refine⟨fun _=>?_,fun e=>by cases e⟩;rw[if_pos au];obtain⟨g,a,b,u,σ',e,v,s',pl',h1,h2,h3,h4,h5,h6,h7,h8,h9⟩:=Wj aw hG h (hG.gfun Gds.nil f) (hG.gcall Gds.nil args);refine fin (u:=u) (σ':=σ') (fun R' hr=>?_) h3 h4 h5 h6 h7 h8 h9;rw[bB];exact M6 h1 (h2.mono (R':=R') fun u' aD ⟨e1,e2⟩=>by subst e1;subst e2;exact hr)
    ·exact h.elim
   ·exact h.elim
   ·exact h.elim
   ·rename_i nK pP pQ ny;split at h
    ·rename_i hg;rw[hg];refine⟨fun _=>?_,fun e=>by cases e⟩;rw[if_pos au];have aB:O4 o.op=false:=by
      cases ho:o.op<;>first|rfl|(exact absurd ho (nK _ _))|(exact absurd ho (pP _ _))|skip
      case ext x=>cases x<;>first|rfl|(exact absurd ho (pQ _))|(exact absurd ho (ny _))
     cases j8:LG C (o.dst.getD 0) o.op (gev [] s.env) with
     |true =>
      rw[j8] at h;simp only[_root_.cond_true] at h;cases hm:Io (PT o.op) Rd hl (Cs (C.off+o.dst.getD 0) o.op (gev [] s.env)) with
      |false=>rw[hm] at h;exact h.elim
      |true =>
       rw[hm] at h;simp only[_root_.cond_true] at h;obtain⟨u,σ',pl',v,s',h1,h2,⟨h3,j6⟩,h4⟩:=Ti (fun x=>hG.evs (Gds.nil (tb:=tb)) x) hG h;have fK:∀ R',R' u σ'→vop (Q1 P) o.op env σ R':=fun R' hr=>by
        have:vop (Q1 P) o.op env σ R'=QI (Q5 o.op (Q3 env) σ) fun p=>R' p.1 p.2:=by
         cases ho:o.op with
         |callF f a=>rw[ho] at aB;cases aB
         |callV f a=>rw[ho] at aB;cases aB
         |ext x =>
          cases x with
          |nextMap y=>rw[ho] at h1;cases h1
          |_=>rfl
         |_=>rfl
        rw[this,h1];exact hr
       obtain⟨k1,k2⟩:=hD.writeD j6 (fun dS=>Lq dS h1) hm aN;exact⟨u,σ',fK _ ⟨rfl,rfl⟩,ew h3.leB k1,Ql aw bA r b_ (Gj hB (V7 h1)) (h3.put o.dst h4) (by rw[Zc];exact k2) hp (snoc h3.leB fun _ h=>HX h) (by omega) (by omega) h2 hK⟩
     |false =>
     rw[j8] at h;simp only[_root_.cond_false] at h;cases hm:((PT o.op&&Cr Rd hl (Za (C.off+o.dst.getD 0) o.op (gev [] s.env)))||R_ Rd hl (Za (C.off+o.dst.getD 0) o.op (gev [] s.env))) with
     |false=>rw[hm] at h;exact h.elim
     |true =>
      rw[hm] at h;simp only[_root_.cond_true] at h;obtain⟨u,σ',pl',v,s',h1,h2,⟨h3,j6⟩,h4⟩:=Q4y hG h aB;have fK:∀ R',R' u σ'→vop (Q1 P) o.op env σ R':=fun R' hr=>by
       have:vop (Q1 P) o.op env σ R'=QI (Q5 o.op (Q3 env) σ) fun p=>R' p.1 p.2:=by
        cases ho:o.op with
        |callF f a=>rw[ho] at aB;cases aB
        |callV f a=>rw[ho] at aB;cases aB
        |ext x =>
         cases x with
         |nextMap y=>rw[ho] at h1;cases h1
         |_=>rfl
        |_=>rfl
       rw[this,h1];exact hr
      obtain⟨k1,k2⟩:=hD.write j6 (fun dS=>Lq dS h1) hm aN;exact⟨u,σ',fK _ ⟨rfl,rfl⟩,ew h3.leB k1,Ql aw bA r b_ (Gj hB (V7 h1)) (h3.put o.dst h4) (by rw[Zc];exact k2) hp (snoc h3.leB fun _ h=>Ty h) (by omega) (by omega) h2 hK⟩
    ·exact h.elim
  ·rw[if_neg au] at h;have lz:o.op.kind≠2:=by rw[←cB];exact au
   by_cases bc:o.kind=1
   ·rw[if_pos bc] at h
    have rd:∀ (rq:Option Nat),(∀ q,rq=some q→Mj o.op (gev [] s.env) s.own=some q)→(Nat.ble chg o.kmin||PZ A o.kmin rq)=true→gd1 C o s (fun s'=>XQ C r s' hl chg A ((o.kmax,rq)::Rd) K) →
      QI (Jc env o.guard) fun b=>vif b (if o.kind=2 then DS (fun R=>vop (Q1 P) o.op env σ R) fun v σ'=>Xb hs.length σ' pend∧Jr (Q1 P) r (Xr env o.dst v) (hs++[σ']) σ' pend R
       else if o.kind=1 then QI (Q5 o.op (Q3 env) σ) fun p=>(∀ τ∈hs.drop o.kmin,Xq o.op (Q3 env) p.1 τ) ∧
        Jr (Q1 P) r (Xr env o.dst p.1) hs σ (if hs.length≤o.kmax then (o.kmax,Xq o.op (Q3 env) p.1)::pend else pend) R
       else QI (Q5 o.op (Q3 env) σ) fun p=>Jr (Q1 P) r (Xr env o.dst p.1) hs σ pend R)
      (if o.kind=2 then Xb hs.length σ pend∧Jr (Q1 P) r (Xr env o.dst undef) (hs++[σ]) σ pend R else Jr (Q1 P) r (Xr env o.dst undef) hs σ pend R):=fun rq nL hc h=>by
     obtain⟨b,hw,h1,h2⟩:=Ui hG h;rw[hw];have lA:DSt hs σ pd hl chg A ((o.kmax,rq)::Rd) s.own pl:=⟨hD.len,hD.same,fun c hc=>(hD.pend c hc).imp id fun ⟨r,k1,k2⟩=>⟨r,List.mem_cons_of_mem _ k1,k2⟩,hD.fr⟩;refine⟨fun e=>?_,fun e=>?_⟩
     ·obtain⟨u,s',tb',h3,h4,aJ,h5⟩:=h1 e;rw[if_neg au,if_pos bc,h3];refine⟨fun τ hτ=>?_,?_⟩
      ·obtain⟨j,hj⟩:=List.mem_iff_getElem?.1 hτ;rw[List.getElem?_drop] at hj;rw[Bool.or_eq_true] at hc;rcases hc with hc|hc
       ·have:=hD.same (o.kmin+j) τ (by have:=Nat.le_of_ble_eq_true hc;omega) hj;subst this;exact JR h3
       ·unfold PZ at hc;split at hc
        ·rename_i q;obtain⟨k1,i,bl,k2,k3,k4⟩:=Kv hG (nL q rfl) h3;have hu:Zh A (o.kmin+j) q=true:=by
          simp only[Zh,List.all_eq_true,Bool.or_eq_true,Nat.blt_eq] at hc ⊢;exact fun a ha=>(hc a ha).imp (fun h=>by omega) id
         have:=hD.fr (o.kmin+j) τ q i hj hu k1 k2;exact JR (k4 τ (by rw[this];exact k3))
        ·cases hc
      ·by_cases hle:hs.length≤o.kmax
       ·rw[if_pos hle];refine Ql aw bA r b_ hB h5 (A:=A) (Rd:=(o.kmax,rq)::Rd) (hl:=hl) (chg:=chg) (pd:=(o.kmax,Xq o.op (Q3 env) u)::pd) ?_ (fun c hc=>?_) b6 eE aN h4 hK
        ·rw[aJ];refine⟨hD.len,hD.same,fun c hc=>?_,hD.fr⟩;rcases List.mem_cons.1 hc with rfl|hc
         ·refine .inr ⟨_,List.mem_cons_self,Nat.le_refl _,?_⟩;cases rq with
          |none=>exact fun τ hτ=>JR (Tu lz h3 hτ)
          |some q =>obtain⟨k1,i,bl,k2,k3,k4⟩:=Kv hG (nL q rfl) h3;exact⟨k1,i,bl,k2,k3,fun τ ht=>JR (k4 τ ht)⟩
         ·exact lA.pend c hc
        ·rcases List.mem_cons.1 hc with rfl|hc
         ·exact .inr List.mem_cons_self
         ·exact(hp c hc).imp id fun h=>List.mem_cons_of_mem _ h
       ·rw[if_neg hle];exact Ql aw bA r b_ hB h5 (A:=A) (Rd:=(o.kmax,rq)::Rd) (hl:=hl) (chg:=chg) (pd:=pd) (by rw[aJ];exact lA) hp b6 eE aN h4 hK
     ·obtain⟨s',tb',h4,aJ,h5⟩:=h2 e;rw[if_neg au];exact Ql aw bA r b_ hB h5 (by rw[aJ];exact lA) hp b6 eE aN h4 hK
    have ro:Dd A o.kmin=true→(∀ u,Q5 o.op (Q3 env) σ=some (u,σ)→(Jc env o.guard=some true)→∀ τ,B.Le τ→Q5 o.op (Q3 env) τ=some (u,τ))→gd1 C o s (fun s'=>XQ C r s' hl chg A Rd K) →
      QI (Jc env o.guard) fun b=>vif b (if o.kind=2 then DS (fun R=>vop (Q1 P) o.op env σ R) fun v σ'=>Xb hs.length σ' pend∧Jr (Q1 P) r (Xr env o.dst v) (hs++[σ']) σ' pend R
       else if o.kind=1 then QI (Q5 o.op (Q3 env) σ) fun p=>(∀ τ∈hs.drop o.kmin,Xq o.op (Q3 env) p.1 τ) ∧
        Jr (Q1 P) r (Xr env o.dst p.1) hs σ (if hs.length≤o.kmax then (o.kmax,Xq o.op (Q3 env) p.1)::pend else pend) R
       else QI (Q5 o.op (Q3 env) σ) fun p=>Jr (Q1 P) r (Xr env o.dst p.1) hs σ pend R)
      (if o.kind=2 then Xb hs.length σ pend∧Jr (Q1 P) r (Xr env o.dst undef) (hs++[σ]) σ pend R else Jr (Q1 P) r (Xr env o.dst undef) hs σ pend R):=fun jr bN h=>by
     obtain⟨b,hw,h1,h2⟩:=Ui hG h;rw[hw];refine⟨fun e=>?_,fun e=>?_⟩
     ·obtain⟨u,s',tb',h3,h4,aJ,h5⟩:=h1 e;have bN:=bN u h3 (by rw[hw,e]);rw[if_neg au,if_pos bc,h3];refine⟨fun τ hτ=>?_,?_⟩
      ·obtain⟨j,hj⟩:=List.mem_iff_getElem?.1 hτ;rw[List.getElem?_drop] at hj;refine JR (bN τ (b6 _ τ hj ?_));simp only[Dd,List.all_eq_true,Bool.or_eq_true,Nat.blt_eq] at jr ⊢;exact fun a ha=>(jr a ha).imp (fun h=>by omega) id
      refine Ql aw bA r b_ hB h5 (A:=A) (Rd:=Rd) (hl:=hl) (chg:=chg) (pd:=pd) (by rw[aJ];exact hD) (fun c hc=>?_) b6 eE aN h4 hK;split at hc
      ·rcases List.mem_cons.1 hc with rfl|hc
       ·exact .inl fun τ hτ=>JR (bN τ hτ)
       ·exact hp c hc
      ·exact hp c hc
     ·obtain⟨s',tb',h4,aJ,h5⟩:=h2 e;rw[if_neg au];exact Ql aw bA r b_ hB h5 (by rw[aJ];exact hD) hp b6 eE aN h4 hK
    split at h
    ·rename_i hg;cases hr:(Q8u o.op (gev [] s.env)&&Dd A o.kmin) with
     |true =>rw[hr] at h;rw[Bool.and_eq_true] at hr;exact ro hr.2 (fun u hu _=>MS hG Gds.nil hr.1 hu) h
     |false =>
     rw[hr] at h;simp only[_root_.cond_false] at h;cases hb:(Nat.ble chg o.kmin||PZ A o.kmin (Mj o.op (gev [] s.env) s.own)) with
     |false=>rw[hb] at h;exact h.elim
     |true =>rw[hb] at h;exact rd _ (fun q hq=>hq) hb h
    ·rename_i j want hg;cases hr:(OJ s j want o.op&&Dd A o.kmin) with
     |true =>
      rw[hr] at h;rw[Bool.and_eq_true] at hr;obtain⟨hr,jr⟩:=hr;refine ro jr (fun u hu hw=>?_) h;unfold OJ at hr;split at hr
      ·rename_i gs s1 dU;obtain⟨tb',bj,cJ,b,cW,bg,bY⟩:=We hG dU;rw[hg,cW] at hw;have e:=osj hw;exact MS bj (fun g hg=>⟨bg e g hg,cJ g hg⟩) hr hu
      ·cases hr
     |false =>
     rw[hr] at h;simp only[_root_.cond_false] at h;cases hb:Nat.ble chg o.kmin with
     |false=>rw[hb] at h;exact h.elim
     |true =>rw[hb] at h;exact rd none (fun q hq=>by cases hq) (by rw[hb];rfl) h
   ·rw[if_neg bc] at h;obtain⟨b,hw,h1,h2⟩:=Ui hG h;rw[hw];refine⟨fun e=>?_,fun e=>?_⟩
    ·obtain⟨u,s',tb',h3,h4,aJ,h5⟩:=h1 e;rw[if_neg au,if_neg bc,h3];exact Ql aw bA r b_ hB h5 (by rw[aJ];exact hD) hp b6 eE aN h4 hK
    ·obtain⟨s',tb',h4,aJ,h5⟩:=h2 e;rw[if_neg au];exact Ql aw bA r b_ hB h5 (by rw[aJ];exact hD) hp b6 eE aN h4 hK
theorem Qn {C:Cx}(aw:COk P C) {B0 F0 D0:Heap}:∀ (ops:List DOper),(∀ o∈ops,o.kind=o.op.kind)→∀ {s:St}{env:Env}{σ:Heap}{B F:Heap}{pl:Nat→Value}{tb:Nat→Option Bool},GBase B0 F0 D0 B F σ→Gam P B F pl tb s env σ→∀ {hl chg:Nat}{A Rd:List (Nat×Option Nat)}{hs:List Heap}{pend pd:List (Nat×(Heap→Prop))},DSt hs σ pd hl chg A Rd s.own pl→(∀ c∈pend,(∀ τ,B.Le τ→c.2 τ)∨c∈pd)→(∀ j τ,hs[j]?=some τ→Dd A j=true→B.Le τ)→chg≤hl→0<hl →
  ∀ {K:St→Prop},XQ C ops s hl chg A Rd K→∀ {R:Env→Heap→Prop},(∀ s' ae σ',K s'→GRel P B0 F0 D0 s' ae σ'→R ae σ')→Zx (Q1 P) ops env hs σ pend R
 |[],_,s,env,σ,B,F,pl,tb,hB,hG,_,_,_,_,_,_,_,_,_,_,_,_,K,h,R,hK=>hK s env σ h ⟨B,F,pl,tb,hB,hG⟩
 |o0::r,fe,s,env,σ,B,F,pl,tb,hB,hG,hl,chg,A,Rd,hs,pend,pd,hD,hp,b6,eE,aN,K,h,R,hK=>by
  have ew:∀ {n:Nat}{τ:Heap},B.Le τ→Xb n τ pd→Xb n τ pend:=fun {n τ} hb hv=>Kl fun c hc hn=>(hp c hc).elim (fun h=>h τ hb) fun h=>MV hv h hn;have snoc:∀ {τ:Heap}{A':List (Nat×Option Nat)},B.Le τ→(∀ j,Dd A' j=true→Dd A j=true)→∀ j τ',(hs++[τ])[j]?=some τ'→Dd A' j=true→B.Le τ':=fun {τ A'} hb hA j τ' hm hn=>by
   rcases JN hm with⟨_,h1⟩|⟨_,rfl⟩
   ·exact b6 j τ' h1 (hA j hn)
   ·exact hb
  have b_:∀ o∈r,o.kind=o.op.kind:=fun o' dw=>fe o' (List.mem_cons_of_mem _ dw);have lx:=fe o0 List.mem_cons_self;unfold XQ at h;split at h
  ·rename_i bE;have hw:=KE hG bE;simp only[Zx];rw[hw];refine⟨fun e=>(by cases e),fun _=>?_⟩;have b9:=hG.put o0.dst (show SR P B pl tb .any undef by simp[SR]);by_cases au:o0.kind=2
   ·rw[if_pos au] at h ⊢;obtain⟨k1,k2⟩:=hD.stay;exact⟨ew hG.leB k1,Qn aw r b_ hB b9 (by rw[Zc];exact k2) hp (snoc hG.leB fun _ h=>h) (by omega) (by omega) h hK⟩
   ·rw[if_neg au] at h ⊢;exact Qn aw r b_ hB b9 (by rw[Zc];exact hD) hp b6 eE aN h hK
  have cB:(Ff s.env o0).kind=(Ff s.env o0).op.kind:=by unfold Ff;split<;>exact lx
  have cP:Zx (Q1 P) (Ff s.env o0::r) env hs σ pend R→Zx (Q1 P) (o0::r) env hs σ pend R:=fun hv=>by
   unfold Ff at hv;split at hv
   ·rename_i bE;simp only[Zx] at hv ⊢;rw[KE hG bE];exact hv
   ·exact hv
  refine cP ?_;clear cP;generalize Ff s.env o0=o at h cB ⊢
  replace h:=id h
  simp only[Zx];by_cases au:o.kind=2
  ·rw[if_pos au] at h
   have fin:∀ {u:Value}{σ':Heap}{ts:List Nat}{v:SV}{s':St}{pl':Nat→Value},(∀ R',R' u σ'→vop (Q1 P) o.op env σ R')→XQ C r (s'.put o.dst v) (hl+1) (bif ts.isEmpty then chg else hl) (ts.map (fun t=>(hl-1,some t))++A) (bif ts.isEmpty then Rd else Rd.map fun r=>(r.1,none)) K→Gam P B F pl' tb s' env σ'→SR P B pl' tb v u→(ts=[]→σ'=σ∧pl'=pl∧s'=s)→σ.Le σ'→Dead σ σ'→FrL ts s s' pl pl' σ σ' →
     DS (fun R=>vop (Q1 P) o.op env σ R) fun v σ'=>Xb hs.length σ' pend∧Zx (Q1 P) r (Xr env o.dst v) (hs++[σ']) σ' pend R:=fun {u σ' ts v s' pl'} bB nJ bj gN he hle hd cu=>by
    cases ts with
    |nil =>obtain⟨rfl,rfl,rfl⟩:=he rfl;obtain⟨k1,k2⟩:=hD.stay;exact⟨u,σ',bB _ ⟨rfl,rfl⟩,ew bj.leB k1,Qn aw r b_ (Gj hB hd) (bj.put o.dst gN) (by rw[Zc];exact k2) hp (snoc bj.leB fun _ h=>h) (by simp only[List.isEmpty,_root_.cond_true] at *;omega) (by omega) nJ hK⟩
    |cons t ts =>obtain⟨k1,k2⟩:=hD.call hle cu aN;exact⟨u,σ',bB _ ⟨rfl,rfl⟩,ew bj.leB k1,Qn aw r b_ (Gj hB hd) (bj.put o.dst gN) (by rw[Zc];exact k2) hp (snoc bj.leB fun _ h=>HX h) (by simp only[List.isEmpty,_root_.cond_false] at *;omega) (by omega) nJ hK⟩
   split at h
   ·rename_i f args bB;split at h
    ·rename_i hg;rw[hg];refine⟨fun _=>?_,fun e=>by cases e⟩;rw[if_pos au]
     have nM:∀ {K':List Nat→SV→St→Prop},Gl C (C.off+o.dst.getD 0) (.fn f [] []) (P4 s.own (args.map (gev [] s.env))) s K'→(∀ ts v s',K' ts v s'→XQ C r (s'.put o.dst v) (hl+1) (bif ts.isEmpty then chg else hl) (ts.map (fun t=>(hl-1,some t))++A) (bif ts.isEmpty then Rd else Rd.map fun r=>(r.1,none)) K) →
       DS (fun R=>vop (Q1 P) o.op env σ R) fun v σ'=>Xb hs.length σ' pend∧Zx (Q1 P) r (Xr env o.dst v) (hs++[σ']) σ' pend R:=fun {K'} h pR=>by
      obtain⟨g,a,b,u,σ',e,v,s',pl',h1,h2,h3,h4,h5,h6,h7,h8,h9⟩:=Wj aw hG h (show SR P σ JK ZA (.fn f [] []) (.func (.func f) #[] #[]) by simp only[SR,SRs];exact⟨[],[],rfl,rfl,rfl⟩) (hG.gcall Gds.nil args);obtain⟨rfl,rfl,rfl⟩:=(by simpa using h1:f=g∧#[]=a∧#[]=b);refine fin (u:=u) (σ':=σ') (fun R' hr=>?_) (pR _ _ _ h3) h4 h5 h6 h7 h8 h9;rw[bB];show VCalled P f (args.map (Q3 env)) σ R';have:=h2.mono (R':=R') fun u' aD ⟨e1,e2⟩=>by subst e1;subst e2;exact hr
      simpa using this
     split at h
     ·rename_i x hx;split at h
      ·rename_i jf tH;split at h
       ·rename_i tt pS;cases gm:(waits o.dst.toList r&&Io false Rd hl [tt]) with
        |false=>rw[gm] at h;exact h.elim
        |true =>rw[gm] at h;simp only[_root_.cond_true] at h;rw[Bool.and_eq_true] at gm;refine .inr ⟨gm.1,?_⟩;rw[bB];show VCalled P f (args.map (Q3 env)) σ _;refine aw.xf f jf tH x hx B F pl tb s env σ _ _ _ _ _ tt hG (SRs.map fun x _=>hG.evs Gds.nil x) pS h fun v s' u σ' k1 k2 k3 k4 k5=>?_;obtain⟨q1,q2⟩:=hD.writeD k5 (mk:=false) (fun h=>by cases h) gm.2 aN;exact⟨ew k3.leB q1,Qn aw r b_ (Gj hB k2) (k3.put o.dst k4) (by rw[Zc];exact q2) hp (snoc k3.leB fun _ h=>Ty h) (by omega) (by omega) k1 hK⟩
       ·exact h.elim
      ·cases gm:(waits o.dst.toList r&&Rd.all (fun q=>Nat.blt q.1 hl)) with
       |false=>rw[gm] at h;simp only[_root_.cond_false] at h;exact .inl (nM h fun _ _ _ h=>h)
       |true =>
        rw[gm] at h;simp only[_root_.cond_true] at h;rw[Bool.and_eq_true] at gm;refine .inr ⟨gm.1,?_⟩;rw[bB];show VCalled P f (args.map (Q3 env)) σ _;have av:∀ args:List Operand,SRs P B pl tb (args.map (gev [] s.env)) (args.map (Q3 env)):=fun args=>SRs.map fun x _=>hG.evs Gds.nil x;refine aw.xs f x hx B F pl tb s env σ _ _ _ _ _ hG (av args) h fun v s' B' F' pl' tb' u σ' k1 k2 k3 k4=>?_;have hall:∀ c∈pd,c.1<hl:=fun c hc=>by
         rcases hD.pend c hc with h1|⟨q,h1,h2,_⟩
         ·exact h1
         ·have:=List.all_eq_true.1 gm.2 q h1;rw[Nat.blt_eq] at this;omega
        have jO:Xb hs.length σ' pd:=Kl fun c hc hle=>by have:=hall c hc;have:=hD.len;omega
        have pT:Xb hs.length σ' pend:=Kl fun c hc hn=>(hp c hc).elim (fun h=>h σ' (k2.b.trans k3.leB)) fun h=>MV jO h hn;refine⟨pT,Qn aw r b_ (hB.trans k2) (k3.put o.dst k4) (pd:=pd) ⟨by simp[hD.len],fun j τ hj ht=>?_,fun c hc=>.inl (by have:=hall c hc;omega),fun j τ q i ht hu bJ hi=>?_⟩ (fun c hc=>(hp c hc).imp (fun h τ hτ=>h τ (k2.b.trans hτ)) id) (fun j τ ht hn=>?_) (by omega) (by omega) k1 hK⟩
        ·rcases JN ht with⟨h1,_⟩|⟨_,h1⟩
         ·rw[hD.len] at h1;omega
         ·exact h1
        ·rcases JN ht with⟨h1,_⟩|⟨_,h1⟩
         ·exfalso;rw[hD.len] at h1;simp only[Zh,List.all_cons,Bool.and_eq_true,Bool.or_eq_true,Nat.blt_eq,Bool.false_eq_true,or_false] at hu;omega
         ·rw[h1]
        ·rcases JN ht with⟨h1,_⟩|⟨_,h1⟩
         ·exfalso;rw[hD.len] at h1;simp only[Dd,List.all_cons,Bool.and_eq_true,Bool.or_eq_true,Nat.blt_eq,Option.isSome_none,Bool.false_eq_true,or_false] at hn;omega
         ·rw[h1];exact k3.leB
     ·exact .inl (nM h fun _ _ _ h=>h)
    ·rename_i j want hg;rw[hg];split at h
     ·exact h.elim
     ·rename_i gs s1 dU;obtain⟨tb',bj,cJ,b,hw,bg,bY⟩:=We hG dU;have aJ:=Kx dU;rw[hw];split at h
      ·rename_i cs v dt;cases ct:U4 v with
       |false=>rw[ct] at h;exact h.elim
       |true =>
       rw[ct] at h;simp only[_root_.cond_true] at h;obtain⟨h1,h2⟩:=Zu h;obtain⟨k1,k2⟩:=hD.stay;have lq:∀ x,DSt (hs++[σ]) σ pd (hl+1) chg A Rd (s1.put o.dst x).own pl:=fun x=>by rw[Zc,aJ];exact k2
       refine⟨fun e=>?_,fun e=>?_⟩
       ·rw[if_pos au];have gb:Gds tb' gs:=fun g hg=>⟨bg e g hg,cJ g hg⟩;have ly:∀ {v u},SR P B pl tb' v u→SR P B pl tb' (.grd gs (DU v)) u:=fun {v u} hs=>by
         simp only[SR];obtain⟨h1,h2⟩:=P2 hs;exact⟨⟨cJ,h2⟩,fun _=>h1,fun ⟨g,hg,aA⟩=>absurd (bg e g hg) aA⟩
        simp only[gqc] at dt;split at dt
        ·rename_i c v' heq;cases bR:v'.ret 0 with
         |false=>rw[bR] at dt;cases dt
         |true =>
          rw[bR] at dt;obtain⟨rfl,rfl⟩:=QX dt;obtain⟨g,a,b',h3,h4,_⟩:=ZS aw.cs (show SR P σ JK ZA (.fn f [] []) (.func (.func f) #[] #[]) by simp only[SR,SRs];exact⟨[],[],rfl,rfl,rfl⟩) (bj.gcall gb args) heq bR rfl (h2 (bg e) _ (by simp));obtain⟨rfl,rfl,rfl⟩:=(by simpa using h3:f=g∧#[]=a∧#[]=b');refine .inl ⟨U7 JK v',σ,?_,ew hG.leB k1,Qn aw r b_ hB (bj.put o.dst (ly ?_)) (lq _) hp (snoc hG.leB fun _ h=>h) (by omega) (by omega) (Zj h1) hK⟩
          ·rw[bB];show VCalled P f (args.map (Q3 env)) σ _;have:=h4.mono (R':=fun u σ'=>u=U7 JK v'∧σ'=σ) fun u σ' hr=>by
            obtain⟨rfl,hu⟩:=hr.flat bR;exact⟨UI v' u bR ct hu,rfl⟩
           simpa using this
          ·exact SR.retd (fun j hj=>by omega) _ _ bR (Sk (P:=P) (pl:=JK) (m:=0) (fun j hj=>by omega) v' bR ct)
        ·cases dt
       ·rw[if_pos au];obtain⟨g,dz,aA⟩:=bY e;exact⟨ew hG.leB k1,Qn aw r b_ hB (bj.put o.dst (by simp only[SR];exact⟨⟨cJ,HW v⟩,fun hall=>absurd (hall g dz) aA,fun _=>trivial⟩)) (lq _) hp (snoc hG.leB fun _ h=>h) (by omega) (by omega) (Zj h1) hK⟩
      ·split at h
       ·rename_i cs v j9;obtain⟨c,ty,k,xs,nl,heq,rfl,rfl,hk,cO⟩:=RH j9;obtain⟨h1,h2⟩:=Zu h;have frz:∀ {B' σ':Heap},B'.Le σ'→∀ j τ',(hs++[σ'])[j]?=some τ'→Dd ((hl-1,none)::A) j=true→B'.Le τ':=fun {B' σ'} hb j τ' hm hn=>by
         rcases JN hm with⟨h1,_⟩|⟨_,rfl⟩
         ·simp only[Dd,List.all_cons,Bool.and_eq_true,Bool.or_eq_true,Nat.blt_eq,Option.isSome_none,Bool.false_eq_true,or_false] at hn;have:=hD.len;omega
         ·exact hb
        refine⟨fun e=>?_,fun e=>?_⟩
        ·rw[if_pos au];have gb:Gds tb' gs:=fun g hg=>⟨bg e g hg,cJ g hg⟩;have fP:=h2 (bg e) c (by simp);have kX:=h2 (bg e) (nl=true→xs=[]) (by simp);have dU:Gl C (C.off+o.dst.getD 0) (.fn f [] []) (P4 s1.own (args.map (gev gs s1.env))) s1 (fun ts v' s'=>ts=[C.off+o.dst.getD 0]∧v'=.lst (C.off+o.dst.getD 0)∧s'=s1.make (C.off+o.dst.getD 0) (.lst ty k xs nl)):=by
          unfold Gl;rw[heq];dsimp only;have ao:(SV.ret [OB.lst ty k xs nl].length (.lst 0)&&([OB.lst ty k xs nl].all OB.ret&&(Nat.blt 0 C.nt&&([OB.lst ty k xs nl].all OB.isL&&U4 (.lst 0)))))=true:=by simp only[SV.ret,List.length_singleton,List.all_cons,List.all_nil,Bool.and_true,OB.ret,hk,Bool.true_and,OB.isL,U4];rw[Bool.and_eq_true];exact⟨rfl,by rw[Nat.blt_eq];exact cO⟩
          rw[ao];simp only[_root_.cond_true,Q1s,OB.wf];refine⟨fP,kX,?_,?_,?_⟩
          ·simp[List.range_succ]
          ·simp[SV.ren]
          ·simp[St.makes]
         obtain⟨g,a,b',u,σ',ts,v',s',pl',h3,h4,⟨rfl,rfl,rfl⟩,h5,h6,_,h7,h8,h9⟩:=Wj aw bj dU (show SR P σ JK ZA (.fn f [] []) (.func (.func f) #[] #[]) by simp only[SR,SRs];exact⟨[],[],rfl,rfl,rfl⟩) (bj.gcall gb args);obtain⟨rfl,rfl,rfl⟩:=(by simpa using h3:f=g∧#[]=a∧#[]=b');obtain⟨B',F',m1,m2,m3⟩:=S7 bj.bf hk h5 h6 h8;have cu:FrL [C.off+o.dst.getD 0] s ((s1.make (C.off+o.dst.getD 0) .dead).put o.dst (.grd gs (.val (.list k) xs))) pl pl' σ σ':=fun q hq=>by obtain⟨f1,f2,f3⟩:=h9 q hq;rw[aJ] at f3;refine⟨?_,f2,f3⟩;rw[Zc,Ut _ _ _ (by simpa using hq),aJ]
         obtain⟨k1,k2⟩:=hD.call h7 cu aN;refine .inl ⟨u,σ',?_,ew (m1.b.trans m2.leB) k1,Qn aw r b_ (hB.trans m1) (m2.put o.dst ?_) k2.frozen (fun c hc=>(hp c hc).imp (fun h τ hτ=>h τ (m1.b.trans hτ)) id) (frz m2.leB) (by omega) (by omega) h1 hK⟩
         ·rw[bB];show VCalled P f (args.map (Q3 env)) σ _;simpa using h4
         ·simp only[SR];exact⟨⟨cJ,trivial⟩,fun _=>m3,fun ⟨g,hg,aA⟩=>absurd (bg e g hg) aA⟩
        ·rw[if_pos au];obtain⟨g,dz,aA⟩:=bY e;have cu:FrL [C.off+o.dst.getD 0] s ((s1.make (C.off+o.dst.getD 0) .dead).put o.dst (.grd gs (.val (.list k) xs))) pl (JP pl (C.off+o.dst.getD 0) undef) σ σ:=fun q hq=>by
          have cQ:q≠C.off+o.dst.getD 0:=by simpa using hq
          refine⟨?_,by simp[JP,cQ],fun _ _ _=>rfl⟩;rw[Zc,Ut _ _ _ cQ,aJ]
         obtain⟨k1,k2⟩:=hD.call (.refl σ) cu aN;refine⟨ew hG.leB k1,Qn aw r b_ hB ((bj.make (C.off+o.dst.getD 0) .dead undef bj.le (fun _ _ _ _ _=>rfl) trivial (fun i hl _=>by cases hl)).put o.dst ?_) k2.frozen hp (frz hG.leB) (by omega) (by omega) h1 hK⟩;simp only[SR];exact⟨⟨cJ,trivial⟩,fun hall=>absurd (hall g dz) aA,fun _=>trivial⟩
       ·exact h.elim
   ·rename_i f args bB;split at h
    ·rename_i hg;rw[hg];refine⟨fun _=>?_,fun e=>by cases e⟩;rw[if_pos au];refine .inl ?_;obtain⟨g,a,b,u,σ',e,v,s',pl',h1,h2,h3,h4,h5,h6,h7,h8,h9⟩:=Wj aw hG h (hG.gfun Gds.nil f) (hG.gcall Gds.nil args);refine fin (u:=u) (σ':=σ') (fun R' hr=>?_) h3 h4 h5 h6 h7 h8 h9;rw[bB];exact M6 h1 (h2.mono (R':=R') fun u' aD ⟨e1,e2⟩=>by subst e1;subst e2;exact hr)
    ·exact h.elim
   ·exact h.elim
   ·exact h.elim
   ·rename_i nK pP pQ ny;split at h
    ·rename_i hg;rw[hg];refine⟨fun _=>?_,fun e=>by cases e⟩;rw[if_pos au];have aB:O4 o.op=false:=by
      cases ho:o.op<;>first|rfl|(exact absurd ho (nK _ _))|(exact absurd ho (pP _ _))|skip
      case ext x=>cases x<;>first|rfl|(exact absurd ho (pQ _))|(exact absurd ho (ny _))
     cases j8:LG C (o.dst.getD 0) o.op (gev [] s.env) with
     |true =>
      rw[j8] at h;simp only[_root_.cond_true] at h;cases hm:Io (PT o.op) Rd hl (Cs (C.off+o.dst.getD 0) o.op (gev [] s.env)) with
      |false=>rw[hm] at h;exact h.elim
      |true =>
       rw[hm] at h;simp only[_root_.cond_true] at h;obtain⟨u,σ',pl',v,s',h1,h2,⟨h3,j6⟩,h4⟩:=Ti (fun x=>hG.evs (Gds.nil (tb:=tb)) x) hG h;have fK:∀ R',R' u σ'→vop (Q1 P) o.op env σ R':=fun R' hr=>by
        have:vop (Q1 P) o.op env σ R'=QI (Q5 o.op (Q3 env) σ) fun p=>R' p.1 p.2:=by
         cases ho:o.op with
         |callF f a=>rw[ho] at aB;cases aB
         |callV f a=>rw[ho] at aB;cases aB
         |ext x =>
          cases x with
          |nextMap y=>rw[ho] at h1;cases h1
          |_=>rfl
         |_=>rfl
        rw[this,h1];exact hr
       obtain⟨k1,k2⟩:=hD.writeD j6 (fun dS=>Lq dS h1) hm aN;exact .inl ⟨u,σ',fK _ ⟨rfl,rfl⟩,ew h3.leB k1,Qn aw r b_ (Gj hB (V7 h1)) (h3.put o.dst h4) (by rw[Zc];exact k2) hp (snoc h3.leB fun _ h=>HX h) (by omega) (by omega) h2 hK⟩
     |false =>
     rw[j8] at h;simp only[_root_.cond_false] at h;cases hm:((PT o.op&&Cr Rd hl (Za (C.off+o.dst.getD 0) o.op (gev [] s.env)))||R_ Rd hl (Za (C.off+o.dst.getD 0) o.op (gev [] s.env))) with
     |false=>rw[hm] at h;exact h.elim
     |true =>
      rw[hm] at h;simp only[_root_.cond_true] at h;obtain⟨u,σ',pl',v,s',h1,h2,⟨h3,j6⟩,h4⟩:=Q4y hG h aB;have fK:∀ R',R' u σ'→vop (Q1 P) o.op env σ R':=fun R' hr=>by
       have:vop (Q1 P) o.op env σ R'=QI (Q5 o.op (Q3 env) σ) fun p=>R' p.1 p.2:=by
        cases ho:o.op with
        |callF f a=>rw[ho] at aB;cases aB
        |callV f a=>rw[ho] at aB;cases aB
        |ext x =>
         cases x with
         |nextMap y=>rw[ho] at h1;cases h1
         |_=>rfl
        |_=>rfl
       rw[this,h1];exact hr
      obtain⟨k1,k2⟩:=hD.write j6 (fun dS=>Lq dS h1) hm aN;exact .inl ⟨u,σ',fK _ ⟨rfl,rfl⟩,ew h3.leB k1,Qn aw r b_ (Gj hB (V7 h1)) (h3.put o.dst h4) (by rw[Zc];exact k2) hp (snoc h3.leB fun _ h=>Ty h) (by omega) (by omega) h2 hK⟩
    ·exact h.elim
  ·rw[if_neg au] at h;have lz:o.op.kind≠2:=by rw[←cB];exact au
   by_cases bc:o.kind=1
   ·rw[if_pos bc] at h
    have rd:∀ (rq:Option Nat),(∀ q,rq=some q→Mj o.op (gev [] s.env) s.own=some q)→(Nat.ble chg o.kmin||PZ A o.kmin rq)=true→gd1 C o s (fun s'=>XQ C r s' hl chg A ((o.kmax,rq)::Rd) K) →
      QI (Jc env o.guard) fun b=>vif b (if o.kind=2 then (DS (fun R=>vop (Q1 P) o.op env σ R) fun v σ'=>Xb hs.length σ' pend∧Zx (Q1 P) r (Xr env o.dst v) (hs++[σ']) σ' pend R)∨(waits o.dst.toList r=true∧vop (Q1 P) o.op env σ fun v σ'=>Xb hs.length σ' pend∧Zx (Q1 P) r (Xr env o.dst v) (hs++[σ']) σ' pend R)
       else if o.kind=1 then QI (Q5 o.op (Q3 env) σ) fun p=>(∀ τ∈hs.drop o.kmin,Xq o.op (Q3 env) p.1 τ) ∧
        Zx (Q1 P) r (Xr env o.dst p.1) hs σ (if hs.length≤o.kmax then (o.kmax,Xq o.op (Q3 env) p.1)::pend else pend) R
       else QI (Q5 o.op (Q3 env) σ) fun p=>Zx (Q1 P) r (Xr env o.dst p.1) hs σ pend R)
      (if o.kind=2 then Xb hs.length σ pend∧Zx (Q1 P) r (Xr env o.dst undef) (hs++[σ]) σ pend R else Zx (Q1 P) r (Xr env o.dst undef) hs σ pend R):=fun rq nL hc h=>by
     obtain⟨b,hw,h1,h2⟩:=Ui hG h;rw[hw];have lA:DSt hs σ pd hl chg A ((o.kmax,rq)::Rd) s.own pl:=⟨hD.len,hD.same,fun c hc=>(hD.pend c hc).imp id fun ⟨r,k1,k2⟩=>⟨r,List.mem_cons_of_mem _ k1,k2⟩,hD.fr⟩;refine⟨fun e=>?_,fun e=>?_⟩
     ·obtain⟨u,s',tb',h3,h4,aJ,h5⟩:=h1 e;rw[if_neg au,if_pos bc,h3];refine⟨fun τ hτ=>?_,?_⟩
      ·obtain⟨j,hj⟩:=List.mem_iff_getElem?.1 hτ;rw[List.getElem?_drop] at hj;rw[Bool.or_eq_true] at hc;rcases hc with hc|hc
       ·have:=hD.same (o.kmin+j) τ (by have:=Nat.le_of_ble_eq_true hc;omega) hj;subst this;exact JR h3
       ·unfold PZ at hc;split at hc
        ·rename_i q;obtain⟨k1,i,bl,k2,k3,k4⟩:=Kv hG (nL q rfl) h3;have hu:Zh A (o.kmin+j) q=true:=by
          simp only[Zh,List.all_eq_true,Bool.or_eq_true,Nat.blt_eq] at hc ⊢;exact fun a ha=>(hc a ha).imp (fun h=>by omega) id
         have:=hD.fr (o.kmin+j) τ q i hj hu k1 k2;exact JR (k4 τ (by rw[this];exact k3))
        ·cases hc
      ·by_cases hle:hs.length≤o.kmax
       ·rw[if_pos hle];refine Qn aw r b_ hB h5 (A:=A) (Rd:=(o.kmax,rq)::Rd) (hl:=hl) (chg:=chg) (pd:=(o.kmax,Xq o.op (Q3 env) u)::pd) ?_ (fun c hc=>?_) b6 eE aN h4 hK
        ·rw[aJ];refine⟨hD.len,hD.same,fun c hc=>?_,hD.fr⟩;rcases List.mem_cons.1 hc with rfl|hc
         ·refine .inr ⟨_,List.mem_cons_self,Nat.le_refl _,?_⟩;cases rq with
          |none=>exact fun τ hτ=>JR (Tu lz h3 hτ)
          |some q =>obtain⟨k1,i,bl,k2,k3,k4⟩:=Kv hG (nL q rfl) h3;exact⟨k1,i,bl,k2,k3,fun τ ht=>JR (k4 τ ht)⟩
         ·exact lA.pend c hc
        ·rcases List.mem_cons.1 hc with rfl|hc
         ·exact .inr List.mem_cons_self
         ·exact(hp c hc).imp id fun h=>List.mem_cons_of_mem _ h
       ·rw[if_neg hle];exact Qn aw r b_ hB h5 (A:=A) (Rd:=(o.kmax,rq)::Rd) (hl:=hl) (chg:=chg) (pd:=pd) (by rw[aJ];exact lA) hp b6 eE aN h4 hK
     ·obtain⟨s',tb',h4,aJ,h5⟩:=h2 e;rw[if_neg au];exact Qn aw r b_ hB h5 (by rw[aJ];exact lA) hp b6 eE aN h4 hK
    have ro:Dd A o.kmin=true→(∀ u,Q5 o.op (Q3 env) σ=some (u,σ)→(Jc env o.guard=some true)→∀ τ,B.Le τ→Q5 o.op (Q3 env) τ=some (u,τ))→gd1 C o s (fun s'=>XQ C r s' hl chg A Rd K) →
      QI (Jc env o.guard) fun b=>vif b (if o.kind=2 then (DS (fun R=>vop (Q1 P) o.op env σ R) fun v σ'=>Xb hs.length σ' pend∧Zx (Q1 P) r (Xr env o.dst v) (hs++[σ']) σ' pend R)∨(waits o.dst.toList r=true∧vop (Q1 P) o.op env σ fun v σ'=>Xb hs.length σ' pend∧Zx (Q1 P) r (Xr env o.dst v) (hs++[σ']) σ' pend R)
       else if o.kind=1 then QI (Q5 o.op (Q3 env) σ) fun p=>(∀ τ∈hs.drop o.kmin,Xq o.op (Q3 env) p.1 τ) ∧
        Zx (Q1 P) r (Xr env o.dst p.1) hs σ (if hs.length≤o.kmax then (o.kmax,Xq o.op (Q3 env) p.1)::pend else pend) R
       else QI (Q5 o.op (Q3 env) σ) fun p=>Zx (Q1 P) r (Xr env o.dst p.1) hs σ pend R)
      (if o.kind=2 then Xb hs.length σ pend∧Zx (Q1 P) r (Xr env o.dst undef) (hs++[σ]) σ pend R else Zx (Q1 P) r (Xr env o.dst undef) hs σ pend R):=fun jr bN h=>by
     obtain⟨b,hw,h1,h2⟩:=Ui hG h;rw[hw];refine⟨fun e=>?_,fun e=>?_⟩
     ·obtain⟨u,s',tb',h3,h4,aJ,h5⟩:=h1 e;have bN:=bN u h3 (by rw[hw,e]);rw[if_neg au,if_pos bc,h3];refine⟨fun τ hτ=>?_,?_⟩
      ·obtain⟨j,hj⟩:=List.mem_iff_getElem?.1 hτ;rw[List.getElem?_drop] at hj;refine JR (bN τ (b6 _ τ hj ?_));simp only[Dd,List.all_eq_true,Bool.or_eq_true,Nat.blt_eq] at jr ⊢;exact fun a ha=>(jr a ha).imp (fun h=>by omega) id
      refine Qn aw r b_ hB h5 (A:=A) (Rd:=Rd) (hl:=hl) (chg:=chg) (pd:=pd) (by rw[aJ];exact hD) (fun c hc=>?_) b6 eE aN h4 hK;split at hc
      ·rcases List.mem_cons.1 hc with rfl|hc
       ·exact .inl fun τ hτ=>JR (bN τ hτ)
       ·exact hp c hc
      ·exact hp c hc
     ·obtain⟨s',tb',h4,aJ,h5⟩:=h2 e;rw[if_neg au];exact Qn aw r b_ hB h5 (by rw[aJ];exact hD) hp b6 eE aN h4 hK
    split at h
    ·rename_i hg;cases hr:(Q8u o.op (gev [] s.env)&&Dd A o.kmin) with
     |true =>rw[hr] at h;rw[Bool.and_eq_true] at hr;exact ro hr.2 (fun u hu _=>MS hG Gds.nil hr.1 hu) h
     |false =>
     rw[hr] at h;simp only[_root_.cond_false] at h;cases hb:(Nat.ble chg o.kmin||PZ A o.kmin (Mj o.op (gev [] s.env) s.own)) with
     |false=>rw[hb] at h;exact h.elim
     |true =>rw[hb] at h;exact rd _ (fun q hq=>hq) hb h
    ·rename_i j want hg;cases hr:(OJ s j want o.op&&Dd A o.kmin) with
     |true =>
      rw[hr] at h;rw[Bool.and_eq_true] at hr;obtain⟨hr,jr⟩:=hr;refine ro jr (fun u hu hw=>?_) h;unfold OJ at hr;split at hr
      ·rename_i gs s1 dU;obtain⟨tb',bj,cJ,b,cW,bg,bY⟩:=We hG dU;rw[hg,cW] at hw;have e:=osj hw;exact MS bj (fun g hg=>⟨bg e g hg,cJ g hg⟩) hr hu
      ·cases hr
     |false =>
     rw[hr] at h;simp only[_root_.cond_false] at h;cases hb:Nat.ble chg o.kmin with
     |false=>rw[hb] at h;exact h.elim
     |true =>rw[hb] at h;exact rd none (fun q hq=>by cases hq) (by rw[hb];rfl) h
   ·rw[if_neg bc] at h;obtain⟨b,hw,h1,h2⟩:=Ui hG h;rw[hw];refine⟨fun e=>?_,fun e=>?_⟩
    ·obtain⟨u,s',tb',h3,h4,aJ,h5⟩:=h1 e;rw[if_neg au,if_neg bc,h3];exact Qn aw r b_ hB h5 (by rw[aJ];exact hD) hp b6 eE aN h4 hK
    ·obtain⟨s',tb',h4,aJ,h5⟩:=h2 e;rw[if_neg au];exact Qn aw r b_ hB h5 (by rw[aJ];exact hD) hp b6 eE aN h4 hK
def Vo (pl:Nat→Value) (mp:List (Nat×Option Nat)):Nat→Value:=fun t=>match Qq mp t with
 |some (some a)=>pl a
 |_=>.slice none 0 0
theorem CZ {h:Heap}{k k':Kind}{x:k.T}{y:k'.T}(e:Gk x y) {cs:List Value}(hk:KC h k' y cs):KC h k x cs:=by
 unfold Gk at e;split at e
 ·rename_i z hz;obtain rfl:=Rq hz;obtain rfl:=RZ hz;subst e;exact hk
 ·exact e.elim
mutual
theorem W9 {B:Heap}{pl:Nat→Value}{tb:Nat→Option Bool}{mp:List (Nat×Option Nat)}:∀ (p a:SV) (v:Value),BF mp p a→SR P B pl tb a v→SR P B (Vo pl mp) ZA p v
 |.any,a,v,_,_=>trivial
 |.val k x,a,v,h,hs=>by
  simp only[BF] at h;split at h
  ·simp only[SR] at hs ⊢;exact CZ h hs
  ·simp only[SR] at hs ⊢;exact CZ h (by simp[KC,hs.1])
  ·split at h
   ·subst h;simp only[SR] at hs ⊢;subst hs;exact⟨_,rfl,.inl ⟨rfl,rfl⟩⟩
   ·exact h.elim
  ·exact h.elim
 |.lst t,a,v,h,hs=>by
  simp only[BF] at h;split at h
  ·split at h
   ·rename_i e;simp only[SR,Vo,e] at hs ⊢;exact hs
   ·exact h.elim
  ·split at h
   ·rename_i e;simp only[SR,Vo,e] at hs ⊢;exact⟨hs,_,_,_,hs⟩
   ·exact h.elim
  ·exact h.elim
 |.box t off,a,v,h,hs=>by
  simp only[BF] at h;split at h
  ·split at h
   ·rename_i e;obtain⟨e,rfl⟩:=e;simp only[SR,Vo,e] at hs ⊢;exact hs
   ·exact h.elim
  ·exact h.elim
 |.map t,a,v,h,hs=>by
  simp only[BF] at h;split at h
  ·split at h
   ·rename_i e;simp only[SR,Vo,e] at hs ⊢;exact hs
   ·exact h.elim
  ·exact h.elim
 |.dd t w,a,v,h,hs=>by
  simp only[BF] at h;split at h
  ·split at h
   ·simp only[SR] at hs ⊢;simp only[DR];exact .inl ⟨h,hs⟩
   ·split at h
    ·rename_i e;obtain⟨e,rfl⟩:=e;simp only[SR,DR,Vo,e] at hs ⊢;obtain⟨b,h1,h2⟩:=hs;exact .inr ⟨h,b,by rw[h1];rfl,h2⟩
    ·exact h.elim
   ·split at h
    ·split at h
     ·rename_i e;subst h;simp only[SR,DR,Vo,e] at hs ⊢;exact hs
     ·exact h.elim
    ·exact h.elim
   ·exact h.elim
  ·split at h
   ·split at h
    ·split at h
     ·rename_i e;simp only[SR,Vo,e] at hs ⊢;exact hs
     ·exact h.elim
    ·exact h.elim
   ·exact h.elim
  ·split at h
   ·split at h
    ·split at h
     ·rename_i e;simp only[SR,Vo,e] at hs ⊢;exact hs
     ·exact h.elim
    ·exact h.elim
   ·split at h
    ·rename_i e;simp only[SR,Vo,e] at hs ⊢;exact⟨hs,_,_,_,hs⟩
    ·exact h.elim
   ·exact h.elim
  ·exact h.elim
 |.agg l,a,v,h,hs=>by
  simp only[BF] at h;split at h
  ·rename_i l';simp only[SR] at hs ⊢;obtain⟨cs,h1,h2⟩:=hs;exact⟨cs,h1,Q_ l l' cs h h2⟩
  ·exact h.elim
 |.tup l,a,v,h,hs=>by
  simp only[BF] at h;split at h
  ·rename_i l';simp only[SR] at hs ⊢;obtain⟨cs,h1,h2⟩:=hs;exact⟨cs,h1,Q_ l l' cs h h2⟩
  ·exact h.elim
 |.fn f x y,a,v,h,hs=>by
  simp only[BF] at h;split at h
  ·split at h
   ·rename_i e;subst e;simp only[SR] at hs ⊢;obtain⟨cs,ds,h1,h2,h3⟩:=hs;exact⟨cs,ds,h1,Q_ x _ cs h.1 h2,Q_ y _ ds h.2 h3⟩
   ·exact h.elim
  ·exact h.elim
 |.nilS,a,v,h,hs=>by
  simp only[BF] at h;split at h
  ·simp only[SR] at hs ⊢;exact hs
  ·exact h.elim
 |.nilP,a,v,h,hs=>by
  simp only[BF] at h;split at h
  ·simp only[SR] at hs ⊢;exact hs
  ·exact h.elim
 |.nilM,a,v,h,hs=>by
  simp only[BF] at h;split at h
  ·simp only[SR] at hs ⊢;exact hs
  ·exact h.elim
 |.nilF,a,v,h,hs=>by
  simp only[BF] at h;split at h
  ·simp only[SR] at hs ⊢;exact hs
  ·exact h.elim
 |.cp l off,a,v,h,hs=>by
  simp only[BF] at h;cases pU:SVs.pure l with
  |true =>rw[pU] at h;simp only[_root_.cond_true] at h;obtain⟨rfl,_⟩:=h;simp only[SR] at hs ⊢;obtain⟨b,c,e,wr,t,h1,h2,h3⟩:=hs;exact⟨b,c,e,wr,t,h1,h2,QA l c pU h3⟩
  |false =>
   rw[pU] at h;simp only[_root_.cond_false] at h;split at h
   ·split at h
    ·rename_i l' dp he;subst he;simp only[SR] at hs ⊢;obtain⟨b,c,e,wr,t,h1,h2,h3⟩:=hs;exact⟨b,c,e,wr,t,h1,h2,Q_ l l' c h h3⟩
    ·exact h.elim
   ·exact h.elim
 |.pf ks r cI p,a,v,h,hs=>by simp only[BF] at h;subst h;simp only[SR] at hs ⊢;exact hs
 |.sub t lo n sz,a,v,h,hs=>by
  simp only[BF] at h;split at h
  ·split at h
   ·rename_i e;obtain⟨rfl,rfl,rfl⟩:=h;simp only[SR,Vo,e] at hs ⊢;exact hs
   ·exact h.elim
  ·exact h.elim
 |.elp _ _ _ _,_,_,h,_|.grd _ _,_,_,h,_|.bid _ _,_,_,h,_|.rop _ _ _ _,_,_,h,_=>by simp only[BF] at h
theorem Q_ {B:Heap}{pl:Nat→Value}{tb:Nat→Option Bool}{mp:List (Nat×Option Nat)}:∀ (p a:List SV) (v:List Value),N6 mp p a→SRs P B pl tb a v→SRs P B (Vo pl mp) ZA p v
 |[],a,v,h,hs=>by simp only[N6] at h;subst h;exact hs
 |s::ss,[],v,h,hs=>by simp only[N6] at h
 |s::ss,a::bK,v,h,hs=>by simp only[N6] at h;simp only[SRs] at hs ⊢;obtain⟨x,y,h1,h2,h3⟩:=hs;exact⟨x,y,h1,W9 s a x h.1 h2,Q_ ss bK y h.2 h3⟩
theorem RX {B:Heap}{pl pl':Nat→Value}{tb tb':Nat→Option Bool}:∀ (s:SV) (v:Value),s.pure=true→SR P B pl tb s v→SR P B pl' tb' s v
 |.any,v,_,_=>trivial
 |.val k x,v,_,h=>by simp only[SR] at h ⊢;exact h
 |.nilS,v,_,h|.nilP,v,_,h|.nilM,v,_,h|.nilF,v,_,h=>by simp only[SR] at h ⊢;exact h
 |.rop k l i off,v,_,h=>by simp only[SR] at h ⊢;exact h
 |.pf ks r cI p,v,_,h=>by simp only[SR] at h ⊢;exact h
 |.agg l,v,hp,h=>by simp only[SR] at h ⊢;obtain⟨cs,h1,h2⟩:=h;exact⟨cs,h1,QA l cs hp h2⟩
 |.tup l,v,hp,h=>by simp only[SR] at h ⊢;obtain⟨cs,h1,h2⟩:=h;exact⟨cs,h1,QA l cs hp h2⟩
 |.cp l off,v,hp,h=>by simp only[SR] at h ⊢;obtain⟨b,c,e,wr,t,h1,h2,h3⟩:=h;exact⟨b,c,e,wr,t,h1,h2,QA l c hp h3⟩
 |.fn f a b,v,hp,h=>by simp only[SV.pure,Bool.and_eq_true] at hp;simp only[SR] at h ⊢;obtain⟨x,y,h1,h2,h3⟩:=h;exact⟨x,y,h1,QA a x hp.1 h2,QA b y hp.2 h3⟩
 |.lst _,_,h,_|.sub _ _ _ _,_,h,_|.elp _ _ _ _,_,h,_|.box _ _,_,h,_|.map _,_,h,_|.grd _ _,_,h,_|.bid _ _,_,h,_=>by cases h
theorem QA {B:Heap}{pl pl':Nat→Value}{tb tb':Nat→Option Bool}:∀ (s:List SV) (v:List Value),SVs.pure s=true→SRs P B pl tb s v→SRs P B pl' tb' s v
 |[],v,_,h=>by simp only[SRs] at h ⊢;exact h
 |s::ss,v,hp,h=>by simp only[SVs.pure,Bool.and_eq_true] at hp;simp only[SRs] at h ⊢;obtain⟨x,y,h1,h2,h3⟩:=h;exact⟨x,y,h1,RX s x hp.1 h2,QA ss y hp.2 h3⟩
end
end
end Go.V
namespace Go.V
open Go
section
variable {P:Program}{B F:Heap}{pl:Nat→Value}{tb:Nat→Option Bool}{s:St}{env:Env}{σ:Heap}
theorem UO {k k':Kind}{xs:List k.T}{ys:List k'.T}(h:Gk (k:=.list k) xs (k':=.list k') ys):∃ e:k'=k,e▸ys=xs:=by
 unfold Gk at h;split at h
 ·rename_i z hz;have e:=Rq hz;obtain rfl:=Kind.list.inj e;obtain rfl:=RZ hz;exact⟨rfl,h⟩
 ·exact h.elim
theorem Qu (hG:Gam P B F pl tb s env σ) {mp:List (Nat×Option Nat)}{t:Nat}{b:OB}(h:I6 s mp t b) :
  OR P B (Vo pl mp) ZA σ (Vo pl mp t) b∧(b.live=true→∀ i,Oid (Vo pl mp t) i→∃ a,Qq mp t=some (some a)∧(Q7 s.own a).live=true∧Oid (pl a) i):=by
 unfold I6 at h;split at h
 ·rename_i a ha;have aO:Vo pl mp t=pl a:=by simp[Vo,ha]
  rw[aO];have aj:=hG.obj a;split at h
  ·exact⟨trivial,fun h=>by cases h⟩
  ·rename_i ty k xs nl fZ k' cj gL ho;split at h
   ·rename_i e;subst e;obtain⟨h1,rfl⟩:=h;obtain⟨rfl,rfl⟩:=UO h1;rw[ho] at aj;exact⟨aj,fun _ i hi=>⟨a,ha,by rw[ho];rfl,hi⟩⟩
   ·exact h.elim
  ·rename_i l u l' u' ho;split at h
   ·rename_i e0;subst e0;rw[ho] at aj;obtain⟨i,c,e,t',h1,h2,h3,h4⟩:=aj;exact⟨⟨i,c,e,t',h1,h2,Q_ l l' c h h3,h4⟩,fun _ i hi=>⟨a,ha,by rw[ho];rfl,hi⟩⟩
   ·exact h.elim
  ·rename_i kk vk m il ll m' ho;split at h
   ·obtain⟨e,h1⟩:=UO h;obtain⟨rfl,rfl⟩:=Kind.pair.inj e;subst h1;rw[ho] at aj;exact⟨aj,fun _ i hi=>⟨a,ha,by rw[ho];rfl,hi⟩⟩
   ·exact h.elim
  ·rename_i l vals l' jZ ho;rw[ho] at aj;obtain⟨rfl,h⟩:=h;exact⟨Q_ l l' vals h aj,fun h=>by cases h⟩
  ·rename_i l q u l' q' u' ho;rw[ho] at aj;split at h
   ·obtain⟨rfl,h⟩:=h;exact⟨⟨aj.1,Q_ l l' q.vals h aj.2.1,aj.2.2⟩,fun _ i hi=>⟨a,ha,by rw[ho];rfl,hi⟩⟩
   ·obtain⟨rfl,h⟩:=h;exact⟨⟨aj.1,Q_ l l' q.vals h aj.2.1,aj.2.2⟩,fun h=>by cases h⟩
   ·exact h.elim
  ·rename_i kk vk m dn il ll m' qZ ho;split at h
   ·obtain⟨h,rfl⟩:=h;obtain⟨e,h1⟩:=UO h;obtain⟨rfl,rfl⟩:=Kind.pair.inj e;subst h1;rw[ho] at aj;exact⟨aj,fun _ i hi=>⟨a,ha,by rw[ho];rfl,hi⟩⟩
   ·exact h.elim
  ·rename_i ty q k xs nl h0 fZ q' k' cj gL qN ho;split at h
   ·rename_i e;obtain⟨rfl,rfl⟩:=e;split at h
    ·obtain⟨h1,rfl⟩:=h;obtain⟨rfl,rfl⟩:=UO h1;rw[ho] at aj;exact⟨aj,fun _ i hi=>⟨a,ha,by rw[ho];rfl,hi⟩⟩
    ·exact h.elim
   ·exact h.elim
  ·exact h.elim
 ·rename_i ha;have aO:Vo pl mp t=.slice none 0 0:=by simp[Vo,ha]
  rw[aO];split at h
  ·exact⟨.inl ⟨h.2,h.1,rfl⟩,fun _ i hi=>by cases hi⟩
  ·split at h
   ·obtain⟨rfl,rfl⟩:=h;refine⟨⟨[],fun i=>⟨fun h=>(by cases h),fun ⟨b,h⟩=>(by cases h)⟩,List.nodup_nil,.inl ⟨rfl,rfl,rfl⟩,fun i=>⟨fun ⟨b,h⟩=>(by cases h),fun h=>(by cases h)⟩,(fun i b h=>by cases h),by simp[phd]⟩,fun _ i hi=>by cases hi⟩
   ·exact h.elim
  ·exact h.elim
 ·exact h.elim
theorem VG {α:Type _}(l:List (Nat×α)) (t:Nat) (x:α) (d:Nat):Qq (l++[(t,x)]) d=match Qq l d with|some y=>some y|none=>if t=d then some x else none:=by
 induction l with
 |nil =>
  simp only[List.nil_append,Qq];by_cases h:t=d
  ·subst h;simp
  ·rw[QY h];simp[h]
 |cons p l ih =>obtain⟨k,y⟩:=p;simp only[List.cons_append,Qq,ih];cases Nat.beq k d<;>rfl
theorem Cn {α:Type _}{l:List (Nat×α)}{d:Nat}{x:α}(h:Qq l d=some x):∃ p∈l,p.1=d∧p.2=x:=by
 induction l with
 |nil=>cases h
 |cons p l ih =>
  obtain⟨k,y⟩:=p;simp only[Qq] at h;cases hb:Nat.beq k d with
  |true=>rw[hb] at h;obtain rfl:=osj h;exact⟨_,List.mem_cons_self,Nat.eq_of_beq_eq_true hb,rfl⟩
  |false =>rw[hb] at h;obtain⟨p,h1,h2⟩:=ih h;exact⟨p,List.mem_cons_of_mem _ h1,h2⟩
def Inj (mp:List (Nat×Option Nat)):Prop:=∀ t t' a,Qq mp t=some (some a)→Qq mp t'=some (some a)→t=t'
theorem P1:∀ (l:List (Nat×Src)) (mp bX:List (Nat×Option Nat)),Z1z s l mp=some bX→Inj mp→Inj bX
 |[],mp,bX,h,hi=>by obtain rfl:=osj h;exact hi
 |(t,src)::r,mp,bX,h,hi=>by
  simp only[Z1z] at h;split at h
  ·rename_i a _;split at h
   ·cases h
   ·rename_i hc;refine P1 r _ _ h ?_;have cu:∀ d,Qq mp d≠some (some a):=fun d hd=>by
     obtain⟨p,h1,h2,h3⟩:=Cn hd;apply hc;simp only[Bool.or_eq_true];exact .inl (List.any_eq_true.2 ⟨p,h1,by rw[h3];simp⟩)
    intro t1 t2 a' h1 h2;rw[VG] at h1 h2;split at h1
    ·rename_i y1 e1;split at h2
     ·rename_i y2 e2;obtain rfl:=osj h1;obtain rfl:=osj h2;exact hi t1 t2 a' e1 e2
     ·split at h2
      ·obtain rfl:=osj (osj h2);obtain rfl:=osj h1;exact absurd e1 (cu t1)
      ·cases h2
    ·split at h1
     ·rename_i e1;obtain rfl:=osj (osj h1);split at h2
      ·rename_i y2 e2;obtain rfl:=osj h2;exact absurd e2 (cu t2)
      ·split at h2
       ·rename_i e2;omega
       ·cases h2
     ·cases h1
  ·split at h
   ·cases h
   ·refine P1 r _ _ h ?_;intro t1 t2 a' h1 h2;rw[VG] at h1 h2;split at h1
    ·rename_i y1 e1;split at h2
     ·rename_i y2 e2;obtain rfl:=osj h1;obtain rfl:=osj h2;exact hi t1 t2 a' e1 e2
     ·split at h2<;>cases h2
    ·split at h1<;>cases h1
  ·cases h
theorem Lf {mp:List (Nat×Option Nat)}:∀ {ow:List (Nat×Src×OB)},gmatch.obs s mp ow→∀ p∈ow,I6 s mp p.1 p.2.2
 |[],_,p,hp=>by cases hp
 |(t,src,b)::r,h,p,hp=>by
  simp only[gmatch.obs] at h;rcases List.mem_cons.1 hp with rfl|hp
  ·exact h.1
  ·exact Lf h.2 p hp
theorem Uo {f:List (Nat×Src×OB)}:∀ (own:Own) (t:Nat),(∃ p∈f,p.1=t∧Q7 (f.foldl (fun o p=>oset o p.1 p.2.2) own) t=p.2.2)∨Q7 (f.foldl (fun o p=>oset o p.1 p.2.2) own) t=Q7 own t:=by
 induction f with
 |nil=>intro own t;exact .inr rfl
 |cons p f ih =>
  intro own t;simp only[List.foldl_cons];rcases ih (oset own p.1 p.2.2) t with⟨q,h1,h2⟩|h
  ·exact .inl ⟨q,List.mem_cons_of_mem _ h1,h2⟩
  ·rw[h,Qf];by_cases e:t=p.1
   ·rw[if_pos e];exact .inl ⟨p,List.mem_cons_self,e.symm,rfl⟩
   ·rw[if_neg e];exact .inr rfl
theorem Tl (hG:Gam P B F pl tb s env σ) {mp:List (Nat×Option Nat)}:∀ (st:List (Nat×SV)) {e:List SV}{eV:Env},gmatch.slots s mp st→SRs P B (Vo pl mp) ZA e eV→SRs P B (Vo pl mp) ZA (st.foldl (fun e p=>e.set p.1 p.2) e) (W1 (st.map (·.1)) (HO (st.map (·.1)) env) eV)
 |[],e,eV,_,h=>h
 |(j,v)::r,e,eV,hs,h=>by simp only[gmatch.slots] at hs;simp only[List.foldl_cons,List.map_cons,HO,W1];exact Tl hG r hs.2 (h.set j (W9 v _ _ hs.1 (hG.env.getD j poison)))
theorem Oh {B:Heap}{pl:Nat→Value}{tb:Nat→Option Bool}:∀ n,SRs P B pl tb (List.replicate n .any) (List.replicate n poison)
 |0=>by simp[SRs]
 |n+1=>by simp only[List.replicate_succ,SRs];exact⟨_,_,rfl,by simp[SR],Oh n⟩
theorem Hb {B0 F0 D0:Heap}(hR:GRel P B0 F0 D0 s env σ) {st:List (Nat×SV)}{ow:List (Nat×Src×OB)}(h:gmatch s st ow) (len:Nat):GRel P B0 F0 D0 (Z9 len st ow) (W1 (st.map (·.1)) (HO (st.map (·.1)) env) (List.replicate len poison)) σ:=by
 obtain⟨B,F,pl,tb,hB,hG⟩:=hR;unfold gmatch at h;split at h
 ·rename_i mp iz;obtain⟨h1,h2⟩:=h;have dJ:=P1 _ _ _ iz (fun t t' a h=>by cases h);have aE:=Lf h2;have aj:∀ t,(Q7 (Z9 len st ow).own t).live=true→I6 s mp t (Q7 (Z9 len st ow).own t):=fun t hl=>by
   rcases Uo (f:=ow) [] t with⟨p,h3,h4,h5⟩|h3
   ·have:=aE p h3;rw[h4,←h5] at this;exact this
   ·simp only[Z9] at hl;rw[h3] at hl;cases hl
  refine⟨B,F,Vo pl mp,ZA,hB,hG.bf,hG.le,Tl hG st h1 (Oh len),fun t=>?_,fun t i hl hi=>?_,fun t t' i aA hl bJ hi bV=>?_,fun _ _=>rfl⟩
  ·cases hl:(Q7 (Z9 len st ow).own t).live with
   |true=>exact(Qu hG (aj t hl)).1
   |false =>
    cases ho:Q7 (Z9 len st ow).own t with
    |dead=>trivial
    |stk l vals =>
     rcases Uo (f:=ow) [] t with⟨p,h3,h4,h5⟩|h3
     ·have:=aE p h3;simp only[Z9] at ho;rw[←h5,ho] at this;have h6:=(Qu hG this).1;rw[h4] at h6;exact h6
     ·simp only[Z9] at ho;rw[h3] at ho;cases ho
    |lpf l q u =>
     rcases Uo (f:=ow) [] t with⟨p,h3,h4,h5⟩|h3
     ·have:=aE p h3;simp only[Z9] at ho;rw[←h5,ho] at this;have h6:=(Qu hG this).1;rw[h4] at h6;exact h6
     ·simp only[Z9] at ho;rw[h3] at ho;cases ho
    |_=>rw[ho] at hl;cases hl
  ·obtain⟨a,_,h4,h5⟩:=(Qu hG (aj t hl)).2 hl i hi;exact hG.fresh a i h4 h5
  ·obtain⟨a,e1,h4,h5⟩:=(Qu hG (aj t hl)).2 hl i hi;obtain⟨a',e2,gA,pV⟩:=(Qu hG (aj t' bJ)).2 bJ i bV;by_cases e:a=a'
   ·subst e;exact aA (dJ t t' a e1 e2)
   ·exact hG.sep a a' i e h4 gA h5 pV
 ·exact h.elim
theorem BK:∀ {dm cz:List SV}{vs:List Value}{B F:Heap}{s s':St},Gam P B F pl tb s env σ→SRs P B pl tb dm vs→Q8l s dm=some (s',cz) →
  ∃ B' F',GBase B F σ B' F' σ∧Gam P B' F' pl tb s' env σ∧SRs P B' JK ZA cz vs∧s'.env=s.env
 |[],cz,vs,B,F,s,s',hG,hs,h=>by simp only[Q8l,Option.some.injEq,Prod.mk.injEq] at h;obtain⟨rfl,rfl⟩:=h;exact⟨B,F,.of hG.bf (.refl _),hG,hs,rfl⟩
 |v::dm,cz,vs,B,F,s,s',hG,hs,h=>by
  simp only[SRs] at hs;obtain⟨u,us,rfl,h1,h2⟩:=hs
  have nN:∀ w:SV,SR P B pl tb w u→(bif w.pure then (match Q8l s dm with|some (s',r)=>some (s',w::r)|none=>none) else none)=some (s',cz) →
    ∃ B' F',GBase B F σ B' F' σ∧Gam P B' F' pl tb s' env σ∧SRs P B' JK ZA cz (u::us)∧s'.env=s.env:=fun w hw h=>by
   cases hp:w.pure with
   |false=>rw[hp] at h;cases h
   |true =>
    rw[hp] at h;simp only[_root_.cond_true] at h;split at h
    ·rename_i s1 r heq;simp only[Option.some.injEq,Prod.mk.injEq] at h;obtain⟨rfl,rfl⟩:=h;obtain⟨B',F',k1,k2,k3,k4⟩:=BK hG h2 heq;exact⟨B',F',k1,k2,by simp only[SRs];exact⟨u,us,rfl,SR.mono k1.b (fun _ _ h=>h) _ _ (RX w u hp hw),k3⟩,k4⟩
    ·cases h
  simp only[Q8l] at h;split at h
  ·rename_i o;split at h
   ·rename_i l _ ho;cases hp:SVs.pure l with
    |false=>rw[hp] at h;cases h
    |true =>
     rw[hp] at h;simp only[_root_.cond_true] at h;split at h
     ·rename_i s1 r heq;simp only[Option.some.injEq,Prod.mk.injEq] at h;obtain⟨rfl,rfl⟩:=h;have aj:=hG.obj o;rw[ho] at aj;obtain⟨i,c,e,t,e1,e2,e3,_⟩:=aj;obtain⟨k1,k2⟩:=hG.freeze (o:=o) (i:=i) (by rw[ho];rfl) (by rw[e1];rfl);obtain⟨B',F',j1,j2,j3,j4⟩:=BK k2 (SRs.mono k1.b (fun _ _ h=>h) _ _ h2) heq;refine⟨B',F',k1.trans j1,j2,?_,j4⟩;simp only[SRs];refine⟨u,us,rfl,?_,j3⟩;simp only[SR] at h1 ⊢;obtain⟨b,q1,q2⟩:=h1;rw[e1] at q1;obtain rfl:i=b:=by simpa using q1
      refine⟨i,c,e,true,t,j1.b.2 _ _ ?_,q2,SRs.mono (k1.trans j1).b (fun _ _ h=>h) _ _ (QA l c hp e3)⟩;rw[Heap.ins_self];exact e2
     ·cases h
   ·cases h
  ·exact nN _ h1 h
theorem Gam.lpUpd (hG:Gam P B F pl tb s env σ) {n:Nat}{b b0:Blk}(hF:F.get n=some b0) (hB:B.get n=none):Gam P B (F.upd n b) pl tb s env (σ.upd n b):=by
 have aA:∀ {d i},(Q7 s.own d).live=true→Oid (pl d) i→i≠n:=fun h1 h2 e=>by have:=hG.fresh _ _ h1 h2;subst e;rw[hF] at this;cases this
 refine⟨⟨hG.bf.1,fun i c hc=>?_⟩,⟨hG.le.1,fun i c hc=>?_⟩,hG.env,fun d=>(hG.obj d).mono (.refl _) (fun _ _ h=>h) fun h1 i h2=>Heap.get_upd_ne _ _ (aA h1 h2),fun d i h1 h2=>?_,hG.sep,hG.free⟩
 ·have:i≠n:=by rintro rfl;rw[hB] at hc;cases hc
  rw[Heap.get_upd_ne _ _ this];exact hG.bf.2 _ _ hc
 ·by_cases e:i=n
  ·subst e;rw[Heap.get_upd_self _ _ (F.lt hF)] at hc;rw[Heap.get_upd_self _ _ (Nat.lt_of_lt_of_le (F.lt hF) hG.le.1)];exact hc
  ·rw[Heap.get_upd_ne _ _ e] at hc ⊢;exact hG.le.2 _ _ hc
 ·rw[Heap.get_upd_ne _ _ (aA h1 h2)];exact hG.fresh _ _ h1 h2
theorem Gam.lpKill (hG:Gam P B F pl tb s env σ) {n:Nat}{b0:Blk}(hF:F.get n=some b0) (hB:B.get n=none):Gam P B (F.kill n) pl tb s env (σ.kill n):=by
 have aA:∀ {d i},(Q7 s.own d).live=true→Oid (pl d) i→i≠n:=fun h1 h2 e=>by have:=hG.fresh _ _ h1 h2;subst e;rw[hF] at this;cases this
 refine⟨⟨hG.bf.1,fun i c hc=>?_⟩,⟨hG.le.1,fun i c hc=>?_⟩,hG.env,fun d=>(hG.obj d).mono (.refl _) (fun _ _ h=>h) fun h1 i h2=>Heap.get_kill_ne _ (aA h1 h2),fun d i h1 h2=>?_,hG.sep,hG.free⟩
 ·have:i≠n:=by rintro rfl;rw[hB] at hc;cases hc
  rw[Heap.get_kill_ne _ this];exact hG.bf.2 _ _ hc
 ·by_cases e:i=n
  ·subst e;rw[Heap.get_kill_self] at hc;cases hc
  ·rw[Heap.get_kill_ne _ e] at hc ⊢;exact hG.le.2 _ _ hc
 ·rw[Heap.get_kill_ne _ (aA h1 h2)];exact hG.fresh _ _ h1 h2
theorem GRel.lpUpd {B1 F1 D0:Heap}(h:GRel P B1 F1 D0 s env σ) {n:Nat}{b b0:Blk}(hF:F1.get n=some b0) (hB:B1.get n=none):GRel P B1 (F1.upd n b) D0 s env (σ.upd n b):=by
 obtain⟨B,F,pl,tb,du,hG⟩:=h;have nO:=du.f.2 _ _ hF;have nP:=du.x _ _ hF hB;refine⟨B,F.upd n b,pl,tb,⟨du.b,⟨du.f.1,fun i c hc=>?_⟩,fun i c h1 h2=>?_,⟨du.d.1,fun i h1 h2=>?_⟩⟩,hG.lpUpd nO nP⟩
 ·by_cases e:i=n
  ·subst e;rw[Heap.get_upd_self _ _ (F1.lt hF)] at hc;rw[Heap.get_upd_self _ _ (F.lt nO)];exact hc
  ·rw[Heap.get_upd_ne _ _ e] at hc ⊢;exact du.f.2 _ _ hc
 ·by_cases e:i=n
  ·subst e;exact nP
  ·rw[Heap.get_upd_ne _ _ e] at h1;exact du.x _ _ h1 h2
 ·have hd:=du.d.2 i h1 h2;have:i≠n:=by rintro rfl;rw[hG.le.2 _ _ nO] at hd;cases hd
  rw[Heap.get_upd_ne _ _ this];exact hd
theorem GRel.lpKill {B1 F1 D0:Heap}(h:GRel P B1 F1 D0 s env σ) {n:Nat}{b0:Blk}(hF:F1.get n=some b0) (hB:B1.get n=none):GRel P B1 (F1.kill n) D0 s env (σ.kill n):=by
 obtain⟨B,F,pl,tb,du,hG⟩:=h;have nO:=du.f.2 _ _ hF;have nP:=du.x _ _ hF hB;refine⟨B,F.kill n,pl,tb,⟨du.b,⟨du.f.1,fun i c hc=>?_⟩,fun i c h1 h2=>?_,⟨du.d.1,fun i h1 h2=>?_⟩⟩,hG.lpKill nO nP⟩
 ·by_cases e:i=n
  ·subst e;rw[Heap.get_kill_self] at hc;cases hc
  ·rw[Heap.get_kill_ne _ e] at hc ⊢;exact du.f.2 _ _ hc
 ·by_cases e:i=n
  ·subst e;exact nP
  ·rw[Heap.get_kill_ne _ e] at h1;exact du.x _ _ h1 h2
 ·have hd:=du.d.2 i h1 h2;by_cases e:i=n
  ·subst e;exact Heap.get_kill_self _ _
  ·rw[Heap.get_kill_ne _ e];exact hd
theorem GRel.base {B0 F0 B1 F1 D0:Heap}(h:GRel P B1 F1 D0 s env σ) (hb:B0.Le B1) (hf:F0.Le F1) (hx:∀ i b,F0.get i=some b→B0.get i=none→B1.get i=none):GRel P B0 F0 D0 s env σ:=by obtain⟨B,F,pl,tb,du,hG⟩:=h;exact⟨B,F,pl,tb,⟨hb.trans du.b,hf.trans du.f,fun i b h1 h2=>du.x i b (hf.2 _ _ h1) (hx i b h1 h2),du.d⟩,hG⟩
theorem H6 (hG:Gam P B F pl tb s env σ) {mp:List (Nat×Option Nat)}:∀ (st:List (Nat×SV)) {e:List SV},gmatch.slots s mp st→SRs P B (Vo pl mp) ZA e env→SRs P B (Vo pl mp) ZA (st.foldl (fun e p=>e.set p.1 p.2) e) env
 |[],e,_,h=>h
 |(j,v)::r,e,hs,h=>by
  simp only[gmatch.slots] at hs;simp only[List.foldl_cons];refine H6 hG r hs.2 ?_;have:=h.set j (W9 v _ _ hs.1 (hG.env.getD j poison));by_cases hj:j<env.length
  ·rwa [List.getD_eq_getElem?_getD,List.getElem?_eq_getElem hj,Option.getD_some,List.set_getElem_self] at this
  ·rw[List.set_eq_of_length_le (by rw[h.length];omega)];exact h
theorem E6 {B:Heap}{pl:Nat→Value}{tb:Nat→Option Bool}:∀ (env:Env),SRs P B pl tb (List.replicate (List.length env) .any) env
 |[]=>by simp[SRs]
 |v::env=>by simp only[List.length_cons,List.replicate_succ,SRs];exact⟨_,_,rfl,by simp[SR],E6 env⟩
theorem N3 {B0 F0 D0:Heap}(hR:GRel P B0 F0 D0 s env σ) {st:List (Nat×SV)}{ow:List (Nat×Src×OB)}(h:gmatch s st ow):GRel P B0 F0 D0 (Z9 (List.length env) st ow) env σ:=by
 obtain⟨B,F,pl,tb,hB,hG⟩:=hR;unfold gmatch at h;split at h
 ·rename_i mp iz;obtain⟨h1,h2⟩:=h;have dJ:=P1 _ _ _ iz (fun t t' a h=>by cases h);have aE:=Lf h2;have aj:∀ t,(Q7 (Z9 (List.length env) st ow).own t).live=true→I6 s mp t (Q7 (Z9 (List.length env) st ow).own t):=fun t hl=>by
   rcases Uo (f:=ow) [] t with⟨p,h3,h4,h5⟩|h3
   ·have:=aE p h3;rw[h4,←h5] at this;exact this
   ·simp only[Z9] at hl;rw[h3] at hl;cases hl
  refine⟨B,F,Vo pl mp,ZA,hB,hG.bf,hG.le,H6 hG st h1 (E6 env),fun t=>?_,fun t i hl hi=>?_,fun t t' i aA hl bJ hi bV=>?_,fun _ _=>rfl⟩
  ·cases hl:(Q7 (Z9 (List.length env) st ow).own t).live with
   |true=>exact(Qu hG (aj t hl)).1
   |false =>
    cases ho:Q7 (Z9 (List.length env) st ow).own t with
    |dead=>trivial
    |stk l vals =>
     rcases Uo (f:=ow) [] t with⟨p,h3,h4,h5⟩|h3
     ·have:=aE p h3;simp only[Z9] at ho;rw[←h5,ho] at this;have h6:=(Qu hG this).1;rw[h4] at h6;exact h6
     ·simp only[Z9] at ho;rw[h3] at ho;cases ho
    |lpf l q u =>
     rcases Uo (f:=ow) [] t with⟨p,h3,h4,h5⟩|h3
     ·have:=aE p h3;simp only[Z9] at ho;rw[←h5,ho] at this;have h6:=(Qu hG this).1;rw[h4] at h6;exact h6
     ·simp only[Z9] at ho;rw[h3] at ho;cases ho
    |_=>rw[ho] at hl;cases hl
  ·obtain⟨a,_,h4,h5⟩:=(Qu hG (aj t hl)).2 hl i hi;exact hG.fresh a i h4 h5
  ·obtain⟨a,e1,h4,h5⟩:=(Qu hG (aj t hl)).2 hl i hi;obtain⟨a',e2,gA,pV⟩:=(Qu hG (aj t' bJ)).2 bJ i bV;by_cases e:a=a'
   ·subst e;exact aA (dJ t t' a e1 e2)
   ·exact hG.sep a a' i e h4 gA h5 pV
 ·exact h.elim
theorem Lj {α:Type}{o:Option α}{f:α→Prop}(h:QI o f):∃ a,f a:=by
 cases o with
 |none=>exact h.elim
 |some a=>exact⟨a,h⟩
theorem COk.nx {C:Cx}(h:COk P C):COk P C.nx:=⟨h.cs,fun f x hx=>(by cases hx),h.it,h.yl,h.iy,fun f j _ x hx=>(by cases hx)⟩
theorem Yd {S:VSpecs}{Q:Prop}:∀ {ops:List DOper}{env:Env}{hs:List Heap}{σ:Heap}{pend:List (Nat×(Heap→Prop))},Jr S ops env hs σ pend (fun _ _=>Q)→Q
 |[],_,_,_,_,h=>h
 |o::r,env,hs,σ,pend,h=>by
  simp only[Jr] at h;obtain⟨b,h⟩:=Lj h;cases b with
  |true =>
   have h:=h.1 rfl;split at h
   ·obtain⟨v,σ',_,_,h⟩:=h;exact Yd h
   ·split at h
    ·obtain⟨p,_,h⟩:=Lj h;exact Yd h
    ·obtain⟨p,h⟩:=Lj h;exact Yd h
  |false =>
   have h:=h.2 rfl;split at h
   ·exact Yd h.2
   ·exact Yd h
theorem PA {C:Cx}{s:St}{st:List (Nat×SV)}{ow:List (Nat×Src×OB)}{Q:Prop}:∀ (ls:List (List DOper)),Q8h C ls s st ow Q→(∀ l∈ls,XQ C.nx l s 1 0 [] [] fun s'=>BL s.env.length s' st ow)∧Q
 |[],h=>⟨fun l hl=>(by cases hl),h⟩
 |l::ls,h=>by obtain⟨h1,h2⟩:=h;obtain⟨h3,h4⟩:=PA ls h2;exact⟨fun l' bJ=>(List.mem_cons.1 bJ).elim (fun e=>e▸h1) (h3 l'),h4⟩
theorem UR {B0 F0 D0:Heap}{s:St}{env:Env}{σ:Heap}{n:Nat}(hR:GRel P B0 F0 D0 s env σ) {st:List (Nat×SV)}{ow:List (Nat×Src×OB)}(h:BL n s st ow):GRel P B0 F0 D0 (Z9 n st ow) env σ:=by
 unfold BL at h;cases hb:Nat.beq s.env.length n with
 |false=>rw[hb] at h;exact h.elim
 |true =>
  rw[hb] at h;have hl:env.length=n:=by rw[←Nat.eq_of_beq_eq_true hb];obtain⟨_,_,_,_,_,hG⟩:=hR;exact hG.env.length.symm
  rw[←hl];exact N3 hR h
theorem Yh {C:Cx}(aw:COk P C) {B0 F0 D0:Heap}:∀ (aL:List DSeg) {s:St}{env:Env}{σ:Heap},GRel P B0 F0 D0 s env σ→∀ {K:St→Prop},SD C aL s K→∀ {R:Env→Heap→Prop},(∀ s' ae σ',K s'→GRel P B0 F0 D0 s' ae σ'→R ae σ')→G3 (Q1 P) aL env σ R
 |[],s,env,σ,hR,K,h,R,hK=>hK s env σ h hR
 |.one o::r,s,env,σ,hR,K,h,R,hK=>by refine MP aw [o] hR (K:=fun s'=>SD C r s' K) h fun s' ae σ' h1 h2=>?_;exact Yh aw r h2 h1 hK
 |.alts [l]::r,s,env,σ,hR,K,h,R,hK=>by
  simp only[SD] at h;cases hd:Q5f l with
  |false =>
   rw[hd] at h;simp only[_root_.cond_false] at h;cases hk:l.all (fun o=>o.kind==o.op.kind) with
   |false=>rw[hk] at h;exact h.elim
   |true =>
    rw[hk] at h;simp only[_root_.cond_true] at h;intro ops ho;obtain rfl:=List.mem_singleton.1 ho;obtain⟨B,F,pl,tb,hB,hG⟩:=hR;have one:∀ (j:Nat) (τ:Heap),([σ]:List Heap)[j]?=some τ→τ=σ:=fun j τ ht=>by
     cases j with
     |zero=>simpa using ht.symm
     |succ j=>simp at ht
    exact Qn aw ops (fun o ho=>by simpa using List.all_eq_true.1 hk o ho) hB hG (hl:=1) (chg:=0) (A:=[]) (Rd:=[]) ⟨rfl,fun j τ _ ht=>one j τ ht,(fun c hc=>absurd hc (by simp)),fun j τ q i ht _ _ _=>by rw[one j τ ht]⟩ (pend:=[]) (pd:=[]) (fun c hc=>absurd hc (by simp)) (fun j τ ht _=>by rw[one j τ ht];exact hG.leB) (Nat.zero_le _) (Nat.succ_pos _) h fun s' ae σ' h1 h2=>⟨ae,σ',.refl _ _ _,Yh aw r h2 h1 hK⟩
  |true =>rw[hd] at h;refine Q22 (l:=l) hd ?_;exact MP aw _ hR h fun s' ae σ' h1 h2=>Yh aw r h2 h1 hK
 |.alts []::r,s,env,σ,hR,K,h,R,hK=>h.elim
 |.alts (l::l2::ls)::r,s,env,σ,hR,K,h,R,hK=>by
  simp only[SD] at h;cases hk:(l::l2::ls).all (fun l=>l.all fun o=>o.kind==o.op.kind) with
  |false=>rw[hk] at h;exact h.elim
  |true =>
   rw[hk] at h;simp only[_root_.cond_true] at h;obtain⟨B,F,pl,tb,hB,hG⟩:=hR;have one:∀ (j:Nat) (τ:Heap),([σ]:List Heap)[j]?=some τ→τ=σ:=fun j τ ht=>by
    cases j with
    |zero=>simpa using ht.symm
    |succ j=>simp at ht
   have run:∀ l'∈l::l2::ls,∀ {K':St→Prop},XQ C.nx l' s 1 0 [] [] K'→∀ {R':Env→Heap→Prop},(∀ s' ae σ',K' s'→GRel P B0 F0 D0 s' ae σ'→R' ae σ')→Jr (Q1 P) l' env [σ] σ [] R':=fun l' bJ K' h' R' pR =>
    Ql aw.nx rfl l' (fun o ho=>by simpa using List.all_eq_true.1 (List.all_eq_true.1 hk l' bJ) o ho) hB hG (hl:=1) (chg:=0) (A:=[]) (Rd:=[]) ⟨rfl,fun j τ _ ht=>one j τ ht,(fun c hc=>absurd hc (by simp)),fun j τ q i ht _ _ _=>by rw[one j τ ht]⟩ (pend:=[]) (pd:=[]) (fun c hc=>absurd hc (by simp)) (fun j τ ht _=>by rw[one j τ ht];exact hG.leB) (Nat.zero_le _) (Nat.succ_pos _) h' pR
   obtain⟨s0,h0,h1⟩:=Yd (run l List.mem_cons_self h (R':=fun _ _=>∃ s0:St,_) fun s' _ _ h' _=>⟨s',h'⟩);obtain⟨h2,h3⟩:=PA _ h1;intro ops ho;rcases List.mem_cons.1 ho with rfl|dw
   ·refine Yi ?_;exact run ops ho h fun s' ae σ' h' pW=>⟨ae,σ',.refl _ _ _,by
     obtain⟨k1,k2⟩:=h';exact Yh aw r (UR pW k1) (PA _ k2).2 hK⟩
   ·refine Yi ?_;exact run ops ho (h2 ops dw) fun s' ae σ' h' pW=>⟨ae,σ',.refl _ _ _,Yh aw r (UR pW h') h3 hK⟩
theorem Pa:∀ (l:List Nat) (vs:List SV),(Q8w l vs).map (·.1)=l
 |[],_=>rfl
 |j::js,[]=>by simp[Q8w,Pa js []]
 |j::js,v::vs=>by simp[Q8w,Pa js vs]
theorem My {B:Heap}{pl:Nat→Value}{tb:Nat→Option Bool}:∀ {ps:List Nat}{xs:List SV}{us:List Value}{e:List SV}{env:Env},SRs P B pl tb xs us→SRs P B pl tb e env→SRs P B pl tb (Be e ps xs) (PF env ps us)
 |[],xs,us,e,env,_,h=>by simpa [Be,PF] using h
 |p::ps,[],us,e,env,hx,h=>by simp only[SRs] at hx;subst hx;simpa [Be,PF] using h
 |p::ps,x::xs,us,e,env,hx,h=>by simp only[SRs] at hx;obtain⟨u,kY,rfl,h1,h2⟩:=hx;simp only[Be,PF];exact My h2 (h.set p h1)
def Z35 (F0:Heap):Option Nat→Prop
 |none=>True
 |some i=>∃ env r st pend,F0.get i=some (.obj (.lp env r st pend) true)
theorem Gam.dropLp {B F:Heap}{pl:Nat→Value}{tb:Nat→Option Bool}{s:St}{env:Env}{σ:Heap}(hG:Gam P B F pl tb s env σ) {o:Nat}{l:List SV}{q:LpD}{u:LpS}(ho:Q7 s.own o=.lpf l q u) (hl:u.live=true) :
  Gam P B F pl tb ⟨l,oset s.own o .dead,s.nx⟩ q.vals (σ.kill q.i)∧σ.get q.i=some (.obj (.lp q.vals q.r u.st u.pend) true):=by
 have aj:=hG.obj o;rw[ho] at aj;obtain⟨h1,h2,h3⟩:=aj;have jF:(Q7 s.own o).live=true:=by rw[ho];exact hl
 have jt:Oid (pl o) q.i:=by rw[h1];rfl
 have hF:=hG.fresh o q.i jF jt;have lv:∀ d,(Q7 (oset s.own o .dead) d).live=true→d≠o∧(Q7 s.own d).live=true:=fun d h=>by
  rw[Qf] at h;by_cases e:d=o
  ·rw[if_pos e] at h;cases h
  ·rw[if_neg e] at h;exact⟨e,h⟩
 refine⟨⟨hG.bf,⟨hG.le.1,fun j b hb=>?_⟩,h2,fun d=>?_,fun d i hd hi=>hG.fresh d i (lv d hd).2 hi,fun d d' i e h h'=>hG.sep d d' i e (lv d h).2 (lv d' h').2,hG.free⟩,h3 hl⟩
 ·have e:j≠q.i:=by rintro rfl;rw[hF] at hb;cases hb
  rw[Heap.get_kill_ne _ e];exact hG.le.2 _ _ hb
 ·rw[Qf];by_cases e:d=o
  ·rw[if_pos e];trivial
  ·rw[if_neg e];refine (hG.obj d).mono (.refl _) (fun _ _ h=>h) fun hd i hi=>?_;have:i≠q.i:=by rintro rfl;exact hG.sep d o q.i e hd jF hi jt
   exact Heap.get_kill_ne _ this
theorem IC (s:St) (o:Nat) (b:OB) (j:Nat):Q7 (s.make o b).own j=if j=o then b else (Q7 s.own j).kill o:=by
 simp only[St.make,Qf];by_cases h:j=o
 ·subst h;simp
 ·simp only[h,if_false,St.kill,Kz]
theorem Gam.enterLp {B F:Heap}{pl:Nat→Value}{tb:Nat→Option Bool}{s:St}{env:Env}{σ:Heap}(hG:Gam P B F pl tb s env σ) {o aF:Nat}{l:List SV}{q:LpD}(ho:Q7 s.own o=.lpf l q .rdy) (aA:o≠aF)
  {args:List SV}{us:List Value}(av:SRs P B pl tb args us) (ps:List Nat) :
  Gam P B (F.ins σ q.i hG.le.1) (JP pl aF poison) tb ⟨Be (SVs.kill aF l) ps (SVs.kill aF args),oset (Ad aF env s).own o (.lpf (SVs.kill aF l) q .busy),s.nx⟩ (PF q.vals ps us) σ:=by
 have q3:Gam P B F (JP pl aF poison) tb (Ad aF env s) env σ:=by refine hG.make aF _ poison hG.le (fun _ _ _ _ _=>rfl) ?_ (fun i hl _=>by cases hl);exact SRs.upd (.refl _) (fun _ _ h=>h) (fun j hj=>by simp[JP,hj]) _ _ hG.env
 have aj:=hG.obj o;rw[ho] at aj;obtain⟨h1,h2,h3⟩:=aj;have jF:(Q7 s.own o).live=true:=by rw[ho];rfl
 have gO:JP pl aF poison o=.pointer (some ⟨q.i,0,none⟩):=by simp[JP,aA,h1]
 have tI:Q7 (Ad aF env s).own o=.lpf (SVs.kill aF l) q .rdy:=by have:=IC s aF (.stk (SVs.kill aF s.env) env) o;unfold Ad;rw[this,if_neg aA,ho];rfl
 have nQ:(Q7 (Ad aF env s).own o).live=true:=by rw[tI];rfl
 have jt:Oid (JP pl aF poison o) q.i:=by rw[gO];rfl
 have hF:=q3.fresh o q.i nQ jt;have dQ:SRs P B (JP pl aF poison) tb (SVs.kill aF l) q.vals:=SRs.upd (.refl _) (fun _ _ h=>h) (fun j hj=>by simp[JP,hj]) _ _ h2;have pX:SRs P B (JP pl aF poison) tb (SVs.kill aF args) us:=SRs.upd (.refl _) (fun _ _ h=>h) (fun j hj=>by simp[JP,hj]) _ _ av;have lv:∀ d,(Q7 (oset (Ad aF env s).own o (.lpf (SVs.kill aF l) q .busy)) d).live=true→d≠o∧(Q7 (Ad aF env s).own d).live=true:=fun d h=>by
  rw[Qf] at h;by_cases e:d=o
  ·rw[if_pos e] at h;cases h
  ·rw[if_neg e] at h;exact⟨e,h⟩
 refine⟨q3.bf.trans (hG.le.ins _),hG.le.ins_le _,My pX dQ,fun d=>?_,fun d i hd hi=>?_,fun d d' i e h h'=>q3.sep d d' i e (lv d h).2 (lv d' h').2,q3.free⟩
 ·show OR P B _ tb σ _ (Q7 (oset _ o _) d);rw[Qf];by_cases e:d=o
  ·subst e;rw[if_pos rfl];exact⟨gO,dQ,fun h=>by cases h⟩
  ·rw[if_neg e];exact q3.obj d
 ·obtain⟨e,rk⟩:=lv d hd;have:i≠q.i:=by rintro rfl;exact q3.sep d o q.i e rk nQ hi jt
  rw[Heap.ins_ne _ _ _ this];exact q3.fresh d i rk hi
theorem Gam.leaveLp {B F:Heap}{pl:Nat→Value}{tb:Nat→Option Bool}{s:St}{env:Env}{σ:Heap}(hG:Gam P B F pl tb s env σ) {o aF:Nat}{l l2:List SV}{j0:List Value}{q:LpD}{b0:Blk}(hF:F.get q.i=some b0) (hB:B.get q.i=none)
  (h2:Q7 s.own aF=.stk l2 j0) (ho:Q7 s.own o=.lpf l q .busy) (u:LpS) :
  Gam P B (F.kill q.i) pl tb ⟨l2,oset (oset s.own aF .dead) o (.lpf l q u),s.nx⟩ j0 (σ.upd q.i (.obj (.lp q.vals q.r u.st u.pend) true)):=by
 have aj:=hG.obj o;rw[ho] at aj;obtain⟨k1,k2,_⟩:=aj;have hk:=hG.obj aF;rw[h2] at hk;have hi:q.i<σ.n:=σ.lt (hG.le.2 _ _ hF);have aA:∀ {d i},(Q7 s.own d).live=true→Oid (pl d) i→i≠q.i:=fun h1 h2 e=>by have:=hG.fresh _ _ h1 h2;subst e;rw[hF] at this;cases this
 have jt:∀ i,Oid (pl o) i→i=q.i:=fun i h=>by rw[k1] at h;exact(osj h).symm
 have hg:∀ d,Q7 (oset (oset s.own aF .dead) o (.lpf l q u)) d=if d=o then .lpf l q u else if d=aF then .dead else Q7 s.own d:=fun d=>by rw[Qf,Qf]
 have lv:∀ d,d≠o→(Q7 (oset (oset s.own aF .dead) o (.lpf l q u)) d).live=true→(Q7 s.own d).live=true:=fun d e h=>by
  rw[hg,if_neg e] at h;split at h
  ·cases h
  ·exact h
 refine⟨⟨hG.bf.1,fun j b hb=>?_⟩,⟨hG.le.1,fun j b hb=>?_⟩,hk,fun d=>?_,fun d i hd bV=>?_,fun d d' i e h h' h1 iO=>?_,hG.free⟩
 ·have e:j≠q.i:=by rintro rfl;rw[hB] at hb;cases hb
  rw[Heap.get_kill_ne _ e];exact hG.bf.2 _ _ hb
 ·by_cases e:j=q.i
  ·subst e;rw[Heap.get_kill_self] at hb;cases hb
  ·rw[Heap.get_kill_ne _ e] at hb;rw[Heap.get_upd_ne _ _ e];exact hG.le.2 _ _ hb
 ·show OR P B pl tb _ _ (Q7 (oset _ o _) d);rw[hg];by_cases e:d=o
  ·subst e;rw[if_pos rfl];exact⟨k1,k2,fun _=>Heap.get_upd_self _ _ hi⟩
  ·rw[if_neg e];split
   ·trivial
   ·exact(hG.obj d).mono (.refl _) (fun _ _ h=>h) fun hd i hi=>Heap.get_upd_ne _ _ (aA hd hi)
 ·by_cases e:d=o
  ·subst e;rw[jt i bV];exact Heap.get_kill_self _ _
  ·rw[Heap.get_kill_ne _ (aA (lv d e hd) bV)];exact hG.fresh d i (lv d e hd) bV
 ·by_cases e1:d=o
  ·subst e1;have e2:d'≠d:=fun h=>e h.symm;exact aA (lv d' e2 h') iO (jt i h1)
  ·by_cases e2:d'=o
   ·subst e2;exact aA (lv d e1 h) h1 (jt i iO)
   ·exact hG.sep d d' i e (lv d e1 h) (lv d' e2 h') h1 iO
theorem Um {C:Cx}(aw:COk P C) {L:List (Nat×LoopAnn)}(vc:VCode):∀ {B0 F0 D0:Heap}(n:Nat) (K:Exit→St→Prop) (s:St) (env:Env) (σ:Heap) (ro:Option Nat) (Q:Exit→Env→Heap→Prop),Z35 F0 ro→GRel P B0 F0 D0 s env σ→gwp C L vc n K s→(∀ e s' ae σ',K e s'→GRel P B0 F0 D0 s' ae σ'→Q e ae σ')→vwp (Q1 P) vc ro Q env σ:=by
 induction vc with
 |skip=>intro B0 F0 D0 n K s env σ ro Q bN hR h hK;exact hK _ _ _ _ h hR
 |region ops=>intro B0 F0 D0 n K s env σ ro Q bN hR h hK;exact MP aw ops hR h fun s' ae σ' h1 h2=>hK _ _ _ _ h1 h2
 |regionD aL=>intro B0 F0 D0 n K s env σ ro Q bN hR h hK;exact Yh aw aL hR h fun s' ae σ' h1 h2=>hK _ _ _ _ h1 h2
 |rangeF g ps a b fa eH =>
  intro B0 F0 D0 n K s env σ ro Q bN hR h hK;simp only[gwp] at h;split at h
  ·rename_i f first dm hg
   split at h
   ·
    rename_i x hx;obtain⟨B,F,pl,tb,hB,hG⟩:=hR;have gj:=hG.evs (Gds.nil (tb:=tb)) g;rw[hg] at gj;simp only[SR] at gj;obtain⟨x',y',bt,lB,nR⟩:=gj;obtain⟨gY,l8⟩:=aw.iy f x hx;show vwp (Q1 P) (.rangeF g ps a b) ro Q env σ;simp only[vwp,Co,bt];have lC:(Q1 P).it f=some fun i Y args σ K=>U9 P i Y→VCallsTo P f args σ K:=by simp only[Q1];rw[if_pos gY]
    rw[lC];refine⟨?_,fun r hY=>?_⟩
    ·cases ro with
     |none=>trivial
     |some i =>obtain⟨e1,r1,st1,pY,hi⟩:=bN;exact⟨e1,r1,st1,pY,hG.le.2 _ _ (hB.f.2 _ _ hi)⟩
    generalize lT:C.off+2000000+n=o at h;generalize gH:100000*(o+1)-1=aF at h;have af:o≠aF:=by omega
    let q:LpD:=⟨σ.n,env,r⟩;let rdy:Blk:=.obj (.lp env r .ready none) true;let eQ:Blk:=.obj (.lp env r .busy none) true;let p0:Value:=.pointer (some ⟨σ.n,0,none⟩);have iw:Gam P B F (JP pl o p0) tb (Z5a o q s) env (σ.push rdy):=by refine hG.push o (.lpf (SVs.kill o s.env) q .rdy) p0 rdy rfl ⟨rfl,SRs.upd (.refl _) (fun _ _ h=>h) (fun j hj=>by simp[JP,hj]) _ _ hG.env,fun _=>Heap.get_push_self _ _⟩
    have kl:∀ {xs us},SRs P B pl tb xs us→SRs P B (JP pl o p0) tb (SVs.kill o xs) us:=fun h=>SRs.upd (.refl _) (fun _ _ h=>h) (fun j hj=>by simp[JP,hj]) _ _ h;have av:SRs P B (JP pl o p0) tb (SVs.kill o first++(.dd o .yv::SVs.kill o dm)) (x'++(.func (.yield σ.n) #[] #[]::y')):=by refine (kl lB).append ?_;simp only[SRs,SR,DR];exact⟨_,_,rfl,⟨σ.n,by simp[JP,p0],rfl⟩,kl nR⟩
    have tJ:Q2e P o (Ol o aF ps.length q (fun K' s'=>gwp C L a n (Q2u (fun s3=>gwp C L b n K' s3) fun _ _=>False) s') ps):=by
     intro B F pl tb s ae σ args us K R i hG ha hy gO hK;unfold Ol at hy;split at hy
     ·rename_i l q' u ho;split at hy
      ·cases hlen:Nat.beq args.length ps.length with
       |false=>rw[hlen] at hy;exact hy.elim
       |true =>
       rw[hlen] at hy;simp only[_root_.cond_true] at hy;obtain⟨rfl,hy⟩:=hy;have aj:=hG.obj o;rw[ho] at aj;have hi:i=q.i:=by have h1:=aj.1;rw[gO] at h1;have:=osj (Value.pointer.inj h1);exact(Addr.mk.inj this).1
       subst hi;have lD:σ.get q.i=some rdy:=aj.2.2 rfl;have jF:(Q7 s.own o).live=true:=by rw[ho];rfl
       have l9:F.get q.i=none:=hG.fresh o q.i jF (by rw[aj.1];rfl);have rn:B.get q.i=none:=by
        cases hb:B.get q.i with
        |none=>rfl
        |some b=>rw[hG.bf.2 _ _ hb] at l9;cases l9
       have j_:=hG.enterLp ho af ha ps;have iA:(F.ins σ q.i hG.le.1).get q.i=some rdy:=by rw[Heap.ins_self];exact lD
       have ff:(F.ins σ q.i hG.le.1).n=σ.n:=rfl;have aH:q.i<σ.n:=σ.lt lD;refine hY us σ R ⟨lD,by rw[←ha.length];exact(Nat.eq_of_beq_eq_true hlen),?_⟩;refine fa (B0:=B) (F0:=F.ins σ q.i hG.le.1) (D0:=σ) n _ _ _ σ (some q.i) _ ⟨env,r,_,_,iA⟩ ⟨B,_,_,tb,.of j_.bf (Dead.refl _),j_⟩ (hy ae) fun e s3 pZ σ3 h7 h8=>?_;cases e with
       |normal =>
        have je:σ3.get q.i=some rdy:=by obtain⟨B',F',pl',tb',q1,q2⟩:=h8;exact q2.le.2 _ _ (q1.f.2 _ _ iA)
        refine⟨je,?_⟩;have h9:=h8.lpUpd (b:=eQ) iA rn;have ma:((F.ins σ q.i hG.le.1).upd q.i eQ).get q.i=some eQ:=Heap.get_upd_self _ _ (by rw[ff];exact aH);refine eH (B0:=B) (F0:=(F.ins σ q.i hG.le.1).upd q.i eQ) (D0:=σ) n _ _ _ _ (some q.i) _ ⟨env,r,_,_,ma⟩ h9 h7 fun e s4 p5 σ4 bW ga=>?_;obtain⟨B',F',pl',tb',q1,q2⟩:=ga;have oJ:=q1.f.2 _ _ ma;have p6:=q1.x _ _ ma rn;have nS:σ4.get q.i=some eQ:=q2.le.2 _ _ oJ;unfold gyK at bW;split at bW
        ·rename_i l2 j0 l3 q3 u3 au p7;split at bW
         ·obtain⟨rfl,rfl,bW⟩:=bW;have base:∀ b,GBase B F σ B' (F'.kill q.i) (σ4.upd q.i b):=fun b=>by
           refine⟨q1.b,⟨?_,fun j c hc=>?_⟩,fun j c h1 h2=>?_,q1.d.trans (Dead.upd _ _ _ (by rw[nS];rfl))⟩
           ·have h1:=q1.f.1;have h2:=hG.le.1;show F.n≤F'.n;have h3:((F.ins σ q.i hG.le.1).upd q.i eQ).n=σ.n:=rfl;omega
           ·have e:j≠q.i:=by rintro rfl;rw[l9] at hc;cases hc
            rw[Heap.get_kill_ne _ e];refine q1.f.2 _ _ ?_;rw[Heap.get_upd_ne _ _ e,Heap.ins_ne _ _ _ e];exact hc
           ·have e:j≠q.i:=by rintro rfl;rw[l9] at h1;cases h1
            refine q1.x j c ?_ h2;rw[Heap.get_upd_ne _ _ e,Heap.ins_ne _ _ _ e];exact h1
          refine⟨nS,?_⟩;cases e with
          |normal=>exact hK _ _ B' _ pl' tb' _ _ bW (base _) (q2.leaveLp oJ p6 au p7 .rdy) (by simp[SR,KC])
          |ret=>exact hK _ _ B' _ pl' tb' _ _ bW (base _) (q2.leaveLp oJ p6 au p7 .ret) (by simp[SR,KC])
          |exit id=>exact hK _ _ B' _ pl' tb' _ _ bW (base _) (q2.leaveLp oJ p6 au p7 (.exit id)) (by simp[SR,KC])
          |_=>exact bW.elim
         ·exact bW.elim
        ·exact bW.elim
       |_=>exact h7.elim
      ·exact hy.elim
     ·exact hy.elim
    have aU:=l8 B F _ tb _ env (σ.push rdy) o _ _ _ (Q8i o q K) (fun τ=>Q3x Q env σ.n poison τ) iw av tJ (h q) fun s' B' F' pl' tb' ae σ' hk hb dz=>by
     unfold Q8i at hk;split at hk
     ·rename_i l q' u ho;have fin:∀ {e:Exit},u.live=true→q'=q→K e ⟨l,oset s'.own o .dead,s'.nx⟩→Q e env (σ'.kill σ.n)∧σ'.get σ.n=some (.obj (.lp env r u.st u.pend) true):=fun {e} hu hq tK=>by
       subst hq;obtain⟨g1,g2⟩:=dz.dropLp ho hu;refine⟨hK _ _ _ _ tK ⟨B',F',pl',tb',⟨hB.b.trans hb.b,hB.f.trans hb.f,fun j c h1 h2=>hb.x j c (hB.f.2 _ _ h1) (hB.x j c h1 h2),hB.d.trans ((Dead.push _ _).trans (hb.d.trans (Dead.kill _ _)))⟩,g1⟩,g2⟩
      cases u with
      |busy=>exact hk.elim
      |rdy =>obtain⟨hq,hk⟩:=hk;obtain⟨k1,k2⟩:=fin rfl hq hk;unfold Q3x;rw[k2];exact⟨(by intro h;cases h),k1⟩
      |ret =>obtain⟨hq,hk⟩:=hk;obtain⟨k1,k2⟩:=fin rfl hq hk;unfold Q3x;rw[k2];exact⟨(by intro h;cases h),k1⟩
      |exit id =>obtain⟨hq,hk⟩:=hk;obtain⟨k1,k2⟩:=fin rfl hq hk;unfold Q3x;rw[k2];exact⟨(by intro h;cases h),k1⟩
     ·exact hk.elim
    refine VCallsTo.mono (R:=fun _ τ=>Q3x Q env σ.n poison τ) (by simpa using aU) fun v τ h=>h
   split at h
   rotate_left
   ·exact h.elim
   split at h
   ·rename_i it s1 cz A mL p8 hA;split at h
    ·rename_i c m ar xs hc;cases eM:Nat.beq ps.length ar with
     |false=>rw[eM] at h;exact h.elim
     |true =>
     rw[eM] at h;simp only[_root_.cond_true] at h;obtain⟨dN,p,d0,fj,I,tL,rp,rr⟩:=h;have eM:=Nat.eq_of_beq_eq_true eM;have hlen:s.env.length=env.length:=by obtain⟨B,F,pl,tb,_,hG⟩:=hR;exact hG.env.length
     rw[hlen] at rp rr;have nG:=hR;obtain⟨B,F,pl,tb,hB,hG⟩:=hR;have gj:=hG.evs Gds.nil g;rw[hg] at gj;simp only[SR] at gj;obtain⟨x,y,bt,hx,hy⟩:=gj;simp only[SRs] at hx;subst hx;obtain⟨B1,F1,nT,gd,tM,iK⟩:=BK hG hy p8;obtain⟨gY,p9⟩:=aw.it f it mL;obtain⟨nU,p_⟩:=p9 B1 cz y c m ar xs tM hc dN;have tN:GRel P B1 F1 D0 (Z9 (List.length env) (A.st p d0) (A.own p d0)) env σ:=N3 ⟨B1,F1,pl,tb,⟨.refl _,.refl _,fun _ _ _ h=>h,(hB.trans nT).d⟩,gd⟩ fj;have ka:B1.get σ.n=none:=B1.wf _ gd.leB.1;have oK:F1.get σ.n=none:=F1.wf _ gd.le.1;show vwp (Q1 P) (.rangeF g ps a b) ro Q env σ;simp only[vwp,Co,bt];have lC:(Q1 P).it f=some fun i Y args σ K=>U9 P i Y→VCallsTo P f args σ K:=by simp only[Q1];rw[if_pos gY]
     rw[lC];refine⟨?_,fun r hY=>?_⟩
     ·cases ro with
      |none=>trivial
      |some i =>obtain⟨e1,r1,st1,pY,hi⟩:=bN;exact⟨e1,r1,st1,pY,hG.le.2 _ _ (hB.f.2 _ _ hi)⟩
     ·let rdy:Blk:=.obj (.lp env r .ready none) true;let eQ:Blk:=.obj (.lp env r .busy none) true;have ke:F1.Le (σ.push rdy):=gd.le.push rdy;let Fr:=F1.ins (σ.push rdy) σ.n ke.1;have iA:Fr.get σ.n=some rdy:=by
       show (F1.ins _ _ _).get σ.n=_;rw[Heap.ins_self,Heap.get_push_self]
      have ff:Fr.n=σ.n+1:=rfl;have tO:F1.Le Fr:=ke.ins σ.n;let J:Nat→Heap→Prop:=fun k τ=>∃ d,I k d∧GRel P B1 Fr D0 (Z9 (List.length env) (A.st p d) (A.own p d)) env τ;let E:Heap→Prop:=fun τ=>∃ cd e,τ.get σ.n=some (.obj (.lp env r .done (some cd)) true)∧((cd=.ret∧e=Exit.ret)∨∃ id,cd=.exit id∧e=Exit.exit id)∧Q e env (τ.kill σ.n);have back:∀ {s':St}{τ:Heap},GRel P B1 (Fr.upd σ.n eQ) D0 s' env τ→∀ b,GRel P B1 ((Fr.upd σ.n eQ).upd σ.n b) D0 s' env (τ.upd σ.n b):=fun h b =>
       h.lpUpd (b0:=eQ) (Heap.get_upd_self _ _ (by rw[ff];omega)) ka
      have iB:∀ {Fx:Heap}{b0:Blk}{s':St}{τ:Heap},Fx.get σ.n=some b0→(∀ i,i≠σ.n→Fx.get i=F1.get i)→Fx.n=σ.n+1→GRel P B1 Fx D0 s' env τ→GRel P B0 F0 D0 s' env (τ.kill σ.n):=fun {Fx b0 s' τ} h1 h2 h3 h4=>by
       refine (h4.lpKill h1 ka).base (hB.b.trans nT.b) ⟨?_,fun i b hb=>?_⟩ fun i b k1 k2=>(hB.trans nT).x i b k1 k2
       ·show F0.n≤Fx.n;rw[h3];have:=(hB.trans nT).f.1;have:=gd.le.1;omega
       ·have bg:=(hB.trans nT).f.2 _ _ hb;have e:i≠σ.n:=by rintro rfl;rw[oK] at bg;cases bg
        rw[Heap.get_kill_ne _ e,h2 i e];exact bg
      have ju:∀ i,i≠σ.n→Fr.get i=F1.get i:=fun i e=>Heap.ins_ne _ _ _ e;have aU:=p_ σ.n _ J E (σ.push rdy) hY (fun k τ ⟨d,_,hd⟩=>?_) (fun k us τ hk ⟨d,qa,hd⟩ dM=>?_) ⟨d0,tL,?_⟩
      ·refine VCallsTo.mono (R:=fun _ τ=>J m τ∨E τ) (by simpa using aU) fun v τ py=>?_;unfold Q3x;rcases py with⟨d,qa,hd⟩|⟨cd,e,h1,h2,h3⟩
       ·have lD:τ.get σ.n=some rdy:=by
         obtain⟨B',F',pl',tb',q1,q2⟩:=hd;exact q2.le.2 _ _ (q1.f.2 _ _ iA)
        rw[lD];exact⟨(by intro h;cases h),hK _ _ _ _ (rr d qa) (iB iA ju ff hd)⟩
       ·rw[h1];refine⟨(by intro h;cases h),?_⟩;rcases h2 with⟨rfl,rfl⟩|⟨id,rfl,rfl⟩<;>exact h3
      ·obtain⟨B',F',pl',tb',q1,q2⟩:=hd;exact q1.b.trans q2.leB
      ·
       have lD:τ.get σ.n=some rdy:=by obtain⟨B',F',pl',tb',q1,q2⟩:=hd;exact q2.le.2 _ _ (q1.f.2 _ _ iA)
       refine⟨lD,by rw[eM,←(nU k).1,dM.length],?_⟩;have hF:=rp k d hk qa env;have bE:GRel P B1 Fr D0 ⟨Be (Ad (2000000+n) env (Z9 (List.length env) (A.st p d) (A.own p d))).env ps (xs k),(Ad (2000000+n) env (Z9 (List.length env) (A.st p d) (A.own p d))).own,0⟩ (PF env ps us) τ:=by
        obtain⟨B',F',pl',tb',q1,q2⟩:=hd;have q3:Gam P B' F' (JP pl' (2000000+n) poison) tb' (Ad (2000000+n) env (Z9 (List.length env) (A.st p d) (A.own p d))) env τ:=by refine q2.make (2000000+n) _ poison q2.le (fun _ _ _ _ _=>rfl) ?_ (fun i hl _=>by cases hl);exact SRs.upd (.refl _) (fun _ _ h=>h) (fun j hj=>by simp[JP,hj]) _ _ q2.env
        refine⟨B',F',JP pl' (2000000+n) poison,tb',q1,⟨q3.bf,q3.le,My ?_ q3.env,q3.obj,q3.fresh,q3.sep,?_⟩⟩
        ·exact SRs.mono q1.b (fun _ _ h=>h) _ _ (QA _ _ (nU k).2 dM)
        ·exact q3.free
       refine fa (B0:=B1) (F0:=Fr) n _ _ _ τ (some σ.n) _ ⟨env,r,_,_,iA⟩ bE hF fun e s3 pZ σ3 h7 h8=>?_;cases e with
       |normal =>
        have je:σ3.get σ.n=some rdy:=by obtain⟨B',F',pl',tb',q1,q2⟩:=h8;exact q2.le.2 _ _ (q1.f.2 _ _ iA)
        refine⟨je,?_⟩;have h9:=h8.lpUpd (b:=eQ) iA ka;have ma:(Fr.upd σ.n eQ).get σ.n=some eQ:=Heap.get_upd_self _ _ (by rw[ff];omega);refine eH (B0:=B1) (F0:=Fr.upd σ.n eQ) n _ _ _ _ (some σ.n) _ ⟨env,r,_,_,ma⟩ h9 h7 fun e s4 p5 σ4 bW ga=>?_;have nS:σ4.get σ.n=some eQ:=by obtain⟨B',F',pl',tb',q1,q2⟩:=ga;exact q2.le.2 _ _ (q1.f.2 _ _ ma)
        have ru:σ.n<σ4.n:=σ4.lt nS;unfold Q1g at bW;split at bW
        ·rename_i l vs eJ;obtain⟨rfl,bW⟩:=bW;have cu:GRel P B1 (Fr.upd σ.n eQ) D0 ⟨l,s4.own,s4.nx⟩ vs σ4:=by
          obtain⟨B',F',pl',tb',q1,q2⟩:=ga;have:=q2.obj (2000000+n);rw[eJ] at this;exact⟨B',F',pl',tb',q1,q2.bf,q2.le,this,q2.obj,q2.fresh,q2.sep,q2.free⟩
         have lE:∀ b,((Fr.upd σ.n eQ).upd σ.n b).get σ.n=some b:=fun b=>Heap.get_upd_self _ _ (by show σ.n<Fr.n;rw[ff];omega);have qb:∀ b i,i≠σ.n→((Fr.upd σ.n eQ).upd σ.n b).get i=F1.get i:=fun b i e=>by rw[Heap.get_upd_ne _ _ e,Heap.get_upd_ne _ _ e,ju i e]
         refine⟨nS,?_⟩;cases e with
         |normal =>
          obtain⟨d',dA,oG⟩:=bW;refine .inl ⟨rfl,d',oG,?_⟩;have:=(back (N3 cu dA) rdy).base (B0:=B1) (F0:=Fr) (.refl _) ⟨Nat.le_refl _,fun i b hb=>?_⟩ fun i b k1 k2=>k2
          ·exact this
          ·by_cases e:i=σ.n
           ·subst e;rw[iA] at hb;rw[lE];exact hb
           ·rw[qb _ _ e,←ju i e];exact hb
         |ret =>refine .inr ⟨rfl,_,_,Heap.get_upd_self _ _ ru,.inl ⟨rfl,rfl⟩,hK _ _ _ _ bW (iB (lE _) (qb _) (by show Fr.n=_;exact ff) (back cu _))⟩
         |exit id =>refine .inr ⟨rfl,_,_,Heap.get_upd_self _ _ ru,.inr ⟨id,rfl,rfl⟩,hK _ _ _ _ bW (iB (lE _) (qb _) (by show Fr.n=_;exact ff) (back cu _))⟩
         |_=>exact bW.elim
        ·exact bW.elim
       |_=>exact h7.elim
      ·
       obtain⟨B',F',pl',tb',q1,q2⟩:=tN;have hle:F'.Le (σ.push rdy):=q2.le.push rdy;have tP:F'.get σ.n=none:=F'.wf _ q2.le.1;have aj:∀ d i,(Q7 (Z9 (List.length env) (A.st p d0) (A.own p d0)).own d).live=true→Oid (pl' d) i→i<σ.n:=fun d i h1 h2=>(q2.obj d).id_lt h1 h2;refine⟨B',F'.ins (σ.push rdy) σ.n hle.1,pl',tb',⟨q1.b,Heap.ins_ins q1.f _ _ _,fun i b k1 k2=>?_,q1.d.trans (Dead.push _ _)⟩,⟨q2.bf.trans (hle.ins _),hle.ins_le _,q2.env,fun d=>(q2.obj d).mono (.refl _) (fun _ _ h=>h) fun h1 i h2=>Heap.get_push_lt _ _ (aj d i h1 h2),fun d i h1 h2=>?_,q2.sep,q2.free⟩⟩
       ·by_cases e:i=σ.n
        ·subst e;exact B'.wf _ q2.leB.1
        ·rw[ju i e] at k1;exact q1.x i b k1 k2
       ·rw[Heap.ins_ne _ _ _ (Nat.ne_of_lt (aj d i h1 h2))];exact q2.fresh d i h1 h2
    ·exact h.elim
   ·exact h.elim
  ·exact h.elim
 |bad=>intro B0 F0 D0 n K s env σ ro Q bN hR h hK;exact h.elim
 |ret=>intro B0 F0 D0 n K s env σ ro Q bN hR h hK;exact hK _ _ _ _ h hR
 |exit id=>intro B0 F0 D0 n K s env σ ro Q bN hR h hK;exact hK _ _ _ _ h hR
 |seq a b fa eH =>
  intro B0 F0 D0 n K s env σ ro Q bN hR h hK;refine fa n _ s env σ ro _ bN hR h fun e s' ae σ' h1 h2=>?_;cases e with
  |normal=>exact eH n K s' ae σ' ro Q bN h2 h1 hK
  |_=>exact hK _ _ _ _ h1 h2
 |cond c a b fa eH =>
  intro B0 F0 D0 n K s env σ ro Q bN hR h hK;simp only[gwp] at h;split at h
  ·rename_i t ht;have nG:=hR;obtain⟨B,F,pl,tb,hB,hG⟩:=hR;have:=NW hG ht;simp only[vwp,this,Oi];cases t with
   |true=>exact⟨fun _=>fa n K s env σ ro Q bN nG h hK,fun e=>by cases e⟩
   |false=>exact⟨(fun e=>by cases e),fun _=>eH n K s env σ ro Q bN nG h hK⟩
  split at h
  ·rename_i t ht;obtain⟨B,F,pl,tb,hB,hG⟩:=hR;have:=W2 ht (hG.evs Gds.nil c);simp only[vwp,this,Oi];split at h
   ·rename_i A hA;obtain⟨p,I,hF,hI⟩:=h;have fin:∀ e s' ae σ',Q6l s.env.length A p I K e s'→GRel P B0 F0 D0 s' ae σ'→Q e ae σ':=fun e s' ae σ' h1 h2=>by
     cases e with
     |normal =>obtain⟨d,h3,h4⟩:=h1;exact hK _ _ _ _ (hI d h4) (UR h2 h3)
     |_=>exact hK _ _ _ _ h1 h2
    exact⟨fun e=>fa n _ s env σ ro Q bN ⟨B,F,pl,tb,hB,hG⟩ (hF.1 e) fin,fun e=>eH n _ s env σ ro Q bN ⟨B,F,pl,tb,hB,hG⟩ (hF.2 e) fin⟩
   exact⟨fun e=>fa n K s env σ ro Q bN ⟨B,F,pl,tb,hB,hG⟩ (h.1 e) hK,fun e=>eH n K s env σ ro Q bN ⟨B,F,pl,tb,hB,hG⟩ (h.2 e) hK⟩
  ·exact h.elim
 |block id b ih =>
  intro B0 F0 D0 n K s env σ ro Q bN hR h hK;refine ih id _ s env σ ro _ bN hR h fun e s' ae σ' h1 h2=>?_;cases e with
  |exit gQ =>
   simp only[IZ] at h1;simp only[Em];split
   ·rename_i e;rw[if_pos e] at h1;exact hK _ _ _ _ h1 h2
   ·rename_i e;rw[if_neg e] at h1;exact hK _ _ _ _ h1 h2
  |_=>exact hK _ _ _ _ h1 h2
 |loop b ih =>
  intro B0 F0 D0 n K s env σ ro Q bN hR h hK;simp only[gwp] at h;split at h
  ·rename_i A hA;obtain⟨p,d0,h1,I,μ,h2,h3⟩:=h;have hlen:s.env.length=env.length:=by obtain⟨B,F,pl,tb,_,hG⟩:=hR;exact hG.env.length
   have hk:∀ d,(A.st p d).map (·.1)=A.sl:=fun d=>Pa _ _;refine⟨A.sl,fun m vs σ'=>∃ d,I d∧μ d=m∧GRel P B0 F0 D0 (Z9 s.env.length (A.st p d) (A.own p d)) (W1 A.sl vs (List.replicate env.length poison)) σ',μ d0,⟨d0,h2,rfl,?_⟩,fun m vs σ' ⟨d,h4,h5,h6⟩=>?_⟩
   ·have:=Hb hR h1 s.env.length;rw[hk d0,hlen] at this;rw[hlen];exact this
   ·refine ih n _ _ _ σ' ro _ bN h6 (h3 d h4) fun e s' ae aD h7 h8=>?_;cases e with
    |normal =>
     simp only[Q4t] at h7;cases m_:Z4g s'.own with
     |false=>rw[m_] at h7;exact h7.elim
     |true =>
     rw[m_] at h7;obtain⟨d',h9,bW,ga⟩:=h7;refine⟨μ d',by omega,d',bW,rfl,?_⟩;have:=Hb h8 h9 s.env.length;rw[hk d',hlen] at this;rw[hlen];exact this
    |_=>exact hK _ _ _ _ h7 h8
  ·exact h.elim
end
end Go.V