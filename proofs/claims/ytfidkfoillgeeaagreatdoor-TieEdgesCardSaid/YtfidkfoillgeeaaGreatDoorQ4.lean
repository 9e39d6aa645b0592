/- A framework for walks, contracts of functions, and their proofs: part 4. -/
import Derived.Test.YtfidkfoillgeeaaGreatDoorQ3
namespace Go.V
open Go
theorem Z3q {α:Type}{l:List α}(h:¬ l=[]) (b:Bool):(l.isEmpty&&b)=false:=by cases l with|nil=>exact absurd rfl h|cons _ _=>rfl
theorem Z1y {α:Type}{l:List α}(h:¬ l=[]):l.isEmpty=false:=by cases l with|nil=>exact absurd rfl h|cons _ _=>rfl
theorem UM {c vs:List Value}{o:Nat}(h:o+vs.length<=c.length):Wz c o vs=c.take o++vs++c.drop (o+vs.length):=by
 apply List.ext_getElem?;intro k;rcases Nat.lt_or_ge k o with hk|hk
 .rw[W2 vs c o k (.inl hk),List.append_assoc,List.getElem?_append_left (by simp;omega),List.getElem?_take,if_pos hk]
 .rcases Nat.lt_or_ge k (o+vs.length) with au|au
  .have:=Ra vs c o (k-o) h (by omega);rw[show o+(k-o)=k by omega] at this;rw[this,List.append_assoc,List.getElem?_append_right (by simp;omega),List.getElem?_append_left (by simp;omega)];congr 1;simp;omega
  .rw[W2 vs c o k (.inr au),List.getElem?_append_right (by simp;omega),List.getElem?_drop];congr 1;simp;omega
theorem E6 (us c:List Value) {m p n off:Nat}(h1:off+us.length<=n) (h2:p+n<=m) (h3:m<=c.length) :
  (Wz c (p+off) us).take m=(c.take m).take p++Wz (((c.take m).drop p).take n) off us++(c.take m).drop (p+n):=by
 have l1:(((c.take m).drop p).take n).length=n:=by simp;omega
 have bI:∀ q,q<n->(((c.take m).drop p).take n)[q]?=c[p+q]?:=fun q hq=>by rw[List.getElem?_take,if_pos hq,List.getElem?_drop,List.getElem?_take,if_pos (by omega)]
 generalize ((c.take m).drop p).take n=row at l1 bI;have l2:((c.take m).take p).length=p:=by simp;omega
 have l3:(Wz row off us).length=n:=by rw[J_,l1]
 have g2:∀ q,q<p->((c.take m).take p)[q]?=c[q]?:=fun q hq=>by rw[List.getElem?_take,if_pos hq,List.getElem?_take,if_pos (by omega)]
 generalize (c.take m).take p=pre at l2 g2;apply List.ext_getElem?;intro j;rw[List.getElem?_take,List.append_assoc];by_cases hj:j<m
 .rw[if_pos hj];rcases Nat.lt_or_ge j p with a1|a1
  .rw[W2 us c _ j (.inl (by omega)),List.getElem?_append_left (by omega),g2 j a1]
  .rw[List.getElem?_append_right (by omega),l2];rcases Nat.lt_or_ge j (p+n) with a2|a2
   .rw[List.getElem?_append_left (by omega)];rcases Nat.lt_or_ge (j-p) off with a3|a3
    .rw[W2 us c _ j (.inl (by omega)),W2 us _ _ _ (.inl a3),bI _ (by omega)];congr 1;omega
    .rcases Nat.lt_or_ge (j-p) (off+us.length) with a4|a4
     .have b1:=Ra us c (p+off) (j-(p+off)) (by omega) (by omega);have b2:=Ra us row off (j-(p+off)) (by omega) (by omega);rw[show p+off+(j-(p+off))=j by omega] at b1;rw[show off+(j-(p+off))=j-p by omega] at b2;rw[b1,b2]
     .rw[W2 us c _ j (.inr (by omega)),W2 us _ _ _ (.inr a4),bI _ (by omega)];congr 1;omega
   .rw[W2 us c _ j (.inr (by omega)),List.getElem?_append_right (by omega),List.getElem?_drop,List.getElem?_take,l3,if_pos (by omega)];congr 1;omega
 .rw[if_neg hj,List.getElem?_append_right (by omega),List.getElem?_append_right (by omega),List.getElem?_drop,List.getElem?_take,if_neg (by omega)]
theorem Heap.Le.push {B σ:Heap}(h:B.Le σ) (b:Blk):B.Le (σ.push b) :=
 ⟨by have:=h.1;simp;omega,fun i b' hb=>by rw[Heap.get_push_lt _ _ (σ.lt (h.2 i b' hb))];exact h.2 i b' hb⟩
theorem Heap.Le.upd {B σ:Heap}(h:B.Le σ) {i:Nat}(hi:B.get i=none) (b:Blk):B.Le (σ.upd i b) :=
 ⟨by simpa using h.1,fun j b' hb=>by
  have:j≠i:=fun e=>by subst e;rw[hi] at hb;cases hb
  rw[Heap.get_upd_ne _ _ this];exact h.2 j b' hb⟩
theorem Heap.Le.kill {B σ:Heap}(h:B.Le σ) {i:Nat}(hi:B.get i=none):B.Le (σ.kill i) :=
 ⟨by simpa using h.1,fun j b' hb=>by
  have:j≠i:=fun e=>by subst e;rw[hi] at hb;cases hb
  rw[Heap.get_kill_ne _ this];exact h.2 j b' hb⟩
theorem Heap.Le.fresh {B σ:Heap}(h:B.Le σ):B.get σ.n=none:=B.wf _ h.1
section
variable {P:Program}{B F:Heap}{pl:Nat->Value}{tb:Nat->Option Bool}{s:St}{env:Env}{σ:Heap}
theorem OR.id_lt {p:Value}{b:OB}(h:OR P B pl tb σ p b) (hl:b.live=true) {i:Nat}(hi:Oid p i):i<σ.n:=by
 cases b with
 |dead=>cases hl
 |lst ty k xs nl =>
  rcases h with⟨_,_,rfl⟩|⟨_,i',cap,c,t,rfl,_,h3,_⟩
  .cases hi
  .obtain rfl:=osj hi;exact σ.lt h3
 |cells l u=>obtain⟨i',c,e,t,rfl,h2,_⟩:=h;obtain rfl:=osj hi;exact σ.lt h2
 |map kk vk m=>obtain⟨i',es,clock,rfl,h2,_⟩:=h;obtain rfl:=osj hi;exact σ.lt h2
 |mapE kk vk m key n=>obtain⟨i',es,clock,r,e,rfl,h2,_⟩:=h;obtain rfl:=osj hi;exact σ.lt h2
 |iter kk vk m dn=>obtain⟨j,i',es,clock,wr,seen,rfl,h2,_⟩:=h;obtain rfl:=osj hi;exact σ.lt h2
 |lpf l q s=>obtain⟨rfl,_,h2⟩:=h;obtain rfl:=osj hi;exact σ.lt (h2 hl)
 |deep ty q k xs nl hh =>obtain⟨is,hO,_,_,_,h4,_⟩:=h;obtain⟨b',cj⟩:=(hO i).1 hi;exact σ.lt (h4 i b' cj)
 |stk l vals=>cases hl
theorem Gam.push (h:Gam P B F pl tb s env σ) (d:Nat) (b:OB) (p:Value) (blk:Blk) (hp:oid p=some σ.n) (hb:OR P B (Je pl d p) tb (σ.push blk) p b):Gam P B F (Je pl d p) tb (s.make d b) env (σ.push blk):=by
 refine h.make d b p (h.le.push blk) (fun j i hj hl hi=>?_) hb (fun i _ hi=>?_)
 .exact Heap.get_push_lt _ _ ((h.obj j).id_lt hl hi)
 .obtain rfl:=Ok hp hi;exact⟨h.le.fresh,fun j _ hl e=>by have:=(h.obj j).id_lt hl e;omega⟩
theorem Rows.cellOk {k:Kind}{xs:List k.T}{cs:List Value}(h:Rows (KC B k) xs cs):cs.all Go.V.cellOk=true:=by
 induction h with
 |nil=>rfl
 |cons h _ ih=>rw[List.all_append,KC.cellOk h,ih];rfl
theorem GS {pl:Nat->Value}:∀ {k:Kind}{off:Nat}{v:SV}{u:Value}{x y:k.T}{row:List Value},Q93 k off v x=some y->KC B k x row->SR P B pl tb v u->off<k.size->KC B k y (Wz row off [u])
 |.pair a b,off,v,u,x,y,row,h,hr,hv,ho=>by
  obtain⟨c1,c2,rfl,h1,h2⟩:=hr;have l1:=KC.length h1;have l2:=KC.length h2;simp only[Q93] at h;simp only[Wz];cases hb:Nat.blt off a.size with
  |true =>
   rw[hb] at h;simp only[_root_.cond_true,Option.map_eq_some_iff] at h;obtain⟨z,h3,rfl⟩:=h;have bp:off<a.size:=by simpa [Nat.blt_eq] using hb
   have:=GS h3 h1 hv bp;exact⟨c1.set off u,c2,by rw[List.set_append_left _ _ (by omega)],this,h2⟩
  |false =>
   rw[hb] at h;simp only[_root_.cond_false,Option.map_eq_some_iff] at h;obtain⟨z,h3,rfl⟩:=h;have bp:¬ off<a.size:=by intro ah;rw[show Nat.blt off a.size=true by rw[Nat.blt_eq];exact ah] at hb;cases hb
   simp only[Kind.size] at ho;have:=GS h3 h2 hv (by omega);refine⟨c1,c2.set (off-a.size) u,?_,h1,this⟩;rw[List.set_append_right _ _ (by omega),l1]
 |.i ik,off,v,u,x,y,row,h,hr,hv,ho=>by
  have:=QB (k:=.i ik) h (show SRs P B pl tb [v] [u] by simp only[SRs];exact⟨_,[],rfl,hv,rfl⟩);have hl:=KC.length hr;simp only[Kind.size] at hl ho;obtain⟨c,rfl⟩:=List.length_eq_one_iff.1 hl;obtain rfl:off=0:=by omega
  exact this
 |.bo,off,v,u,x,y,row,h,hr,hv,ho=>by
  have:=QB (k:=.bo) h (show SRs P B pl tb [v] [u] by simp only[SRs];exact⟨_,[],rfl,hv,rfl⟩);have hl:=KC.length hr;simp only[Kind.size] at hl ho;obtain⟨c,rfl⟩:=List.length_eq_one_iff.1 hl;obtain rfl:off=0:=by omega
  exact this
 |.st,off,v,u,x,y,row,h,hr,hv,ho=>by
  have:=QB (k:=.st) h (show SRs P B pl tb [v] [u] by simp only[SRs];exact⟨_,[],rfl,hv,rfl⟩);have hl:=KC.length hr;simp only[Kind.size] at hl ho;obtain⟨c,rfl⟩:=List.length_eq_one_iff.1 hl;obtain rfl:off=0:=by omega
  exact this
 |.list k,off,v,u,x,y,row,h,hr,hv,ho=>by
  have:=QB (k:=.list k) h (show SRs P B pl tb [v] [u] by simp only[SRs];exact⟨_,[],rfl,hv,rfl⟩);have hl:=KC.length hr;simp only[Kind.size] at hl ho;obtain⟨c,rfl⟩:=List.length_eq_one_iff.1 hl;obtain rfl:off=0:=by omega
  exact this
theorem T6 {mk:MK}{kk vk:Kind}(hk:gq.mkOk mk kk=true) {key:kk.T}{x:vk.T}{kv xv:Value}{clock:Nat}(cM:KV B kk key kv) (hx:KV B vk x xv):∀ {m:List (kk.T×vk.T)}{es:List Jr},MR B kk vk m es->MR B kk vk (CA kk m key x) (QO kv xv clock es).1
 |[],es,h=>by simp only[MR] at h;subst h;exact⟨_,[],rfl,cM,hx,rfl⟩
 |m::ms,es,h=>by
  obtain⟨e,bX,rfl,h2,h3,h4⟩:=h;have hq:=S9 hk cM h2;simp only[QO,CA,hq];cases gq.keq kk key m.1 with
  |true=>exact⟨_,bX,rfl,cM,hx,h4⟩
  |false=>exact⟨e,_,rfl,h2,h3,T6 hk cM hx h4⟩
theorem Gr (k v:Value) (clock:Nat):∀ es:List Jr,((QO k v clock es).2=clock/\(QO k v clock es).1.map (fun e=>e.2.2)=es.map fun e=>e.2.2)\/((QO k v clock es).2=clock+1/\(QO k v clock es).1.map (fun e=>e.2.2)=(es.map fun e=>e.2.2)++[clock])
 |[]=>.inr ⟨rfl,rfl⟩
 |e::es=>by
  simp only[QO];split
  .exact .inl ⟨rfl,rfl⟩
  .rcases Gr k v clock es with⟨h1,h2⟩|⟨h1,h2⟩
   .exact .inl ⟨h1,by simp[h2]⟩
   .exact .inr ⟨h1,by simp[h2]⟩
theorem SOk.put {es:List Jr}{clock:Nat}(h:SOk es clock) {k v:Value}:SOk (QO k v clock es).1 (QO k v clock es).2:=by
 obtain⟨h1,h2⟩:=h;have mem:∀ (l:List Jr) (x:Nat),x∈l.map (fun e=>e.2.2)<->∃ e∈l,e.2.2=x:=fun l x=>by simp
 rcases Gr k v clock es with⟨e1,e2⟩|⟨e1,e2⟩
 .refine⟨by rw[e2];exact h1,fun e he=>?_⟩;have:e.2.2∈es.map fun e=>e.2.2:=by rw[<-e2];exact(mem _ _).2 ⟨e,he,rfl⟩
  obtain⟨e',k1,k2⟩:=(mem _ _).1 this;rw[e1,<-k2];exact h2 e' k1
 .refine⟨?_,fun e he=>?_⟩
  .rw[e2,List.nodup_append];refine⟨h1,by simp,fun a ha b hb=>?_⟩;obtain rfl:=List.mem_singleton.1 hb;obtain⟨e',k1,k2⟩:=(mem _ _).1 ha;have:=h2 e' k1;omega
  .have:e.2.2∈(es.map fun e=>e.2.2)++[clock]:=by rw[<-e2];exact(mem _ _).2 ⟨e,he,rfl⟩
   rw[e1];rcases List.mem_append.1 this with h3|h3
   .obtain⟨e',k1,k2⟩:=(mem _ _).1 h3;have:=h2 e' k1;omega
   .have:=List.mem_singleton.1 h3;omega
def Fr (T:Nat) (s s':St) (pl pl':Nat->Value) (σ σ':Heap):Prop :=
 ∀ q,q≠T->(Qd s'.own q).live=(Qd s.own q).live/\pl' q=pl q/\((Qd s.own q).live=true->∀ i,Oid (pl q) i->σ'.get i=σ.get i)
theorem KH (s:St) (d:Nat) (b:OB) {q:Nat}(hq:q≠d):(Qd (s.make d b).own q).live=(Qd s.own q).live:=by simp only[St.make,St.kill,Qp,KI,if_neg hq,OB.live_kill]
theorem Gam.makeF {s:St}{env:Env}{σ σ':Heap}{pl:Nat->Value}(h:Gam P B F pl tb s env σ) (d:Nat) (b:OB) (p:Value) (hle:F.Le σ') (ho:∀ j i,j≠d->(Qd s.own j).live=true->Oid (pl j) i->σ'.get i=σ.get i)
  (hb:OR P B (Je pl d p) tb σ' p b) (hf:∀ i,b.live=true->Oid p i->F.get i=none/\∀ j,j≠d->(Qd s.own j).live=true->¬ Oid (pl j) i):Gam P B F (Je pl d p) tb (s.make d b) env σ'/\Fr d s (s.make d b) pl (Je pl d p) σ σ' :=
 ⟨h.make d b p hle ho hb hf,fun q hq=>⟨KH s d b hq,by simp[Je,hq],fun hl i hi=>ho q i hq hl hi⟩⟩
theorem Gam.writeF {s:St}{env:Env}{σ σ':Heap}{pl:Nat->Value}(h:Gam P B F pl tb s env σ) (d:Nat) (b:OB) (hle:F.Le σ') (aA:(Qd s.own d).live=true)
  (cO:∀ j i,j≠d->(Qd s.own j).live=true->Oid (pl j) i->σ'.get i=σ.get i) (hb:OR P B pl tb σ' (pl d) b):Gam P B F pl tb ⟨s.env,oset s.own d b,s.nx⟩ env σ'/\Fr d s ⟨s.env,oset s.own d b,s.nx⟩ pl pl σ σ' :=
 ⟨h.write d b hle aA cO hb,fun q hq=>⟨by simp only[Qp,if_neg hq],rfl,fun hl i hi=>cO q i hq hl hi⟩⟩
theorem Gam.pushF {s:St}{env:Env}{σ:Heap}{pl:Nat->Value}(h:Gam P B F pl tb s env σ) (d:Nat) (b:OB) (p:Value) (blk:Blk) (hp:oid p=some σ.n) (hb:OR P B (Je pl d p) tb (σ.push blk) p b):Gam P B F (Je pl d p) tb (s.make d b) env (σ.push blk)/\Fr d s (s.make d b) pl (Je pl d p) σ (σ.push blk) :=
 ⟨h.push d b p blk hp hb,fun q hq=>⟨KH s d b hq,by simp[Je,hq],fun hl i hi=>Heap.get_push_lt _ _ ((h.obj q).id_lt hl hi)⟩⟩
def NOk (P:Program) (B F:Heap) (tb:Nat->Option Bool) (o:VOp) (evV:Operand->Value) (env:Env) (σ:Heap) (K:SV->St->Prop) (T:Nat) (s:St) (pl:Nat->Value):Prop :=
 ∃ u σ' pl' v s',Q6 o evV σ=some (u,σ')/\K v s'/\(Gam P B F pl' tb s' env σ'/\Fr T s s' pl pl' σ σ')/\SR P B pl' tb v u
theorem XN (pl:Nat->Value) (d:Nat) (p:Value):Je pl d p d=p:=by simp[Je]
section
variable {C:Cx}{d:Nat}{ev:Operand->SV}{evV:Operand->Value}{K:SV->St->Prop}
theorem Oo (ak:∀ x,SR P B pl tb (ev x) (evV x)) (hG:Gam P B F pl tb s env σ) {t:Nat}{z:List Value}(h:gn C d (.alloc t z) ev s K):NOk P B F tb (.alloc t z) evV env σ K (QC d (.alloc t z) ev) s pl:=by
 have _hev:=ak;simp only[gn] at h;refine⟨.pointer (some ⟨σ.n,0,none⟩),_,Je pl d (.pointer (some ⟨σ.n,0,none⟩)),_,_,rfl,h,hG.pushF d _ _ _ rfl ?_,?_⟩
 .refine⟨σ.n,z,_,_,rfl,Heap.get_push_self _ _,?_,fun y hy=>⟨osj hy,rfl⟩⟩;have hz:SRs P B (Je pl d (.pointer (some ⟨σ.n,0,none⟩))) tb (z.map cvp) (z.map id):=SRs.map fun x _=>G0 x
  rwa [List.map_id] at hz
 .simp only[SR,XN];exact⟨_,rfl,rfl⟩
theorem Q9p (ak:∀ x,SR P B pl tb (ev x) (evV x)) (hG:Gam P B F pl tb s env σ) {t:Nat}{x:Operand}(h:gn C d (.box t x) ev s K):NOk P B F tb (.box t x) evV env σ K (QC d (.box t x) ev) s pl:=by
 simp only[gn] at h;split at h
 .rename_i l hl;obtain⟨c,h1,h2,_⟩:=We hl (ak x);refine⟨.pointer (some ⟨σ.n,0,none⟩),σ.push (.cells c ⟨c.length,t⟩ true true),Je pl d (.pointer (some ⟨σ.n,0,none⟩)),_,_,by simp only[Q6,h1],h,hG.pushF d _ _ _ rfl ?_,?_⟩
  .exact⟨σ.n,c,_,_,rfl,Heap.get_push_self _ _,SRs.upd (Heap.Le.refl B) (fun _ _ h=>h) (fun j hj=>by simp[Je,hj]) _ _ h2,fun y hy=>⟨osj hy,rfl⟩⟩
  .simp only[SR,XN];exact⟨_,rfl,rfl⟩
 .cases h
theorem DQ (ak:∀ x,SR P B pl tb (ev x) (evV x)) {k:Kind}:∀ {ps:List (Nat×Operand)}{xs ys:List k.T}{c:List Value},Sv k ev ps xs=some ys->Rows (KC B k) xs c ->
  ys.length=xs.length/\∃ c',VV c (ps.map fun p=>(p.1*k.size,k.size,evV p.2))=some c'/\Rows (KC B k) ys c'
 |[],xs,ys,c,h,hr=>by obtain rfl:=osj h;exact⟨rfl,c,rfl,hr⟩
 |(j,x)::r,xs,ys,c,h,hr=>by
  simp only[Sv] at h;split at h
  .rename_i l hl;split at h
   .rename_i y hy;split at h
    .rename_i hj;obtain⟨vs,h1,h2,_⟩:=We hl (ak x);have hk:=QB hy h2;have hlen:=KC.length hk;have cD:=hr.length KC.rows_len;have cC:(j+1)*k.size<=xs.length*k.size:=Nat.mul_le_mul_right _ hj;rw[Nat.add_mul,Nat.one_mul] at cC;have bg:=hr.set KC.rows_len hj hk;have e:Wz c (j*k.size) vs=c.take (j*k.size)++vs++c.drop (j*k.size+k.size):=by
      rw[UM (by omega),hlen]
     rw[<-e] at bg;obtain⟨h3,c',h4,h5⟩:=DQ ak h bg;refine⟨by rw[h3,List.length_set],c',?_,h5⟩;simp only[List.map_cons,VV,h1];rw[if_pos ⟨hlen,by omega⟩];exact h4
    .cases h
   .cases h
  .cases h
theorem Ul (ak:∀ x,SR P B pl tb (ev x) (evV x)) (hG:Gam P B F pl tb s env σ) {e:El}{z:List Value}{n:Nat}{ps:List (Nat×Operand)}(h:gn C d (.buildSlice e z n ps) ev s K):NOk P B F tb (.buildSlice e z n ps) evV env σ K (QC d (.buildSlice e z n ps) ev) s pl:=by
 simp only[gn] at h;split at h
 .rename_i k _;split at h
  .rename_i hc;obtain⟨aE,hz⟩:=hc;split at h
   .rename_i xs hx;have qU:KC B k k.dflt z:=W8 hz;have bI:Rows (KC B k) (List.replicate n k.dflt) (Bq n z):=by rw[KD];exact Rows.replicate qU n
    obtain⟨h3,c',h4,h5⟩:=DQ (B:=B) ak hx bI;rw[List.length_replicate] at h3;have cD:=h5.length KC.rows_len;refine⟨.slice (some ⟨σ.n,0,none⟩) n n,σ.push (.cells c' e true true),Je pl d (.slice (some ⟨σ.n,0,none⟩) n n),_,_,?_,h,hG.pushF d _ _ _ rfl ?_,?_⟩
    .simp only[Q6];rw[<-aE,h4]
    .refine .inr ⟨rfl,σ.n,n,c',true,by rw[h3],by omega,?_,by rw[cD,h3];exact Nat.le_refl _,?_⟩
     .rw[Heap.get_push_self,aE]
     .rw[List.take_of_length_le (by omega)];exact h5
    .simp only[SR,XN];exact⟨trivial,_,_,_,rfl⟩
   .cases h
  .cases h
 .cases h
theorem Hh (ak:∀ x,SR P B pl tb (ev x) (evV x)) (hG:Gam P B F pl tb s env σ) {e:El}{bytes:Nat}{z:List Value}{l c:Operand}(h:gn C d (.makeSlice e bytes z l c) ev s K):NOk P B F tb (.makeSlice e bytes z l c) evV env σ K (QC d (.makeSlice e bytes z l c) ev) s pl:=by
 simp only[gn] at h;split at h
 .rename_i k k1 a k2 b _ h1 h2;have e1:=Zm h1 (ak l);have e2:=Zm h2 (ak c);split at h
  .rename_i hc;obtain⟨aE,hz⟩:=hc;simp only[RZ,Q85] at h;obtain⟨k3,k4,k5,k6,h⟩:=h;have qU:KC B k k.dflt z:=W8 hz;have bI:Rows (KC B k) (List.replicate b.toNat k.dflt) (Bq b.toNat z):=by rw[KD];exact Rows.replicate qU _
   have cD:=bI.length KC.rows_len;rw[List.length_replicate] at cD;have ht:=bI.take KC.rows_len a.toNat;rw[List.take_replicate,Nat.min_eq_left (by omega)] at ht;refine⟨.slice (some ⟨σ.n,0,none⟩) a.toNat b.toNat,σ.push (.cells (Bq b.toNat z) e true true),Je pl d (.slice (some ⟨σ.n,0,none⟩) a.toNat b.toNat),_,_,?_,h,hG.pushF d _ _ _ rfl ?_,?_⟩
   .simp only[Q6,e1,e2];rw[if_pos ⟨k3,k4,by simpa using k5,by simpa using k6⟩]
   .refine .inr ⟨rfl,σ.n,b.toNat,_,true,by rw[List.length_replicate],by simp;omega,?_,by rw[cD];exact Nat.le_refl _,?_⟩
    .rw[Heap.get_push_self,aE]
    .rw[List.length_replicate];exact ht
   .simp only[SR,XN];exact⟨trivial,_,_,_,rfl⟩
  .cases h
 .cases h
theorem Ak (ak:∀ x,SR P B pl tb (ev x) (evV x)) (hG:Gam P B F pl tb s env σ) {e:El}{bytes:Nat}{x y:Operand}(h:gn C d (.append e bytes x y) ev s K):NOk P B F tb (.append e bytes x y) evV env σ K (QC d (.append e bytes x y) ev) s pl:=by
 have ha:=ak x;simp only[gn] at h;split at h
 .rename_i k _;split at h
  .rename_i ys hy;obtain⟨cs,ay,vt,az,ck,sK⟩:=(XJ hG.leB hG.obj hy (ak y)).sl;have aj:cs.all cellOk=true:=ck.cellOk;have cD:=ck.length KC.rows_len;split at h
   .rename_i hx;have hT:QC d (.append e bytes x y) ev=d:=by simp only[QC,hx]
    rw[hT];rw[hx] at ha;simp only[SR] at ha;split at h
    .rename_i aE;simp only[RZ,Q85] at h;obtain⟨h1,h⟩:=h;rw[aE] at az;have base:Q6 (.append e bytes x y) evV σ=WA e bytes σ (.slice none 0 0) ys.length cs:=by
      simp only[Q6,sK] at az |-;simp only[az,aj,if_true,ha]
     by_cases hm:ys=[]
     .subst hm;refine⟨.slice none 0 0,σ,Je pl d (.slice none 0 0),_,_,by rw[base];rfl,h,?_,?_⟩
      .refine hG.makeF d _ _ hG.le (fun j i _ _ _=>rfl) (.inl ⟨rfl,rfl,rfl⟩) fun i _ hi=>by cases hi
      .simp only[SR,XN];exact⟨trivial,_,_,_,rfl⟩
     .have fC:ys.length≠0:=fun e=>hm (List.length_eq_zero_iff.1 e);refine⟨.slice (some ⟨σ.n,0,none⟩) ys.length ys.length,σ.push (.cells cs e true false),Je pl d (.slice (some ⟨σ.n,0,none⟩) ys.length ys.length),_,_,?_,h,hG.pushF d _ _ _ rfl ?_,?_⟩
      .rw[base];simp only[WA];rw[if_neg fC,if_pos (by simpa using h1)]
      .refine .inr ⟨Z1y hm,σ.n,ys.length,cs,false,rfl,Nat.le_refl _,?_,by omega,?_⟩
       .rw[Heap.get_push_self,aE]
       .rw[List.take_of_length_le (by omega)];exact ck
      .simp only[SR,XN];exact⟨trivial,_,_,_,rfl⟩
    .cases h
   .rename_i o hx;have hT:QC d (.append e bytes x y) ev=o:=by simp only[QC,hx]
    rw[hT];rw[hx] at ha;simp only[SR] at ha;have ao:=hG.obj o;split at h
    .rename_i ty k' xs nl ho;rw[ho] at ao;have aA:(Qd s.own o).live=true:=by rw[ho];rfl
     split at h
     .rename_i aE;obtain⟨jb,aE⟩:=aE;split at h
      .rename_i cI kI;obtain rfl:=Xd kI;obtain rfl:=Xf kI;simp only[RZ,Q85] at h;obtain⟨h1,h⟩:=h;rw[aE] at az;have base:Q6 (.append e bytes x y) evV σ=WA e bytes σ (pl o) ys.length cs:=by
        simp only[Q6,sK] at az |-;simp only[az,aj,if_true,ha.1]
       have he:e=⟨k'.size,ty⟩:=by cases e;simp only at jb aE;rw[jb,aE]
       rcases ao with⟨rfl,rfl,h3⟩|⟨rfl,i,cap,c,t,h3,h4,h5,h6,h7⟩
       .
        rw[h3] at base;by_cases hm:ys=[]
        .subst hm;refine⟨.slice none 0 0,σ,Je pl o (.slice none 0 0),_,_,by rw[base];rfl,h,?_,?_⟩
         .refine hG.makeF o _ _ hG.le (fun j i _ _ _=>rfl) (.inl ⟨rfl,rfl,rfl⟩) fun i _ hi=>by cases hi
         .simp only[SR,XN];exact⟨trivial,_,_,_,rfl⟩
        .have fC:ys.length≠0:=fun e=>hm (List.length_eq_zero_iff.1 e);refine⟨.slice (some ⟨σ.n,0,none⟩) ys.length ys.length,σ.push (.cells cs e true false),Je pl o (.slice (some ⟨σ.n,0,none⟩) ys.length ys.length),_,_,?_,h,hG.pushF o _ _ _ rfl ?_,?_⟩
         .rw[base];simp only[WA];rw[if_neg fC,if_pos (by simpa using h1)]
         .rw[List.nil_append];refine .inr ⟨Z3q hm _,σ.n,ys.length,cs,false,rfl,Nat.le_refl _,?_,by omega,?_⟩
          .rw[Heap.get_push_self,he]
          .rw[List.take_of_length_le (by omega)];exact ck
         .simp only[SR,XN];exact⟨trivial,_,_,_,rfl⟩
       .rw[h3] at base;have k1:cI.length*k'.size<=cap*k'.size:=Nat.mul_le_mul_right _ h4;have bD:F.get i=none:=hG.fresh o i aA (by rw[h3];rfl);have cq:∀ j i',j≠o->(Qd s.own j).live=true->Oid (pl j) i'->i'≠i:=fun j i' hj hl hi e=>by
         subst e;exact hG.sep j o i' hj hl aA hi (by rw[h3];rfl)
        have ai:e=e/\cI.length<=cap/\0+cI.length*e.sz<=c.length:=⟨rfl,h4,by rw[<-aE];omega⟩;simp only[WA,h5] at base;rw[<-he,if_pos ai] at base;by_cases hm:ys=[]
        .subst hm;simp only[List.length_nil,if_true] at base;refine⟨_,σ,Je pl o (pl o),_,_,base,h,?_,?_⟩
         .refine hG.makeF o _ _ hG.le (fun j i _ _ _=>rfl) (.inr ⟨rfl,i,cap,c,t,?_,?_,h5,h6,?_⟩) fun i' _ hi=>?_
          .rw[h3];simp
          .simpa using h4
          .simpa using h7
          .rw[h3] at hi;obtain rfl:=osj hi;exact⟨bD,fun j hj hl e=>cq j _ hj hl e rfl⟩
         .simp only[SR,XN,h3];exact⟨trivial,_,_,_,rfl⟩
        .have fC:ys.length≠0:=fun e=>hm (List.length_eq_zero_iff.1 e);have lu:(ys.isEmpty&&false)=false:=by simp
         have mL:Rows (KC B k') (cI++ys) (c.take (cI.length*k'.size)++cs):=h7.append ck;have ga:=mL.length KC.rows_len;rw[if_neg fC] at base;by_cases a7:cI.length+ys.length<=cap
         .have fQ:(cI.length+ys.length)*k'.size<=cap*k'.size:=Nat.mul_le_mul_right _ a7;have dW:cI.length*k'.size+ys.length*k'.size<=cap*k'.size:=by rw[<-Nat.add_mul];exact fQ
          rw[if_pos a7,if_pos ⟨trivial,by rw[<-aE];omega⟩] at base;refine⟨_,_,Je pl o (.slice (some ⟨i,0,none⟩) (cI.length+ys.length) cap),_,_,base,h,?_,?_⟩
          .refine hG.makeF o _ _ (hG.le.upd bD _) (fun j i' hj hl hi=>Heap.get_upd_ne _ _ (cq j i' hj hl hi)) (.inr ⟨lu,i,cap,Wz c (0+cI.length*e.sz) cs,t,by rw[List.length_append],by rw[List.length_append];exact a7,?_,?_,?_⟩) fun i' _ hi=>?_
           .rw[Heap.get_upd_self _ _ (σ.lt h5),he]
           .rw[J_];exact h6
           .have eZ:0+cI.length*e.sz+cs.length<=c.length:=by rw[<-aE];omega
            rw[UM eZ,<-aE,Nat.zero_add,List.take_left' (by rw[ga])];exact mL
           .obtain rfl:=osj hi;exact⟨bD,fun j hj hl e=>cq j _ hj hl e rfl⟩
          .simp only[SR,XN];exact⟨trivial,_,_,_,rfl⟩
         .rw[if_neg a7,if_pos (by simpa using h1)] at base;have jQ:((c.drop 0).take (cI.length*e.sz)++cs)=c.take (cI.length*k'.size)++cs:=by rw[List.drop_zero,aE]
          cases t with
          |true =>
           simp only[if_true] at base;rw[jQ] at base;refine⟨_,_,Je pl o (.slice (some ⟨σ.n,0,none⟩) (cI.length+ys.length) (cI.length+ys.length)),_,_,base,h,hG.pushF o _ _ _ rfl (.inr ⟨lu,σ.n,cI.length+ys.length,c.take (cI.length*k'.size)++cs,false,by rw[List.length_append],by rw[List.length_append];exact Nat.le_refl _,?_,?_,?_⟩),?_⟩
           .rw[Heap.get_push_self,he]
           .rw[ga,List.length_append];exact Nat.le_refl _
           .rw[List.take_of_length_le (by rw[ga];exact Nat.le_refl _)];exact mL
           .simp only[SR,XN];exact⟨trivial,_,_,_,rfl⟩
          |false =>
           simp only[Bool.false_eq_true,if_false,if_true] at base;rw[jQ] at base;have hn:(σ.kill i).n=σ.n:=rfl;refine⟨_,_,Je pl o (.slice (some ⟨σ.n,0,none⟩) (cI.length+ys.length) (cI.length+ys.length)),_,_,base,h,?_,?_⟩
           .refine hG.makeF o _ _ ((hG.le.kill bD).push _) (fun j i' hj hl hi=>?_) (.inr ⟨lu,σ.n,cI.length+ys.length,c.take (cI.length*k'.size)++cs,false,by rw[List.length_append],by rw[List.length_append];exact Nat.le_refl _,?_,?_,?_⟩) fun i' _ hi=>?_
            .rw[Heap.get_push_lt _ _ (by rw[hn];exact(hG.obj j).id_lt hl hi)];exact Heap.get_kill_ne _ (cq j i' hj hl hi)
            .rw[<-hn,Heap.get_push_self,he]
            .rw[ga,List.length_append];exact Nat.le_refl _
            .rw[List.take_of_length_le (by rw[ga];exact Nat.le_refl _)];exact mL
            .obtain rfl:=osj hi;exact⟨hG.le.fresh,fun j _ hl e=>Nat.lt_irrefl σ.n ((hG.obj j).id_lt hl e)⟩
           .simp only[SR,XN];exact⟨trivial,_,_,_,rfl⟩
      .cases h
     .cases h
    .cases h
   .cases h
  .cases h
 .cases h
theorem OS (ak:∀ x,SR P B pl tb (ev x) (evV x)) (hG:Gam P B F pl tb s env σ) {size:Nat}{a x:Operand}(h:gn C d (.store size a x) ev s K):NOk P B F tb (.store size a x) evV env σ K (QC d (.store size a x) ev) s pl:=by
 have ha:=ak a;simp only[gn] at h;split at h
 .rename_i o off vs h1 h2;have hT:QC d (.store size a x) ev=o:=by simp only[QC,h1]
  rw[hT];obtain⟨us,h3,h4,h5⟩:=We h2 (ak x);rw[h1] at ha;simp only[SR] at ha;obtain⟨b,h6,h7⟩:=ha;have ao:=hG.obj o;split at h
  .rename_i l u ho;rw[ho] at ao;have aA:(Qd s.own o).live=true:=by rw[ho];rfl
   obtain⟨i,c,e,t,h8,h9,cf,gP⟩:=ao;rw[h6] at h8;obtain rfl:=(by simpa using h8:b=i);split at h
   .rename_i hc;have bD:F.get b=none:=hG.fresh o b aA (by rw[h6];rfl);have cq:∀ j i',j≠o->(Qd s.own j).live=true->Oid (pl j) i'->i'≠b:=fun j i' hj hl hi e=>by
     subst e;exact hG.sep j o i' hj hl aA hi (by rw[h6];rfl)
    refine⟨undef,σ.upd b (.cells (Wz c off us) e true t),pl,_,_,?_,h,hG.writeF o _ (hG.le.upd bD _) aA (fun j i' hj hl hi=>Heap.get_upd_ne _ _ (cq j i' hj hl hi)) ?_,by simp[SR]⟩
    .simp only[Q6,h7,h3,h9];rw[if_pos ⟨trivial,by rw[<-h4.length];exact hc.1,by rw[<-cf.length];exact hc.2,h5⟩]
    .exact⟨b,_,e,t,h6,Heap.get_upd_self _ _ (σ.lt h9),GM cf h4,gP⟩
   .cases h
  .cases h
 .rename_i o i off sz vs h1 h2;have hT:QC d (.store size a x) ev=o:=by simp only[QC,h1]
  rw[hT];obtain⟨us,h3,h4,h5⟩:=We h2 (ak x);rw[h1] at ha;simp only[SR] at ha;obtain⟨b,len,cap,h6,h7,h8,h9⟩:=ha;have ao:=hG.obj o;split at h
  .rename_i ty k xs nl ho;rw[ho] at ao;have aA:(Qd s.own o).live=true:=by rw[ho];rfl
   rcases ao with⟨_,_,k3⟩|⟨rfl,i',aq,c,t,k3,k4,k5,k6,k7⟩
   .rw[h6] at k3;cases k3
   .rw[h6] at k3;obtain⟨rfl,rfl,rfl⟩:=(by simpa using k3:b=i'/\len=xs.length/\cap=aq);have bD:F.get b=none:=hG.fresh o b aA (by rw[h6];rfl);have cq:∀ j i',j≠o->(Qd s.own j).live=true->Oid (pl j) i'->i'≠b:=fun j i' hj hl hi e=>by
     subst e;exact hG.sep j o i' hj hl aA hi (by rw[h6];rfl)
    have hi:i.toNat<xs.length:=by omega
    have aE:(i.toNat+1)*k.size<=xs.length*k.size:=Nat.mul_le_mul_right _ hi;rw[Nat.add_mul,Nat.one_mul] at aE;have k8:=Nat.mul_le_mul_right k.size k4
    have fin:∀ (y:k.T) (us:List Value) (dH:Nat),dH+us.length<=k.size->KC B k y (Wz (((c.take (xs.length*k.size)).drop (i.toNat*k.size)).take k.size) dH us) ->
      Gam P B F pl tb ⟨s.env,oset s.own o (.lst ty k (xs.set i.toNat y) false),s.nx⟩ env (σ.upd b (.cells (Wz c (i.toNat*k.size+dH) us) ⟨k.size,ty⟩ true t))/\Fr o s ⟨s.env,oset s.own o (.lst ty k (xs.set i.toNat y) false),s.nx⟩ pl pl σ (σ.upd b (.cells (Wz c (i.toNat*k.size+dH) us) ⟨k.size,ty⟩ true t)):=by
     intro y us dH nY hk;refine hG.writeF o _ (hG.le.upd bD _) aA (fun j i' hj hl hi=>Heap.get_upd_ne _ _ (cq j i' hj hl hi)) (.inr ⟨rfl,b,cap,Wz c (i.toNat*k.size+dH) us,t,by rw[h6];simp,by simpa using k4,Heap.get_upd_self _ _ (σ.lt k5),by rw[J_];exact k6,?_⟩);have bg:=k7.set KC.rows_len hi hk;rw[List.length_set];rw[E6 us c (m:=xs.length*k.size) (p:=i.toNat*k.size) (n:=k.size) (off:=dH) nY aE (by omega)];exact bg
    have bI:=k7.at KC.rows_len hi;have ga:=KC.length bI;split at h
    .rename_i hc;obtain⟨rfl,rfl,rfl⟩:=hc;split at h
     .rename_i y hy;have hk:=QB hy h4;have hl:=KC.length hk;refine⟨undef,σ.upd b (.cells (Wz c (i.toNat*k.size+0) us) ⟨k.size,ty⟩ true t),pl,_,_,?_,h,fin y us 0 (by omega) ?_,by simp[SR]⟩
      .simp only[Q6,h9,h3,k5];rw[if_pos ⟨trivial,hl,by omega,h5⟩]
      .rw[UM (by omega),Nat.zero_add,List.take_zero,List.nil_append,List.drop_of_length_le (by omega),List.append_nil];exact hk
     .cases h
    .split at h
     .rename_i hc;obtain⟨rfl,pI,rfl,bp⟩:=hc;split at h
      .rename_i y hy;obtain⟨v0,rfl⟩:∃ v0,vs=[v0]:=by
        cases vs with
        |nil=>cases pI
        |cons a r=>cases r with
         |nil=>exact⟨a,rfl⟩
         |cons _ _=>simp at pI
       obtain⟨u0,rfl,vu⟩:=h4.one;have hx:xs.getD i.toNat k.dflt=xs[i.toNat]:=by simp[List.getD_eq_getElem?_getD,List.getElem?_eq_getElem hi]
       rw[hx] at hy;refine⟨undef,σ.upd b (.cells (Wz c (i.toNat*k.size+off) [u0]) ⟨k.size,ty⟩ true t),pl,_,_,?_,h,fin y [u0] off (by simp;omega) (GS hy bI vu bp),by simp[SR]⟩;simp only[Q6,h9,h3,k5];rw[if_pos ⟨trivial,rfl,by omega,h5⟩]
      .cases h
     .cases h
  .cases h
 .cases h
theorem HX (ak:∀ x,SR P B pl tb (ev x) (evV x)) (hG:Gam P B F pl tb s env σ) {mk:MK}{m kx vx:Operand}(h:gn C d (.ext (.mapUpdate mk m kx vx)) ev s K):NOk P B F tb (.ext (.mapUpdate mk m kx vx)) evV env σ K (QC d (.ext (.mapUpdate mk m kx vx)) ev) s pl:=by
 have ha:=ak m;simp only[gn] at h;split at h
 .rename_i o h1;have hT:QC d (.ext (.mapUpdate mk m kx vx)) ev=o:=by simp only[QC,h1]
  rw[hT];rw[h1] at ha;simp only[SR] at ha;have ao:=hG.obj o;split at h
  .rename_i kk vk l ho;rw[ho] at ao;have aA:(Qd s.own o).live=true:=by rw[ho];rfl
   obtain⟨id,es,clock,h2,h3,h4⟩:=ao;split at h
   .rename_i hc;have ez:=hc;split at h
    .rename_i key x cM hx;have hk:=HV cM (ak kx) QB;have hv:=HV hx (ak vx) QB;have bD:F.get id=none:=hG.fresh o id aA (by rw[h2];rfl);have cq:∀ j i',j≠o->(Qd s.own j).live=true->Oid (pl j) i'->i'≠id:=fun j i' hj hl hi e=>by
      subst e;exact hG.sep j o i' hj hl aA hi (by rw[h2];rfl)
     have aP:σ.mapAt id=some (es,clock,true):=by simp[Heap.mapAt,h3]
     refine⟨undef,σ.upd id (.obj (.map (QO (evV kx) (evV vx) clock es).1 (QO (evV kx) (evV vx) clock es).2) true),pl,_,_,?_,h,hG.writeF o _ (hG.le.upd bD _) aA (fun j i' hj hl hi=>Heap.get_upd_ne _ _ (cq j i' hj hl hi)) ?_,by simp[SR]⟩
     .simp only[Q6,Z5,ha.1,h2,aP];rw[if_pos (by rw[TI ez hk,h4.1.keys ez];rfl)]
     .exact⟨id,_,_,h2,Heap.get_upd_self _ _ (σ.lt h3),T6 ez hk hv h4.1,h4.2.put⟩
    .cases h
   .cases h
  .cases h
 .cases h
theorem HQ (hG:Gam P B F pl tb s env σ) {o ty:Nat}{k:Kind}{xs ys:List k.T}{nl:Bool}(ho:Qd s.own o=.lst ty k xs nl) {size lo n:Nat}(aE:k.size=size) (pa:lo+n<=xs.length) {dv sv:Value}{a b:Operand}(kg:evV a=dv) (sL:evV b=sv)
  (hs:SlRel σ k.size (KC B k) ys sv) (hd:(n=0/\∃ c,dv=.slice none 0 c\/∃ x,dv=.slice x 0 c)\/∃ i len cap aq,pl o=.slice (some ⟨i,0,none⟩) len cap/\dv=.slice (some ⟨i,lo*size,none⟩) n aq)
  {s':St}(aX:s'=⟨s.env,oset s.own o (.lst ty k (xs.take lo++(ys.take n++xs.drop (lo+Nat.min ys.length n))) nl),s.nx⟩) (h:K (.val (.i .i64) (Nat.min ys.length n:Nat)) s'):NOk P B F tb (.ext (.copy size a b)) evV env σ K o s pl:=by
 subst aX;have aA:(Qd s.own o).live=true:=by rw[ho];rfl
 have ao:=hG.obj o;rw[ho] at ao;by_cases hm:Nat.min ys.length n=0
 .have nZ:xs.take lo++(ys.take n++xs.drop (lo+Nat.min ys.length n))=xs:=by
   rw[hm,Nat.add_zero];have:ys.take n=[]:=by
    have:min ys.length n=0:=hm;rcases Nat.le_total ys.length n with h|h
    .have:ys.length=0:=by omega
     rw[List.length_eq_zero_iff.1 this];simp
    .have:n=0:=by omega
     rw[this];rfl
   rw[this,List.nil_append,List.take_append_drop]
  refine⟨.int .i64 0,σ,pl,_,_,?_,h,?_,?_⟩
  .obtain⟨aa,cc,e⟩:=hs.len;have nX:∃ x c,dv=.slice x n c:=by
    rcases hd with⟨rfl,c,hd|⟨x,hd⟩⟩|⟨i,len,cap,aq,_,hd⟩
    .exact⟨_,_,hd⟩
    .exact⟨_,_,hd⟩
    .exact⟨_,_,hd⟩
   obtain⟨x,c,nX⟩:=nX;simp only[Q6,Z5,kg,sL,nX,e];rw[if_pos (show min ys.length n=0 from hm)]
  .rw[nZ];exact hG.writeF o _ hG.le aA (fun _ _ _ _ _=>rfl) ao
  .rw[hm];exact Jz _ _
 .have pJ:0<min ys.length n:=Nat.pos_of_ne_zero hm;have mG:Nat.min ys.length n<=n:=Nat.min_le_right _ _;have w_:Nat.min ys.length n<=ys.length:=Nat.min_le_left _ _;rcases hd with⟨rfl,_⟩|⟨i,len,cap,aq,h1,h2⟩
  .simp at pJ
  rcases hs with⟨rfl,_⟩|⟨si,so,jH,sc,se,xc,st,h3,h4,h5,h6,h7,h8⟩
  .simp at pJ
  rcases ao with⟨_,_,h9⟩|⟨rfl,i',fk,c,t,h9,cf,gP,nW,pK⟩
  .rw[h1] at h9;cases h9
  rw[h1] at h9;obtain⟨rfl,rfl,rfl⟩:=(by simpa using h9:i=i'/\len=xs.length/\cap=fk);have bD:F.get i=none:=hG.fresh o i aA (by rw[h1];rfl);have cq:∀ j i',j≠o->(Qd s.own j).live=true->Oid (pl j) i'->i'≠i:=fun j i' hj hl hi e=>by subst e;exact hG.sep j o i' hj hl aA hi (by rw[h1];rfl)
  have bI:=h8.take KC.rows_len (Nat.min ys.length n);have n6:Nat.min ys.length n*k.size<=ys.length*k.size:=Nat.mul_le_mul_right _ (Nat.min_le_left _ _);rw[List.take_take,Nat.min_eq_left n6] at bI;have aj:=bI.cellOk;have hlen:((sc.drop so).take (Nat.min ys.length n*k.size)).length=Nat.min ys.length n*k.size:=by rw[bI.length KC.rows_len,show (ys.take (Nat.min ys.length n)).length=Nat.min ys.length n by rw[List.length_take];exact Nat.min_eq_left (Nat.min_le_left _ _)]
  have jd:σ.sl size (.slice (some ⟨si,so,none⟩) (min ys.length n) jH)=some ((sc.drop so).take (Nat.min ys.length n*k.size)):=by simp only[Heap.sl,h5];rw[if_pos ⟨by rw[h6,aE],by rw[<-aE];have:min ys.length n*k.size<=ys.length*k.size:=n6;omega⟩,<-aE]
  have aQ:lo*k.size+Nat.min ys.length n*k.size<=xs.length*k.size:=by rw[<-Nat.add_mul];exact Nat.mul_le_mul_right _ (by omega)
  have dM:=Nat.mul_le_mul_right k.size cf;refine⟨.int .i64 (Nat.min ys.length n:Nat),σ.upd i (.cells (Wz c (lo*k.size) ((sc.drop so).take (Nat.min ys.length n*k.size))) ⟨k.size,ty⟩ true t),pl,_,_,?_,h,?_,Jz _ _⟩
  .simp only[Q6,Z5,kg,sL,h2,h3];rw[if_neg (show ¬ min ys.length n=0 from hm)];simp only[jd,gP];rw[if_pos ⟨trivial,aE,by rw[hlen,<-aE];omega,aj⟩,<-aE]
  .have lS:(xs.take lo++(ys.take n++xs.drop (lo+Nat.min ys.length n))).length=xs.length:=by
    have:Nat.min ys.length n=min n ys.length:=Nat.min_comm _ _;simp only[List.length_append,List.length_take,List.length_drop];omega
   refine hG.writeF o _ (hG.le.upd bD _) aA (fun j i' hj hl hi=>Heap.get_upd_ne _ _ (cq j i' hj hl hi)) (.inr ⟨rfl,i,cap,_,t,by rw[lS];exact h1,by rw[lS];exact cf,Heap.get_upd_self _ _ (σ.lt gP),by rw[J_];exact nW,?_⟩);rw[lS];have e1:=E6 ((sc.drop so).take (Nat.min ys.length n*k.size)) c (m:=xs.length*k.size) (p:=lo*k.size) (n:=Nat.min ys.length n*k.size) (off:=0) (by omega) aQ (by omega);rw[Nat.add_zero] at e1;rw[e1];have e2:Wz (((c.take (xs.length*k.size)).drop (lo*k.size)).take (Nat.min ys.length n*k.size)) 0 ((sc.drop so).take (Nat.min ys.length n*k.size))=(sc.drop so).take (Nat.min ys.length n*k.size):=by
    have l1:(((c.take (xs.length*k.size)).drop (lo*k.size)).take (Nat.min ys.length n*k.size)).length=Nat.min ys.length n*k.size:=by simp;omega
    generalize ((c.take (xs.length*k.size)).drop (lo*k.size)).take (Nat.min ys.length n*k.size)=row at l1;generalize (sc.drop so).take (Nat.min ys.length n*k.size)=us at hlen;rw[UM (by omega),Nat.zero_add,List.take_zero,List.nil_append,List.drop_of_length_le (by omega),List.append_nil]
   rw[e2,List.append_assoc];have e3:ys.take n=ys.take (Nat.min ys.length n):=by
    rcases Nat.le_total ys.length n with h|h
    .rw[show Nat.min ys.length n=ys.length from Nat.min_eq_left h,List.take_of_length_le h,List.take_of_length_le (Nat.le_refl _)]
    .rw[show Nat.min ys.length n=n from Nat.min_eq_right h]
   rw[e3];have hd:=pK.drop KC.rows_len (lo+Nat.min ys.length n);rw[Nat.add_mul] at hd;exact(pK.take KC.rows_len lo).append (bI.append hd)
theorem HY (ak:∀ x,SR P B pl tb (ev x) (evV x)) (hG:Gam P B F pl tb s env σ) {e:Nat}{a n:Operand}(h:gn C d (.ext (.unsafeStr e a n)) ev s K):NOk P B F tb (.ext (.unsafeStr e a n)) evV env σ K (QC d (.ext (.unsafeStr e a n)) ev) s pl:=by
 have ha:=ak a;simp only[gn] at h;split at h
 .rename_i k h1 h2;have hn:=Zm h2 (ak n);obtain⟨hk,hK⟩:=h;have hk:k=0:=hk;rw[h1] at ha;simp only[SR] at ha;refine⟨.string ⟨#[]⟩,σ,pl,_,_,?_,hK,⟨hG,fun q _=>⟨rfl,rfl,fun _ _ _=>rfl⟩⟩,P1 []⟩;simp only[Q6,Z5,ha,hn,hk,if_true]
 .rename_i o k h1 h2;have hn:=Zm h2 (ak n);have hT:QC d (.ext (.unsafeStr e a n)) ev=o:=by simp only[QC,h1]
  rw[hT];rw[h1] at ha;simp only[SR,DR] at ha;split at h
  .rename_i ty xs nl ho;split at h
   .rename_i jb;obtain⟨hk,hlen,hK⟩:=h;have hk:k=xs.length:=hk;have hlen:xs.length<=4611686018427387904:=hlen;have ao:=hG.obj o;rw[ho] at ao;have bE:∀ {σ':Heap},F.Le σ'->(∀ j i,j≠o->(Qd s.own j).live=true->Oid (pl j) i->σ'.get i=σ.get i)->Gam P B F (Je pl o poison) tb (s.make o .dead) env σ'/\Fr o s (s.make o .dead) pl (Je pl o poison) σ σ':=fun {σ'} h3 h4 =>
     hG.makeF o .dead poison h3 h4 trivial fun i hl=>by cases hl
    rcases ao with⟨_,hx,hp⟩|⟨_,i,cap,c,t,hp,cW,hg,cD,ck⟩
    .subst hx;refine⟨.string ⟨#[]⟩,σ,_,_,_,?_,hK,bE hG.le (fun _ _ _ _ _=>rfl),P1 []⟩;rcases ha with⟨_,hv⟩|⟨b,n',aq,hv,mE,_⟩
     .simp only[Q6,Z5,hv,hn,hk];rfl
     .rw[hp] at hv;cases hv
    .rcases ha with⟨hv,_⟩|⟨b,n',aq,hv,mE,vw⟩
     .rw[hp] at hv;cases hv
     .rw[hp] at hv;have hv:=hv;simp only[phd,Value.slice.injEq,Option.some.injEq] at hv;obtain⟨hb,n7,_⟩:=hv;have vz:i=b:=by injection hb
      subst vz;subst n7;have aE:Kind.size (.i .u8)=1:=rfl;rw[aE,Nat.mul_one] at ck cD;have na:=L3 ck;have aA:(Qd s.own o).live=true:=by rw[ho];rfl
      have bD:F.get i=none:=hG.fresh o i aA (by rw[hp];rfl);refine⟨.string ⟨(xs.map fun x=>x.toNat.toUInt8).toArray⟩,σ.upd i (.cells c ⟨1,ty⟩ false t),_,_,_,?_,hK,bE (hG.le.upd bD _) (fun j i' hj hl hi=>Heap.get_upd_ne _ _ fun e=>by
       subst e;exact hG.sep j o i' hj hl aA hi (by rw[hp];rfl)),P1 _⟩
      have iA:¬ k=0:=by omega
      have jr:k.toNat=xs.length:=by omega
      simp only[Q6,Z5,vw,hn,if_neg iA,hg,aE];rw[if_pos ⟨by omega,by omega,jb,by omega⟩];simp only[List.drop_zero,jr,na]
   .cases h
  .cases h
 .cases h
theorem Q3u (ak:∀ x,SR P B pl tb (ev x) (evV x)) (hG:Gam P B F pl tb s env σ) {size:Nat}{a b:Operand}(h:gn C d (.ext (.copy size a b)) ev s K):NOk P B F tb (.ext (.copy size a b)) evV env σ K (QC d (.ext (.copy size a b)) ev) s pl:=by
 have ha:=ak a;simp only[gn] at h;split at h
 .rename_i o h1;have hT:QC d (.ext (.copy size a b)) ev=o:=by simp only[QC,h1]
  rw[hT];rw[h1] at ha;simp only[SR] at ha;split at h
  .rename_i ty k xs nl ho;split at h
   .rename_i aE;split at h
    .rename_i ys hy;have hs:=XJ hG.leB hG.obj hy (ak b);have ao:=hG.obj o;rw[ho] at ao;refine HQ hG ho (lo:=0) (n:=xs.length) aE (by omega) ha.1 rfl hs ?_ ?_ h
     .rcases ao with⟨_,rfl,h3⟩|⟨_,i,cap,c,t,h3,_⟩
      .exact .inl ⟨rfl,0,.inl h3⟩
      .exact .inr ⟨i,_,cap,cap,h3,by rw[h3];simp⟩
     .have:xs.drop ys.length=xs.drop (0+Nat.min ys.length xs.length):=by
       rcases Nat.le_total ys.length xs.length with h|h
       .rw[show Nat.min ys.length xs.length=ys.length from Nat.min_eq_left h,Nat.zero_add]
       .rw[show Nat.min ys.length xs.length=xs.length from Nat.min_eq_right h,Nat.zero_add,List.drop_of_length_le h,List.drop_of_length_le (Nat.le_refl _)]
      rw[this];rfl
    .cases h
   .cases h
  .cases h
 .rename_i o lo n sz h1;have hT:QC d (.ext (.copy size a b)) ev=o:=by simp only[QC,h1]
  rw[hT];rw[h1] at ha;simp only[SR] at ha;split at h
  .rename_i ty k xs nl ho;split at h
   .rename_i aE;split at h
    .rename_i ys hy;have hs:=XJ hG.leB hG.obj hy (ak b);have ao:=hG.obj o;rw[ho] at ao;rcases ha with⟨rfl,rfl,h2,h3⟩|⟨i,len,cap,aq,h2,h3,h4,h5⟩
     .refine HQ hG ho (lo:=0) (n:=0) aE.1 (by omega) h2 rfl hs (.inl ⟨rfl,0,.inl rfl⟩) rfl h
     .rcases ao with⟨_,_,h6⟩|⟨_,i',fk,c,t,h6,_⟩
      .rw[h2] at h6;cases h6
      .rw[h2] at h6;obtain⟨rfl,rfl,rfl⟩:=(by simpa using h6:i=i'/\len=xs.length/\cap=fk);exact HQ hG ho (lo:=lo) (n:=n) aE.1 h3 h5 rfl hs (.inr ⟨i,_,cap,aq,h2,by rw[aE.2]⟩) rfl h
    .cases h
   .cases h
  .cases h
 .cases h
end
theorem IW (hG:Gam P B F pl tb s env σ) (d:Nat) (kk vk:Kind):Gam P B F (Je pl d (.map (some σ.n))) tb (s.make d (.map kk vk [])) env (σ.push (.obj (.map [] 0) true))/\SR P B (Je pl d (.map (some σ.n))) tb (.map d) (.map (some σ.n)):=by refine⟨hG.push d _ _ _ rfl ⟨σ.n,[],0,rfl,Heap.get_push_self _ _,rfl,List.nodup_nil,fun _ h=>by cases h⟩,?_⟩;simp only[SR,XN];exact⟨trivial,_,rfl⟩
end
end Go.V
namespace Go.V
open Go
def Q16 (ρ1 ρ2:Plc):Prop:=∀ i p2,ρ2 i=some p2->∃ p1,ρ1 i=some p1/\p2.blk=p1.blk/\p2.shift=p1.shift/\p2.ext=p1.ext/\p2.esz=p1.esz/\(p2.tight=true->p1.tight=true)
theorem VRel.loose {ρ1 ρ2:Plc}{n:Nat}(hl:Q16 ρ1 ρ2) {v c:Value}(h:VRel ρ1 n v c):VRel ρ2 n v c:=by
 induction h with
 |poison c=>exact .poison c
 |bool b=>exact .bool b
 |int k x=>exact .int k x
 |string s=>exact .string s
 |nilPtr=>exact .nilPtr
 |nilSl=>exact .nilSl
 |nilMap=>exact .nilMap
 |nilFunc=>exact .nilFunc
 |nilIface=>exact .nilIface
 |glob g o s=>exact .glob g o s
 |ptr i o a hi h =>refine .ptr i o a hi fun p hp=>?_;obtain⟨p1,h1,h2,h3,_⟩:=hl i p hp;rw[h2,h3];exact h p1 h1
 |sl i o len cap a aq hi h =>refine .sl i o len cap a aq hi fun p hp=>?_;obtain⟨p1,h1,h2,h3,h4,h5,h6⟩:=hl i p hp;obtain⟨k1,k2,k3⟩:=h p1 h1;rw[h2,h3,h4,h5];exact⟨k1,fun ht=>k2 (h6 ht),k3⟩
 |slx i o len cap a hi h =>refine .slx i o len cap a hi fun p hp=>?_;obtain⟨p1,h1,h2,h3,h4,h5,h6⟩:=hl i p hp;rw[h2,h3,h4,h5];exact h p1 h1
 |map i r hi h =>refine .map i r hi fun p hp=>?_;obtain⟨p1,h1,h2,_⟩:=hl i p hp;rw[h2];exact h p1 h1
 |yield i r hi h =>refine .yield i r hi fun p hp=>?_;obtain⟨p1,h1,h2,_⟩:=hl i p hp;rw[h2];exact h p1 h1
 |iface t v c _ ih=>exact .iface t v c ih
 |func fn fs gs cs ds hf hc _ _ kU kV=>exact .func fn fs gs cs ds hf hc kU kV
 |agg cs ds hc _ ih=>exact .agg cs ds hc ih
 |tuple cs ds hc _ ih=>exact .tuple cs ds hc ih
theorem LRel.loose {ρ1 ρ2:Plc}{n:Nat}(hl:Q16 ρ1 ρ2) {v c:List Value}(h:LRel ρ1 n v c):LRel ρ2 n v c:=⟨h.1,fun i a b h1 h2=>(h.2 i a b h1 h2).loose hl⟩
theorem ORel.loose {ρ1 ρ2:Plc}{n:Nat}(hl:Q16 ρ1 ρ2) {o:VObj}{O:Obj}(h:ORel ρ1 n o O):ORel ρ2 n o O:=by
 cases o with
 |map es clock =>obtain⟨entries,h1,h2,h3⟩:=h;exact⟨entries,h1,h2,fun k kv hk=>let ⟨e,he,h4,h5,hv⟩:=h3 k kv hk;⟨e,he,h4,h5,hv.loose hl⟩⟩
 |iter m since seen last=>obtain⟨rm,h1,h2⟩:=h;exact⟨rm,h1,h2.loose hl⟩
 |lp env r st pend=>exact⟨h.1,h.2.loose hl⟩
inductive Weak (n0:Nat->Prop):Value->Value->Prop
 |refl (v:Value):Weak n0 v v
 |sl (i len cap:Nat) (hi:n0 i) (hc:len<=cap):Weak n0 (.slice (some ⟨i,0,none⟩) len cap) (.slice (some ⟨i,0,none⟩) len len)
 |agg (cs ds:List Value) (hc:cs.length=ds.length) (h:∀ (i:Nat) (a b:Value),cs[i]?=some a->ds[i]?=some b->Weak n0 a b):Weak n0 (.agg cs.toArray) (.agg ds.toArray)
 |tuple (cs ds:List Value) (hc:cs.length=ds.length) (h:∀ (i:Nat) (a b:Value),cs[i]?=some a->ds[i]?=some b->Weak n0 a b):Weak n0 (.tuple cs.toArray) (.tuple ds.toArray)
theorem Weak.rel {ρ:Plc}{n:Nat}{n0:Nat->Prop}(hρ:∀ i p,n0 i->ρ i=some p->p.tight=false) {v v':Value}(h:Weak n0 v v'):∀ {c:Value},VRel ρ n v c->VRel ρ n v' c:=by
 induction h with
 |refl v=>exact fun h=>h
 |sl i len cap hi hc =>
  intro c h;cases h with
  |sl _ _ _ _ a aq cG h =>
   refine .sl _ _ _ _ _ _ cG fun p hp=>?_;obtain⟨k1,k2,o',k3,k4,k5⟩:=h p hp;refine⟨by omega,(fun ht=>by rw[hρ i p hi hp] at ht;cases ht),o',k3,k4,?_⟩;rcases k5 with k5|k5
   .exact .inl k5
   .exact .inr ⟨k5.1,k5.1⟩
 |agg cs ds hc h ih =>
  intro c hr;cases hr with
  |agg _ es cJ hr =>
   refine .agg _ _ (by simpa [hc] using cJ) fun i h1 h2=>?_;have l1:i<cs.length:=by simpa [hc] using h1
   have l2:i<ds.length:=by simpa using h1
   have:=ih i cs[i] ds[i] (List.getElem?_eq_getElem l1) (List.getElem?_eq_getElem l2) (hr i (by simpa using l1) h2);simpa using this
 |tuple cs ds hc h ih =>
  intro c hr;cases hr with
  |tuple _ es cJ hr =>
   refine .tuple _ _ (by simpa [hc] using cJ) fun i h1 h2=>?_;have l1:i<cs.length:=by simpa [hc] using h1
   have l2:i<ds.length:=by simpa using h1
   have:=ih i cs[i] ds[i] (List.getElem?_eq_getElem l1) (List.getElem?_eq_getElem l2) (hr i (by simpa using l1) h2);simpa using this
theorem DropTo.trans {σ0 σ1 σ2 σ3:Heap}{v1 v2 v3:Value}(h:DropTo σ0 v1 σ1 v2 σ2) (k:DropTo σ0 v2 σ2 v3 σ3):DropTo σ0 v1 σ1 v3 σ3:=by intro ρ0 w0 ρ w c fw hE hH hv;obtain⟨ρ',gx,fP,bZ⟩:=h ρ0 w0 ρ w c fw hE hH hv;exact k ρ0 w0 ρ' w c fw bZ fP gx
theorem DropTo.weaken {σ0 σ1 σ2:Heap}{v v':Value}(S:Nat->Bool) (hS:∀ i,S i=true->σ0.n<=i) (hn:σ2.n=σ1.n) (h0:σ0.n<=σ1.n) (h1:∀ i,S i=false->σ2.get i=σ1.get i)
  (h2:∀ i,S i=true->∃ c e wr t m,σ1.get i=some (.cells c e wr t)/\σ2.get i=some (.cells (c.take m) e wr false)) (hv:Weak (fun i=>S i=true) v v'):DropTo σ0 v σ1 v' σ2:=by
 intro ρ0 w0 ρ w c fw hE hH eD;let ρ':Plc:=fun i=>if S i=false then ρ i else (ρ i).map fun p=>{p with tight:=false}
 have hl:Q16 ρ ρ':=fun i p2 hp=>by
  change (if S i=false then ρ i else (ρ i).map fun p=>{p with tight:=false})=some p2 at hp;by_cases hi:S i=false
  .rw[if_pos hi] at hp;exact⟨p2,hp,rfl,rfl,rfl,rfl,fun h=>h⟩
  .rw[if_neg hi,Option.map_eq_some_iff] at hp;obtain⟨p1,gV,rfl⟩:=hp;exact⟨p1,gV,rfl,rfl,rfl,rfl,fun h=>by cases h⟩
 have eL:∀ i p2,ρ' i=some p2->∃ p1,ρ i=some p1/\p2.blk=p1.blk/\p2.ext=p1.ext:=fun i p2 hp=>by obtain⟨p1,k1,k2,k3,k4,_⟩:=hl i p2 hp;exact⟨p1,k1,k2,k4⟩
 have g9:∀ i b,σ2.get i=some b->∃ b1,σ1.get i=some b1/\b.wr=b1.wr:=fun i b hb=>by
  by_cases hi:S i=false
  .rw[h1 i hi] at hb;exact⟨b,hb,rfl⟩
  .obtain⟨c,e,wr,t,m,k1,k2⟩:=h2 i (by simpa using hi);rw[k2] at hb;obtain rfl:=osj hb;exact⟨_,k1,rfl⟩
 have hX:Ext ρ0 σ0 w0 ρ' σ2 w:=by
  refine⟨hE.os,hE.tape,hE.output,hE.size,hE.keep,?_,by omega,fun i hi p hp=>?_⟩
  .rintro B hB ⟨i,p,b,hp,hb,hw,rfl⟩;obtain⟨p1,k1,k2,_⟩:=eL i p hp;obtain⟨b1,k7,k8⟩:=g9 i b hb;exact hE.wr _ hB ⟨i,p1,b1,k1,k7,by rw[<-k8];exact hw,k2.symm⟩
  .have:S i=false:=by
    cases hs:S i with
    |false=>rfl
    |true=>have:=hS i hs;omega
   simp only[ρ',this,if_true] at hp;exact hE.pl i hi p hp
 refine⟨ρ',?_,fw.ext ⟨fun i b hb=>?_,fun i hi=>?_,fun i p hp=>?_,fun i j p q b ct hp hq hb hw hx=>?_⟩ hX,hX⟩
 .rw[hn];refine hv.rel (fun i p hi hp=>?_) (eD.loose hl);have:¬ S i=false:=by simp[hi]
  change (if S i=false then ρ i else (ρ i).map fun p=>{p with tight:=false})=some p at hp;rw[if_neg this,Option.map_eq_some_iff] at hp;obtain⟨p1,_,rfl⟩:=hp;rfl
 .by_cases hi:S i=false
  .rw[h1 i hi] at hb;obtain⟨p,hp,hB⟩:=hH.live i b hb;refine⟨p,by simp only[ρ',hi,if_true];exact hp,?_⟩;rw[hn];cases b with
   |cells c e wr t =>obtain⟨k1,k2,k3,k4,k5,k6⟩:=hB;exact⟨k1,k2,k3,k4,fun k v hk=>let ⟨u,a1,a2⟩:=k5 k v hk;⟨u,a1,a2.loose hl⟩,k6⟩
   |obj o wr =>obtain⟨k1,O,k2,k3⟩:=hB;exact⟨k1,O,k2,k3.loose hl⟩
  .obtain⟨c,e,wr,t,m,k1,k2⟩:=h2 i (by simpa using hi);rw[k2] at hb;obtain rfl:=osj hb;obtain⟨p,hp,hB⟩:=hH.live i _ k1;obtain⟨a1,a2,a3,a4,a5,a6⟩:=hB;refine⟨{p with tight:=false},by simp[ρ',hi,hp],a1,rfl,by simp;omega,a4,fun k v hk=>?_,fun g9=>⟨(fun h=>by cases h),(a6 g9).2⟩⟩;rw[List.getElem?_take] at hk;split at hk
   .obtain⟨u,b1,b2⟩:=a5 k v hk;rw[hn];exact⟨u,b1,b2.loose hl⟩
   .cases hk
 .have hd:σ1.get i=none:=by
   by_cases cG:S i=false
   .rw[<-h1 i cG];exact hi
   .obtain⟨c,e,wr,t,m,k1,k2⟩:=h2 i (by simpa using cG);rw[k2] at hi;cases hi
  have:=hH.dead i hd;simp only[ρ',this];split<;>rfl
 .obtain⟨p1,k1,k2,_⟩:=eL i p hp;rw[k2];exact hH.lt i p1 k1
 .obtain⟨p1,k1,k2,k3⟩:=eL i p hp;obtain⟨q1,k4,k5,k6⟩:=eL j q hq;obtain⟨b1,k7,k8⟩:=g9 i b hb;rw[k2,k5];exact hH.sep i j p1 q1 b1 ct k1 k4 k7 (by rw[<-k8];exact hw) (by rw[<-k6];exact hx)
def mkP (σ:Heap) (v:Value) (is:List Nat):Value:=.tuple (v::is.map fun i=>match σ.get i with|some b=>Z3w i b|none=>.bool true).toArray
theorem KO.imp {H H':Heap}:∀ {k:Kind}{q:Option Nat}{x:k.T}{cs:List Value}{is:List Nat},KO H q k x cs is->(∀ i∈is,H'.get i=H.get i)->KO H' q k x cs is
 |.i _,_,_,_,_,h,_|.bo,_,_,_,_,h,_|.st,_,_,_,_,h,_=>by simp only[KO] at h |-;exact h
 |.list k,q,l,cs,is,h,g=>by
  simp only[KO] at h |-;rcases h with h|⟨i,cap,c,e,t,js,h1,rfl,h3,h4,h5,h6,h7,h8⟩
  .exact .inl h
  .refine .inr ⟨i,cap,c,e,t,js,h1,rfl,h3,by rw[g i List.mem_cons_self];exact h4,h5,h6,h7,?_⟩;have key:∀ {xs:List k.T}{cs:List Value}{js:List Nat},RowsO (fun x c is=>KO H none k x c is) xs cs js->(∀ i∈js,H'.get i=H.get i)->RowsO (fun x c is=>KO H' none k x c is) xs cs js:=fun h=>by
    induction h with
    |nil=>exact fun _=>.nil
    |cons h _ ih=>exact fun g=>.cons (KO.imp (k:=k) h fun i hi=>g i (List.mem_append_left _ hi)) (ih fun i hi=>g i (List.mem_append_right _ hi))
   exact key h8 fun i hi=>g i (List.mem_cons_of_mem _ hi)
 |.pair a b,_,x,cs,is,h,g=>by simp only[KO] at h |-;obtain⟨c1,c2,i1,i2,h1,rfl,h3,h4⟩:=h;exact⟨c1,c2,i1,i2,h1,rfl,h3.imp fun i hi=>g i (List.mem_append_left _ hi),h4.imp fun i hi=>g i (List.mem_append_right _ hi)⟩
theorem KO.cells {H:Heap}:∀ {k:Kind}{q:Option Nat}{x:k.T}{cs:List Value}{is:List Nat},KO H q k x cs is->∀ i∈is,∃ c e t,H.get i=some (.cells c e true t)
 |.i _,_,_,_,_,h,i,hi|.bo,_,_,_,_,h,i,hi|.st,_,_,_,_,h,i,hi=>by simp only[KO] at h;rw[h.2] at hi;cases hi
 |.list k,q,l,cs,is,h,i,hi=>by
  simp only[KO] at h;rcases h with⟨_,_,rfl⟩|⟨i',cap,c,e,t,js,h1,rfl,h3,h4,h5,h6,h7,h8⟩
  .cases hi
  .rcases List.mem_cons.1 hi with rfl|hi
   .exact⟨_,_,_,h4⟩
   .have key:∀ {xs:List k.T}{cs:List Value}{js:List Nat},RowsO (fun x c is=>KO H none k x c is) xs cs js->∀ i∈js,∃ c e t,H.get i=some (.cells c e true t):=fun h=>by
     induction h with
     |nil=>exact fun i hi=>by cases hi
     |cons h _ ih=>exact fun i hi=>(List.mem_append.1 hi).elim (KO.cells (k:=k) h i) (ih i)
    exact key h8 i hi
 |.pair a b,_,x,cs,is,h,i,hi=>by simp only[KO] at h;obtain⟨c1,c2,i1,i2,h1,rfl,h3,h4⟩:=h;exact(List.mem_append.1 hi).elim (h3.cells i) (h4.cells i)
theorem KO.weak {H:Heap}:∀ {k:Kind}{q:Option Nat}{x:k.T}{cs:List Value}{is:List Nat},KO H q k x cs is->KO H none k x cs is
 |.i _,_,_,_,_,h|.bo,_,_,_,_,h|.st,_,_,_,_,h=>by simp only[KO] at h |-;exact h
 |.list k,q,l,cs,is,h=>by
  simp only[KO] at h |-;rcases h with h|⟨i,cap,c,e,t,js,h1,h2,h3,h4,h5,h6,h7,h8⟩
  .exact .inl h
  .exact .inr ⟨i,cap,c,e,t,js,h1,h2,h3,h4,h5,(fun _ e=>by cases e),h7,h8⟩
 |.pair a b,_,x,cs,is,h=>by simp only[KO] at h |-;exact h
theorem KO.rows_len {H:Heap}{q:Option Nat}{k:Kind}:∀ (x:k.T) (c:List Value) (is:List Nat),KO H q k x c is->c.length=k.size:=fun _ _ _ h=>KC.length h.kc
section
variable {α:Type}{R R':α->List Value->List Nat->Prop}{sz:Nat}
theorem RowsH.imp:∀ {xs:List α}{h:Option Nat}{j:Nat}{cs:List Value}{is:List Nat},RowsH R sz h j xs cs is->(∀ x c js,R x c js->(∀ i∈js,i∈is)->R' x c js)->RowsH R' sz h j xs cs is
 |[],_,_,_,_,h,_=>h
 |x::xs,hh,j,cs,is,h,g=>by
  obtain⟨c,cs',i1,i2,rfl,rfl,h1,h2⟩:=h;refine⟨c,cs',i1,i2,rfl,rfl,?_,h2.imp fun x c js hr hj=>g x c js hr fun i hi=>List.mem_append_right _ (hj i hi)⟩;by_cases e:hh=some j
  .rw[if_pos e] at h1 |-;exact h1
  .rw[if_neg e] at h1 |-;exact g _ _ _ h1 fun i hi=>List.mem_append_left _ hi
theorem RowsH.hole:∀ {xs:List α}{h h':Option Nat}{j j':Nat}{cs:List Value}{is:List Nat},RowsH R sz h j xs cs is->(∀ m,h=some (j+m)<->h'=some (j'+m))->RowsH R sz h' j' xs cs is
 |[],_,_,_,_,_,_,h,_=>h
 |x::xs,h,h',j,j',cs,is,hr,g=>by
  obtain⟨c,cs',i1,i2,rfl,rfl,h1,h2⟩:=hr;refine⟨c,cs',i1,i2,rfl,rfl,?_,h2.hole fun m=>?_⟩
  .have:=g 0;simp only[Nat.add_zero] at this;by_cases e:h=some j
   .rw[if_pos e] at h1;rw[if_pos (this.1 e)];exact h1
   .rw[if_neg e] at h1;rw[if_neg fun e'=>e (this.2 e')];exact h1
  .have:=g (1+m);rw[<-Nat.add_assoc,<-Nat.add_assoc] at this;exact this
theorem RowsH.length (hR:∀ x c is,R x c is->c.length=sz):∀ {xs:List α}{h:Option Nat}{j:Nat}{cs:List Value}{is:List Nat},RowsH R sz h j xs cs is->cs.length=xs.length*sz
 |[],_,_,_,_,h=>by rw[h.1];simp
 |x::xs,_,j,cs,is,h=>by
  obtain⟨c,cs',i1,i2,rfl,rfl,h1,h2⟩:=h;have hc:c.length=sz:=by
   split at h1
   .exact h1.1
   .exact hR _ _ _ h1
  rw[List.length_append,hc,h2.length hR,List.length_cons,Nat.add_mul,Nat.one_mul,Nat.add_comm]
theorem RowsH.append:∀ {xs ys:List α}{j j':Nat}{cs ds:List Value}{is js:List Nat},RowsH R sz none j xs cs is->RowsH R sz none j' ys ds js->RowsH R sz none j (xs++ys) (cs++ds) (is++js)
 |[],ys,j,j',cs,ds,is,js,h,h'=>by obtain⟨rfl,rfl⟩:=h;exact h'.hole fun m=>by simp
 |x::xs,ys,j,j',cs,ds,is,js,h,h'=>by obtain⟨c,cs',i1,i2,rfl,rfl,h1,h2⟩:=h;exact⟨c,cs'++ds,i1,i2++js,by rw[List.append_assoc],by rw[List.append_assoc],h1,h2.append h'⟩
theorem RowsH.replicate {x:α}{c:List Value}(h:R x c []):∀ (n j:Nat),RowsH R sz none j (List.replicate n x) (List.replicate n c).flatten []
 |0,_=>⟨rfl,rfl⟩
 |n+1,j=>⟨c,_,[],[],rfl,rfl,by rw[if_neg (by simp)];exact h,RowsH.replicate h n (j+1)⟩
theorem RowsH.take (hR:∀ x c is,R x c is->c.length=sz):∀ {xs:List α}{j:Nat}{cs:List Value},RowsH R sz none j xs cs []->∀ n,RowsH R sz none j (xs.take n) (cs.take (n*sz)) []
 |[],j,cs,h,n=>by obtain⟨rfl,_⟩:=h;simp[RowsH]
 |x::xs,j,cs,h,0=>by simp[RowsH]
 |x::xs,j,cs,h,n+1=>by
  obtain⟨c,cs',i1,i2,rfl,e,h1,h2⟩:=h;obtain⟨rfl,rfl⟩:=List.append_eq_nil_iff.1 e.symm;have hc:c.length=sz:=by rw[if_neg (by simp)] at h1;exact hR _ _ _ h1
  refine⟨c,cs'.take (n*sz),[],[],?_,rfl,h1,h2.take hR n⟩;rw[Nat.add_mul,Nat.one_mul,Nat.add_comm,List.take_append,hc,List.take_of_length_le (by omega),Nat.add_sub_cancel_left]
theorem RowsH.set (hR:∀ x c is,R x c is->c.length=sz):∀ {xs:List α}{h h':Option Nat}{j i:Nat}{cs:List Value}{is:List Nat}{x:α}{c':List Value}{inew:List Nat},
  RowsH R sz h j xs cs is->(hi:i<xs.length)->(∀ m,m≠i->(h=some (j+m)<->h'=some (j+m)))->c'.length=sz->(if h'=some (j+i) then inew=[] else R x c' inew) ->
  ∃ n8 ix n9,is=n8++ix++n9/\RowsH R sz h' j (xs.set i x) (cs.take (i*sz)++c'++cs.drop (i*sz+sz)) (n8++inew++n9)/\(if h=some (j+i) then ix=[] else R xs[i] ((cs.drop (i*sz)).take sz) ix)
 |[],_,_,_,_,_,_,_,_,_,_,hi,_,_,_=>by simp at hi
 |y::ys,h,h',j,0,cs,is,x,c',inew,hr,hi,g,hl,hn=>by
  obtain⟨c,cs',i1,i2,rfl,rfl,h1,h2⟩:=hr;have hc:c.length=sz:=by
   split at h1
   .exact h1.1
   .exact hR _ _ _ h1
  have ht:RowsH R sz h' (j+1) ys cs' i2:=h2.hole fun m=>by have:=g (m+1) (by omega);rw[show j+1+m=j+(m+1) by omega];exact this
  refine⟨[],i1,i2,rfl,?_,?_⟩
  .rw[List.set_cons_zero];refine⟨c',cs',inew,i2,?_,rfl,?_,ht⟩
   .rw[Nat.zero_mul,List.take_zero,List.nil_append,Nat.zero_add,List.drop_append,hc,Nat.sub_self,List.drop_zero,List.drop_of_length_le (by omega),List.nil_append]
   .rw[Nat.add_zero] at hn;split
    .rename_i e;rw[if_pos e] at hn;exact⟨hl,hn⟩
    .rename_i e;rw[if_neg e] at hn;exact hn
  .rw[Nat.add_zero];split
   .rename_i e;rw[if_pos e] at h1;exact h1.2
   .rename_i e;rw[if_neg e] at h1;rw[Nat.zero_mul,List.drop_zero,List.take_append,hc,Nat.sub_self,List.take_zero,List.append_nil,List.take_of_length_le (by omega)];exact h1
 |y::ys,h,h',j,i+1,cs,is,x,c',inew,hr,hi,g,hl,hn=>by
  obtain⟨c,cs',i1,i2,rfl,rfl,h1,h2⟩:=hr;have hc:c.length=sz:=by
   split at h1
   .exact h1.1
   .exact hR _ _ _ h1
  obtain⟨n8,ix,n9,rfl,k1,k2⟩:=RowsH.set hR h2 (i:=i) (h':=h') (x:=x) (c':=c') (inew:=inew) (by simpa using hi) (fun m hm=>by
   have:=g (m+1) (by omega);rw[show j+1+m=j+(m+1) by omega];exact this) hl (by rw[show j+1+i=j+(i+1) by omega];exact hn)
  have e0:(i+1)*sz=sz+i*sz:=by rw[Nat.add_mul,Nat.one_mul,Nat.add_comm]
  refine⟨i1++n8,ix,n9,by simp[List.append_assoc],?_,?_⟩
  .rw[List.set_cons_succ];refine⟨c,_,i1,n8++inew++n9,?_,by simp[List.append_assoc],?_,k1⟩
   .have e1:(c++cs').take ((i+1)*sz)=c++cs'.take (i*sz):=by
     rw[e0,List.take_append,hc,List.take_of_length_le (by omega),Nat.add_sub_cancel_left]
    have e2:(c++cs').drop ((i+1)*sz+sz)=cs'.drop (i*sz+sz):=by rw[e0,List.drop_append,hc,List.drop_of_length_le (by omega),List.nil_append];congr 1;omega
    rw[e1,e2];simp[List.append_assoc]
   .have:=g 0 (by omega);rw[Nat.add_zero] at this;by_cases e:h=some j
    .rw[if_pos e] at h1;rw[if_pos (this.1 e)];exact h1
    .rw[if_neg e] at h1;rw[if_neg fun e'=>e (this.2 e')];exact h1
  .rw[show j+(i+1)=j+1+i by omega];have e3:(c++cs').drop ((i+1)*sz)=cs'.drop (i*sz):=by
    rw[e0,List.drop_append,hc,List.drop_of_length_le (by omega),List.nil_append];congr 1;omega
   rw[e3];exact k2
end
theorem DO.imp {H H':Heap}{ty:Nat}{q:Option Nat}{k:Kind}{xs:List k.T}{h:Option Nat}{v:Value}{is:List Nat}(hd:DO H ty q k xs h v is) (g:∀ i∈is,H'.get i=H.get i):DO H' ty q k xs h v is:=by
 rcases hd with hd|⟨i,cap,c,t,js,h1,rfl,h3,h4,h5,h6⟩
 .exact .inl hd
 .exact .inr ⟨i,cap,c,t,js,h1,rfl,h3,by rw[g i List.mem_cons_self];exact h4,h5,h6.imp fun x c xd hr hj=>KO.imp hr fun i hi=>g i (List.mem_cons_of_mem _ (hj i hi))⟩
theorem RowsH.cells {H:Heap}{q:Option Nat}{k:Kind}{sz:Nat}:∀ {xs:List k.T}{h:Option Nat}{j:Nat}{cs:List Value}{is:List Nat},RowsH (KO H q k) sz h j xs cs is->∀ i∈is,∃ c e t,H.get i=some (.cells c e true t)
 |[],_,_,_,_,h,i,hi=>by rw[h.2] at hi;cases hi
 |x::xs,_,j,cs,is,h,i,hi=>by
  obtain⟨c,cs',i1,i2,rfl,rfl,h1,h2⟩:=h;rcases List.mem_append.1 hi with hi|hi
  .split at h1
   .rw[h1.2] at hi;cases hi
   .exact KO.cells h1 i hi
  .exact h2.cells i hi
theorem DO.cells {H:Heap}{ty:Nat}{q:Option Nat}{k:Kind}{xs:List k.T}{h:Option Nat}{v:Value}{is:List Nat}(hd:DO H ty q k xs h v is):∀ i∈is,∃ c e t,H.get i=some (.cells c e true t):=by
 rcases hd with⟨_,_,rfl⟩|⟨i,cap,c,t,js,h1,rfl,h3,h4,h5,h6⟩
 .exact fun i hi=>by cases hi
 .exact fun j hj=>(List.mem_cons.1 hj).elim (fun e=>by subst e;exact⟨_,_,_,h4⟩) (h6.cells j)
theorem DP.open {σ:Heap}{p:Value}{ty:Nat}{q:Option Nat}{k:Kind}{xs:List k.T}{nl:Bool}{h:Option Nat}(hd:DP σ p ty q k xs nl h) :
  ∃ is,is.Nodup/\DO σ ty q k xs h (phd p) is/\(∀ i,Oid p i<->i∈is)/\(nl=true<->phd p=.slice none 0 0):=by
 obtain⟨is,hO,h1,h2,h3,h4,h5⟩:=hd;refine⟨is,h1,h2.imp fun i hi=>?_,fun i=>(hO i).trans (h3 i),h5⟩;obtain⟨b,hb⟩:=(h3 i).2 hi;rw[hb,h4 i b hb]
end Go.V
namespace Go.V
open Go
section
variable {P:Program}{B F:Heap}{pl:Nat->Value}{tb:Nat->Option Bool}{s:St}{env:Env}{σ σ':Heap}
theorem KO.nil {H:Heap}{q:Option Nat}{k:Kind}:KO H q (.list k) [] [.slice none 0 0] []:=by unfold KO;exact .inl ⟨rfl,rfl,rfl⟩
def FrL (Ts:List Nat) (s s':St) (pl pl':Nat->Value) (σ σ':Heap):Prop :=
 ∀ q,q∉Ts->(Qd s'.own q).live=(Qd s.own q).live/\pl' q=pl q/\((Qd s.own q).live=true->∀ i,Oid (pl q) i->σ'.get i=σ.get i)
theorem FrL.mono {Ts sM:List Nat}{s s':St}{pl pl':Nat->Value}{σ σ':Heap}(h:FrL Ts s s' pl pl' σ σ') (hs:∀ t∈Ts,t∈sM):FrL sM s s' pl pl' σ σ':=fun q hq=>h q fun h=>hq (hs q h)
def Q9h (P:Program) (B F:Heap) (tb:Nat->Option Bool) (o:VOp) (evV:Operand->Value) (env:Env) (σ:Heap) (K:SV->St->Prop) (Ts:List Nat) (s:St) (pl:Nat->Value):Prop :=
 ∃ u σ' pl' v s',Q6 o evV σ=some (u,σ')/\K v s'/\(Gam P B F pl' tb s' env σ'/\FrL Ts s s' pl pl' σ σ')/\SR P B pl' tb v u
section
variable {C:Cx}{d:Nat}{ev:Operand->SV}{evV:Operand->Value}{K:SV->St->Prop}
theorem DO.sl {ty:Nat}{q:Option Nat}{k:Kind}{xs:List k.T}{v:Value}{is:List Nat}(hd:DO σ ty q k xs none v is) (hn:is.Nodup) :
  ∃ a cap cs js,v=.slice a xs.length cap/\σ.sl k.size v=some cs/\RowsH (KO σ q k) k.size none 0 xs cs js/\(∀ i∈js,i∈is)/\js.Nodup/\cs.all cellOk=true/\cs.length=xs.length*k.size:=by
 rcases hd with⟨rfl,rfl,rfl⟩|⟨i,cap,c,t,js,rfl,rfl,h1,h3,h4,h5⟩
 .exact⟨_,_,[],[],rfl,rfl,⟨rfl,rfl⟩,fun i hi=>hi,List.nodup_nil,rfl,by simp⟩
 .have hl:=h5.length KO.rows_len;refine⟨_,_,c.take (xs.length*k.size),js,rfl,?_,h5,fun i hi=>List.mem_cons_of_mem _ hi,(List.nodup_cons.1 hn).2,(h5.rows (R':=KC σ k) fun _ _ _ h=>h.kc).cellOk,hl⟩;have:=Nat.mul_le_mul_right k.size h1;simp only[Heap.sl,h3];rw[if_pos ⟨trivial,by omega⟩];simp
theorem HL (ak:∀ x,SR P B pl tb (ev x) (evV x)) (hG:Gam P B F pl tb s env σ) {o:VOp}(h:gnd C d o ev s K):Q9h P B F tb o evV env σ K (LD d o ev) s pl:=h.elim
end
end
end Go.V
namespace Go.V
open Go
def Jq:Nat->Value:=fun _=>poison
def ZH:Nat->Option Bool:=fun _=>none
def hNil:Heap:=⟨fun _=>none,0,fun _ _=>rfl⟩
theorem AS (B:Heap):hNil.Le B:=⟨Nat.zero_le _,fun i b h=>by cases h⟩
section
variable {P:Program}
mutual
theorem SR.retd {B B':Heap}{pl pl':Nat->Value}{tb tb':Nat->Option Bool}{n:Nat}(hp:∀ j,j<n->pl' j=pl j) :
  ∀ (s:SV) (v:Value),s.ret n=true->SR P B pl tb s v->SR P B' pl' tb' s v
 |.any,_,h,_|.bid _ _,_,h,_|.grd _ _,_,h,_|.sub _ _ _ _,_,h,_|.elp _ _ _ _,_,h,_|.rop _ _ _ _,_,h,_|.cp _ _,_,h,_|.fn _ _ _,_,h,_|.pf _ _ _ _,_,h,_=>by cases h
 |.val k x,v,h,hs=>by simp only[SR] at hs |-;exact KC.flat h hs
 |.nilS,v,_,hs|.nilP,v,_,hs|.nilM,v,_,hs|.nilF,v,_,hs=>by simp only[SR] at hs |-;exact hs
 |.lst j,v,h,hs=>by
  have hj:j<n:=by simpa [SV.ret,Nat.blt_eq] using h
  simp only[SR] at hs |-;rw[hp j hj];exact hs
 |.map j,v,h,hs=>by
  have hj:j<n:=by simpa [SV.ret,Nat.blt_eq] using h
  simp only[SR] at hs |-;rw[hp j hj];exact hs
 |.dd j w,v,h,hs=>by
  cases w with
  |out =>
   have hj:j<n:=by simpa [SV.ret,Nat.blt_eq] using h
   simp only[SR] at hs |-;rw[hp j hj];exact hs
  |_=>cases h
 |.box j off,v,h,hs=>by
  have hj:j<n:=by simpa [SV.ret,Nat.blt_eq] using h
  simp only[SR] at hs |-;rw[hp j hj];exact hs
 |.agg l,v,h,hs=>by simp only[SR] at hs |-;obtain⟨cs,h1,h2⟩:=hs;exact⟨cs,h1,SRs.retd hp l cs h h2⟩
 |.tup l,v,h,hs=>by simp only[SR] at hs |-;obtain⟨cs,h1,h2⟩:=hs;exact⟨cs,h1,SRs.retd hp l cs h h2⟩
theorem SRs.retd {B B':Heap}{pl pl':Nat->Value}{tb tb':Nat->Option Bool}{n:Nat}(hp:∀ j,j<n->pl' j=pl j) :
  ∀ (s:List SV) (v:List Value),SVs.ret n s=true->SRs P B pl tb s v->SRs P B' pl' tb' s v
 |[],v,_,hs=>by simp only[SRs] at hs |-;exact hs
 |s::ss,v,h,hs=>by simp only[SVs.ret,Bool.and_eq_true] at h;simp only[SRs] at hs |-;obtain⟨x,y,h1,h2,h3⟩:=hs;exact⟨x,y,h1,SR.retd hp s x h.1 h2,SRs.retd hp ss y h.2 h3⟩
end
mutual
theorem SR.ren {B:Heap}{pl pl':Nat->Value}{tb tb':Nat->Option Bool}{n d nt:Nat}(hp:∀ j,j<n->pl' (d+j*nt)=pl j) :
  ∀ (s:SV) (v:Value),s.ret n=true->SR P B pl tb s v->SR P B pl' tb' (s.ren d nt) v
 |.any,_,h,_|.bid _ _,_,h,_|.grd _ _,_,h,_|.sub _ _ _ _,_,h,_|.elp _ _ _ _,_,h,_|.rop _ _ _ _,_,h,_|.cp _ _,_,h,_|.fn _ _ _,_,h,_|.pf _ _ _ _,_,h,_=>by cases h
 |.val k x,v,h,hs=>by simp only[SR,SV.ren] at hs |-;exact hs
 |.nilS,v,_,hs|.nilP,v,_,hs|.nilM,v,_,hs|.nilF,v,_,hs=>by simp only[SR,SV.ren] at hs |-;exact hs
 |.lst j,v,h,hs=>by
  have hj:j<n:=by simpa [SV.ret,Nat.blt_eq] using h
  simp only[SR,SV.ren] at hs |-;rw[hp j hj];exact hs
 |.map j,v,h,hs=>by
  have hj:j<n:=by simpa [SV.ret,Nat.blt_eq] using h
  simp only[SR,SV.ren] at hs |-;rw[hp j hj];exact hs
 |.dd j w,v,h,hs=>by
  cases w with
  |out =>
   have hj:j<n:=by simpa [SV.ret,Nat.blt_eq] using h
   simp only[SR,SV.ren] at hs |-;rw[hp j hj];exact hs
  |_=>cases h
 |.box j off,v,h,hs=>by
  have hj:j<n:=by simpa [SV.ret,Nat.blt_eq] using h
  simp only[SR,SV.ren] at hs |-;rw[hp j hj];exact hs
 |.agg l,v,h,hs=>by simp only[SR,SV.ren] at hs |-;obtain⟨cs,h1,h2⟩:=hs;exact⟨cs,h1,SRs.ren hp l cs h h2⟩
 |.tup l,v,h,hs=>by simp only[SR,SV.ren] at hs |-;obtain⟨cs,h1,h2⟩:=hs;exact⟨cs,h1,SRs.ren hp l cs h h2⟩
theorem SRs.ren {B:Heap}{pl pl':Nat->Value}{tb tb':Nat->Option Bool}{n d nt:Nat}(hp:∀ j,j<n->pl' (d+j*nt)=pl j) :
  ∀ (s:List SV) (v:List Value),SVs.ret n s=true->SRs P B pl tb s v->SRs P B pl' tb' (SVs.ren d nt s) v
 |[],v,_,hs=>by simp only[SRs,SVs.ren] at hs |-;exact hs
 |s::ss,v,h,hs=>by simp only[SVs.ret,Bool.and_eq_true] at h;simp only[SRs,SVs.ren] at hs |-;obtain⟨x,y,h1,h2,h3⟩:=hs;exact⟨x,y,h1,SR.ren hp s x h.1 h2,SRs.ren hp ss y h.2 h3⟩
end
theorem MR.flat {B B':Heap}{kk vk:Kind}(h1:kk.flat=true) (h2:vk.flat=true):∀ {m:List (kk.T×vk.T)}{es:List Jr},MR B kk vk m es->MR B' kk vk m es
 |[],es,h=>h
 |m::ms,es,h=>by obtain⟨e,bX,k1,k2,k3,k4⟩:=h;exact⟨e,bX,k1,k2.flat h1,k3.flat h2,MR.flat h1 h2 k4⟩
theorem OR.retd {B B':Heap}{pl pl':Nat->Value}{tb tb':Nat->Option Bool}{σ σ':Heap}{p:Value}{b:OB}(hb:b.ret=true) (h:OR P B pl tb σ p b) (hg:∀ i,Oid p i->σ'.get i=σ.get i):OR P B' pl' tb' σ' p b:=by
 cases b with
 |dead=>trivial
 |lst ty k xs nl =>
  rcases h with h|⟨h0,i,cap,c,t,h1,h2,h3,h4,h5⟩
  .exact .inl h
  .exact .inr ⟨h0,i,cap,c,t,h1,h2,by rw[hg i (by rw[h1];rfl)];exact h3,h4,h5.mono fun _ _ e=>KC.flat hb e⟩
 |cells l u =>obtain⟨i,c,e,t,h1,h2,h3,h4⟩:=h;exact⟨i,c,e,t,h1,by rw[hg i (by rw[h1];rfl)];exact h2,SRs.retd (n:=0) (fun j hj=>by omega) l c hb h3,h4⟩
 |map kk vk m =>simp only[OB.ret,Bool.and_eq_true] at hb;obtain⟨i,es,clock,h1,h2,h3⟩:=h;exact⟨i,es,clock,h1,by rw[hg i (by rw[h1];rfl)];exact h2,h3.1.flat hb.1 hb.2,h3.2⟩
 |stk l vals=>cases hb
 |deep ty q k xs nl hh=>exact DP.mono h hg
 |mapE kk vk m key n=>cases hb
 |iter kk vk m dn=>cases hb
 |lpf l q s=>cases hb
def S7:(k:Kind)->k.T->List Value
 |.i ik,x=>[.int ik x]
 |.bo,x=>[.bool x]
 |.st,x=>[.string ⟨x.toArray⟩]
 |.list _,_=>[]
 |.pair a b,x=>S7 a x.1++S7 b x.2
def Q0u:OB->Option Blk
 |.lst ty k xs nl=>if nl then none else some (.cells (xs.map (S7 k)).flatten ⟨k.size,ty⟩ true false)
 |_=>none
def Mr (σ:Heap) (bs:List OB):Heap where
 get i:=if i<σ.n then σ.get i else (bs[i-σ.n]?).bind Q0u
 n:=σ.n+bs.length
 wf i h:=by rw[if_neg (by omega),List.getElem?_eq_none (by omega)];rfl
def PK (σ:Heap) (bs:List OB) (j:Nat):Value:=match bs[j]? with
 |some (.lst _ _ xs nl)=>if nl then .slice none 0 0 else .slice (some ⟨σ.n+j,0,none⟩) xs.length xs.length
 |_=>poison
mutual
def Kj (p:Nat->Value):SV->Value
 |.val k x=>(S7 k x).headD poison
 |.nilS=>.slice none 0 0
 |.nilP=>.pointer none
 |.nilM=>.map none
 |.nilF=>.nilFunc
 |.lst j=>p j
 |.agg l=>.agg (Y5 p l).toArray
 |.tup l=>.tuple (Y5 p l).toArray
 |_=>poison
def Y5 (p:Nat->Value):List SV->List Value
 |[]=>[]
 |s::ss=>Kj p s::Y5 p ss
end
def Dead (σ σ':Heap):Prop:=σ.n<=σ'.n/\∀ i,i<σ.n->σ.get i=none->σ'.get i=none
theorem Dead.refl (σ:Heap):Dead σ σ:=⟨Nat.le_refl _,fun _ _ h=>h⟩
theorem Dead.trans {σ0 σ σ':Heap}(h:Dead σ0 σ) (h':Dead σ σ'):Dead σ0 σ':=⟨Nat.le_trans h.1 h'.1,fun i hi hg=>h'.2 i (Nat.lt_of_lt_of_le hi h.1) (h.2 i hi hg)⟩
def Ret (P:Program) (σ:Heap) (v:SV) (bs:List OB) (u:Value) (σ':Heap):Prop :=
 (σ.Le σ'/\Dead σ σ')/\(bs=[]->σ'=σ)/\∃ pl:Nat->Value,(∀ j b,bs[j]?=some b->OR P hNil pl ZH σ' (pl j) b/\∀ i,Oid (pl j) i->σ.get i=none/\σ.n<=i) /\
  (∀ j j' i,j<bs.length->j'<bs.length->j≠j'->Oid (pl j) i->Oid (pl j') i->False)/\SR P hNil pl ZH v u
def Q3d (P:Program) (ap:SV->List SV->Option (Prop×SV)):Prop :=
 ∀ σ f args c v fV vs,SR P σ Jq ZH f fV->SRs P σ Jq ZH args vs->ap f args=some (c,v)->c->v.ret 0=true/\∃ g a b,fV=.func (.func g) a b/\VCalled P g (a.toList++vs++b.toList) σ fun u σ'=>σ'=σ/\SR P hNil Jq ZH v u
def OkC (P:Program) (f:Nat) (sp:CSp):Prop :=
 ∀ ap,Q3d P ap->∀ σ args vs c v bs,SRs P σ Jq ZH args vs->sp ap args=some (c,v,bs)->v.ret bs.length=true->bs.all OB.ret=true->c->(VCalled P f vs σ fun u σ'=>Ret P σ v bs u σ') /\
  (bs.all OB.isL=true->YN v=true->VCalled P f vs σ fun u σ'=>u=Kj (PK σ bs) v/\σ'=Mr σ bs)
def CsOk (P:Program) (cs:List (Nat×CSp)):Prop:=∀ f sp,Qn cs f=some sp->OkC P f sp
theorem VCalled.mono {f:FuncId}{args:List Value}{σ:Heap}{R R':Value->Heap->Prop}(h:VCalled P f args σ R) (hr:∀ v σ',R v σ'->R' v σ'):VCalled P f args σ R':=by
 intro ρ w av hH hL;rcases h ρ w av hH hL with⟨h1,h2⟩|⟨c,h1,h2⟩
 .exact .inl ⟨h1,h2.mono fun _ _ ⟨c,he,hg⟩=>⟨c,he,hg.mono hr⟩⟩
 .exact .inr ⟨c,h1.mono hr,h2⟩
theorem HN {B:Heap}{pl:Nat->Value}{tb:Nat->Option Bool}{k:Kind}{v:SV}{u:Value}{x:k.T}(h:gap.asV k v=some x) (hs:SR P B pl tb v u):KV B k x u:=by
 unfold gap.asV at h;cases bU:k.one with
 |true =>rw[bU] at h;exact .inl ⟨bU,QB h (by simp only[SRs];exact⟨u,[],rfl,hs,rfl⟩)⟩
 |false =>
  rw[bU] at h;simp only[_root_.cond_false] at h;split at h
  .simp only[SR] at hs;obtain⟨cs,rfl,hs⟩:=hs;exact .inr ⟨bU,cs,rfl,QB h hs⟩
  .cases h
theorem TB {B:Heap}{pl:Nat->Value}{tb:Nat->Option Bool}:∀ {ks:List Kind}{args:List SV}{x:AT ks}{vs:List Value},gap.deca ks args=some x->SRs P B pl tb args vs->P_ B ks x vs
 |[],[],x,vs,_,hs=>by simp only[SRs] at hs;exact hs
 |[],_::_,x,vs,h,_=>by cases h
 |[k],[],x,vs,h,_=>by cases h
 |[k],[v],x,vs,h,hs=>by obtain⟨u,rfl,h1⟩:=hs.one;exact⟨u,rfl,HN h h1⟩
 |[k],_::_::_,x,vs,h,_=>by cases h
 |k::k'::ks,[],x,vs,h,_=>by cases h
 |k::k'::ks,v::args,x,vs,h,hs=>by
  simp only[gap.deca] at h;split at h
  .rename_i y z h1 h2;obtain rfl:=osj h;simp only[SRs] at hs;obtain⟨u,us,rfl,h3,h4⟩:=hs;exact⟨u,us,rfl,HN h1 h3,TB h2 h4⟩
  .cases h
theorem Ret.flat {σ σ':Heap}{v:SV}{u:Value}(h:Ret P σ v [] u σ') (hv:v.ret 0=true):σ'=σ/\SR P hNil Jq ZH v u:=by obtain⟨_,h2,pl,_,_,h5⟩:=h;exact⟨h2 rfl,h5.retd (fun j hj=>by omega) _ _ hv⟩
theorem KV.vcall {B σ:Heap}(hB:B.Le σ) {k:Kind}{x:k.T}{v:Value}(h:KV B k x v):KV σ k x v:=by
 rcases h with⟨h1,h2⟩|⟨h1,cs,h2,h3⟩
 .exact .inl ⟨h1,h2.mono hB⟩
 .exact .inr ⟨h1,cs,h2,h3.mono hB⟩
theorem D9:∀ {k:Kind}{x:k.T},k.flat=true->SVs.ret 0 (Uz k x)=true
 |.i _,_,_|.bo,_,_|.st,_,_=>rfl
 |.list _,_,h=>by cases h
 |.pair a b,x,h=>by
  simp only[Kind.flat,Bool.and_eq_true] at h;have app:∀ l m:List SV,SVs.ret 0 l=true->SVs.ret 0 m=true->SVs.ret 0 (l++m)=true:=by
   intro l m hl hm;induction l with
   |nil=>exact hm
   |cons s l ih =>simp only[SVs.ret,Bool.and_eq_true,List.cons_append] at hl |-;exact⟨hl.1,ih hl.2⟩
  exact app _ _ (D9 h.1) (D9 h.2)
theorem Q2t {k:Kind}{x:k.T}(h:k.flat=true):(Q0v k x).ret 0=true:=by
 cases k with
 |pair a b=>exact D9 (k:=.pair a b) h
 |list k=>cases h
 |_=>rfl
theorem Iq {cs:List (Nat×CSp)}(h:CsOk P cs):∀ n,Q3d P (gap cs n)
 |0=>fun σ f args c v fV vs _ _ h=>by cases h
 |n+1=>by
  intro σ f args c v fV vs hf ha hg hc;cases f with
  |fn g a b =>
   simp only[gap] at hg;split at hg
   .rename_i sp gQ;split at hg
    .rename_i c' v' heq;cases hv:v'.ret 0 with
     |false=>rw[hv] at hg;cases hg
     |true =>rw[hv] at hg;simp only[_root_.cond_true,Option.some.injEq,Prod.mk.injEq] at hg;obtain⟨rfl,rfl⟩:=hg;simp only[SR] at hf;obtain⟨x,y,rfl,h1,h2⟩:=hf;refine⟨hv,g,x.toArray,y.toArray,rfl,?_⟩;have:=(h g sp gQ (gap cs n) (Iq h n) σ (a++args++b) (x++vs++y) c' v' [] ((h1.append ha).append h2) heq hv rfl hc).1;simpa using this.mono fun u σ' hr=>hr.flat hv
    .cases hg
   .cases hg
  |pf ks r cQ p =>
   simp only[gap] at hg;split at hg
   .rename_i x hx;cases hr:r.flat with
    |false=>rw[hr] at hg;cases hg
    |true =>rw[hr] at hg;obtain⟨rfl,rfl⟩:=QD hg;simp only[SR] at hf;obtain⟨g,first,cap,rfl,aD⟩:=hf;have h2:=aD x hc σ vs (Heap.Le.refl _) (TB hx ha);have dI:=Q2t (x:=p x) hr;exact⟨dI,g,first,cap,rfl,h2.mono fun u σ' hu=>⟨hu.1,(X6 (P:=P) (pl:=Jq) (tb:=ZH) hu.2).retd (fun j hj=>by omega) _ _ dI⟩⟩
   .cases hg
  |_=>cases hg
end
end Go.V
namespace Go.V
open Go
theorem DropTo.rename2 {σ0 σf σ':Heap}{v v':Value}(π:Nat->Nat) (h1:σ0.n<=σ'.n)
  (h2:∀ i,i<σ0.n->π i=i/\σ'.get i=σf.get i/\(σf.get i=σ0.get i\/∃ b,σf.get i=some b/\b.plain=true))
  (h3:∀ i,σ0.n<=i->i<σ'.n->σ0.n<=π i/\((σ'.get i=none/\σf.get (π i)=none)\/∃ b' b,σ'.get i=some b'/\σf.get (π i)=some b/\BRen σ'.n π b' b))
  (h4:∀ i j,σ0.n<=i->i<σ'.n->σ0.n<=j->j<σ'.n->π i=π j->i=j) (h5:Ren σ'.n π v' v):DropTo σ0 v σf v' σ':=by
 intro ρ0 w0 ρ w c fw hE hH hv;have hπ:∀ i,i<σ0.n->π i=i:=fun i hi=>(h2 i hi).1;have aF:∀ i b',σ'.get i=some b'->∃ b,σf.get (π i)=some b/\BRen σ'.n π b' b:=fun i b' hb=>by
  have hi:=σ'.lt hb;rcases Nat.lt_or_ge i σ0.n with ah|bj
  .obtain⟨k1,k2,k3⟩:=h2 i ah;rw[k1];rw[k2] at hb;refine⟨b',hb,?_⟩;rcases k3 with k3|⟨b,k3,k4⟩
   .rw[k3] at hb;obtain⟨p,_,hB⟩:=fw.live i b' hb;exact hB.ren h1 hπ
   .rw[k3] at hb;obtain rfl:=osj hb;exact BRen.plain k4
  .obtain⟨_,⟨k1,_⟩|⟨b1,b,k1,k2,k3⟩⟩:=h3 i bj hi
   .rw[k1] at hb;cases hb
   .rw[k1] at hb;obtain rfl:=osj hb;exact⟨b,k2,k3⟩
 have fe:∀ i j,i<σ'.n->j<σ'.n->π i=π j->i=j:=fun i j hi hj he=>by
  rcases Nat.lt_or_ge i σ0.n with ah|bj<;>rcases Nat.lt_or_ge j σ0.n with b7|iL
  .rw[hπ i ah,hπ j b7] at he;exact he
  .have:=(h3 j iL hj).1;rw[hπ i ah] at he;omega
  .have:=(h3 i bj hi).1;rw[hπ j b7] at he;omega
  .exact h4 i j bj hi iL hj he
 have hX:Ext ρ0 σ0 w0 (fun i=>if i<σ'.n then ρ (π i) else none) σ' w:=by
  refine⟨hE.os,hE.tape,hE.output,hE.size,hE.keep,?_,h1,fun i hi p hp=>?_⟩
  .rintro B hB ⟨i,p,b,hp,hb,hw,rfl⟩;change (if i<σ'.n then ρ (π i) else none)=some p at hp;split at hp
   .obtain⟨b0,bw,cn⟩:=aF i b hb;exact hE.wr _ hB ⟨π i,p,b0,hp,bw,by rw[<-cn.wr];exact hw,rfl⟩
   .cases hp
  .change (if i<σ'.n then ρ (π i) else none)=some p at hp;split at hp
   .rw[hπ i hi] at hp;exact hE.pl i hi p hp
   .cases hp
 refine⟨fun i=>if i<σ'.n then ρ (π i) else none,h5.rel hv,fw.ext ⟨fun i b' hb=>?_,fun i hi=>?_,fun i p hp=>?_,fun i j p q b ct hp hq hb hw hx=>?_⟩ hX,hX⟩
 .obtain⟨b,bw,cn⟩:=aF i b' hb;obtain⟨p,hp,hB⟩:=hH.live _ b bw;exact⟨p,by simp[σ'.lt hb,hp],cn.rel hB⟩
 .show (if i<σ'.n then ρ (π i) else none)=none;split
  .rename_i ah;rcases Nat.lt_or_ge i σ0.n with b7|bj
   .obtain⟨k1,k2,_⟩:=h2 i b7;rw[k1];exact hH.dead i (by rw[<-k2];exact hi)
   .obtain⟨_,⟨_,k2⟩|⟨b1,b,k1,_⟩⟩:=h3 i bj ah
    .exact hH.dead _ k2
    .rw[k1] at hi;cases hi
  .rfl
 .change (if i<σ'.n then ρ (π i) else none)=some p at hp;split at hp
  .exact hH.lt _ p hp
  .cases hp
 .change (if i<σ'.n then ρ (π i) else none)=some p at hp;change (if j<σ'.n then ρ (π j) else none)=some q at hq;split at hp
  .rename_i hi;split at hq
   .rename_i hj;obtain⟨b0,bw,cn⟩:=aF i b hb;exact hH.sep (π i) (π j) p q b0 (fun e=>ct (fe i j hi hj e)) hp hq bw (by rw[<-cn.wr];exact hw) hx
   .cases hq
  .cases hp
theorem KC.enc {h:Heap}:∀ {k:Kind}{x:k.T}{cs:List Value},k.flat=true->KC h k x cs->cs=S7 k x
 |.i _,_,_,_,e|.bo,_,_,_,e|.st,_,_,_,e=>e
 |.list _,_,_,f,_=>by cases f
 |.pair a b,x,cs,f,e=>by simp only[Kind.flat,Bool.and_eq_true] at f;obtain⟨c1,c2,rfl,h1,h2⟩:=e;rw[KC.enc f.1 h1,KC.enc f.2 h2];rfl
theorem Rows.enc {h:Heap}{k:Kind}(hk:k.flat=true) {xs:List k.T}{cs:List Value}(hr:Rows (KC h k) xs cs):cs=(xs.map (S7 k)).flatten:=by
 induction hr with
 |nil=>rfl
 |cons h _ ih=>rw[List.map_cons,List.flatten_cons,<-ih,KC.enc hk h]
theorem MU:∀ {k:Kind}{x:k.T},k.flat=true->(S7 k x).all QA=true
 |.i _,_,_|.bo,_,_|.st,_,_=>rfl
 |.list _,_,h=>by cases h
 |.pair a b,x,h=>by simp only[Kind.flat,Bool.and_eq_true] at h;simp only[S7,List.all_append,Bool.and_eq_true];exact⟨MU h.1,MU h.2⟩
section
variable {P:Program}
mutual
theorem KU {B:Heap}{pl:Nat->Value}{tb:Nat->Option Bool}{n:Nat}:∀ (s:SV) (v:Value),s.ret n=true->YN s=true->SR P B pl tb s v->v=Kj pl s
 |.val k x,v,h,_,hs=>by simp only[SR] at hs;have:=KC.enc h hs;simp only[Kj,<-this,List.headD_cons]
 |.nilS,v,_,_,hs|.nilP,v,_,_,hs|.nilM,v,_,_,hs|.nilF,v,_,_,hs=>by simp only[SR] at hs;exact hs
 |.lst j,v,_,_,hs=>by simp only[SR] at hs;exact hs.1
 |.agg l,v,h,hb,hs=>by simp only[SR] at hs;obtain⟨cs,rfl,h2⟩:=hs;rw[NX l cs h hb h2];rfl
 |.tup l,v,h,hb,hs=>by simp only[SR] at hs;obtain⟨cs,rfl,h2⟩:=hs;rw[NX l cs h hb h2];rfl
 |.box _ _,_,_,hb,_|.map _,_,_,hb,_=>by cases hb
 |.any,_,h,_,_|.bid _ _,_,h,_,_|.grd _ _,_,h,_,_|.sub _ _ _ _,_,h,_,_|.elp _ _ _ _,_,h,_,_|.rop _ _ _ _,_,h,_,_|.cp _ _,_,h,_,_|.fn _ _ _,_,h,_,_|.pf _ _ _ _,_,h,_,_=>by cases h
theorem NX {B:Heap}{pl:Nat->Value}{tb:Nat->Option Bool}{n:Nat}:∀ (s:List SV) (v:List Value),SVs.ret n s=true->Ub s=true->SRs P B pl tb s v->v=Y5 pl s
 |[],v,_,_,hs=>by simp only[SRs] at hs;exact hs
 |s::ss,v,h,hb,hs=>by simp only[SVs.ret,Bool.and_eq_true] at h;simp only[Ub,Bool.and_eq_true] at hb;simp only[SRs] at hs;obtain⟨x,y,rfl,h1,h2⟩:=hs;rw[KU s x h.1 hb.1 h1,NX ss y h.2 hb.2 h2];rfl
end
theorem Q03 {k:Kind}{x:k.T}(h:k.flat=true):QA ((S7 k x).headD poison)=true\/(S7 k x).headD poison=poison:=by
 have:=MU (x:=x) h;cases e:S7 k x with
 |nil=>exact .inr rfl
 |cons a l=>rw[e] at this;simp only[List.all_cons,Bool.and_eq_true] at this;exact .inl this.1
mutual
theorem Ax {n m:Nat}{π:Nat->Nat}{p q:Nat->Value}(h:∀ j,j<m->Ren n π (p j) (q j)):∀ (s:SV),s.ret m=true->YN s=true->Ren n π (Kj p s) (Kj q s)
 |.val k x,hr,_=>by
  simp only[Kj];rcases Q03 (x:=x) hr with h|h
  .exact .plain _ h
  .rw[h];exact .poison _
 |.nilS,_,_|.nilP,_,_|.nilM,_,_|.nilF,_,_=>.plain _ rfl
 |.lst j,hr,_=>h j (by simpa [SV.ret,Nat.blt_eq] using hr)
 |.agg l,hr,hb=>by have:=BD h l hr hb;simp only[Kj];refine .agg _ _ (by simpa using this.1) fun i h1 h2=>this.2 i _ _ (by simp) (by simp)
 |.tup l,hr,hb=>by have:=BD h l hr hb;simp only[Kj];refine .tuple _ _ (by simpa using this.1) fun i h1 h2=>this.2 i _ _ (by simp) (by simp)
 |.box _ _,_,hb|.map _,_,hb=>by cases hb
 |.any,h,_|.bid _ _,h,_|.grd _ _,h,_|.sub _ _ _ _,h,_|.elp _ _ _ _,h,_|.rop _ _ _ _,h,_|.cp _ _,h,_|.fn _ _ _,h,_|.pf _ _ _ _,h,_=>by cases h
theorem BD {n m:Nat}{π:Nat->Nat}{p q:Nat->Value}(h:∀ j,j<m->Ren n π (p j) (q j)):∀ (s:List SV),SVs.ret m s=true->Ub s=true->LRen n π (Y5 p s) (Y5 q s)
 |[],_,_=>⟨rfl,fun i v c hv=>by simp[Y5] at hv⟩
 |s::ss,hr,hb=>by
  simp only[SVs.ret,Bool.and_eq_true] at hr;simp only[Ub,Bool.and_eq_true] at hb;have h1:=Ax h s hr.1 hb.1;have h2:=BD h ss hr.2 hb.2;refine⟨by simp[Y5,h2.1],fun i v c hv hc=>?_⟩;cases i with
  |zero=>simp[Y5] at hv hc;subst hv;subst hc;exact h1
  |succ i=>simp[Y5] at hv hc;exact h2.2 i v c hv hc
end
mutual
theorem Lu {m:Nat}{S:Nat->Prop}{p q:Nat->Value}(h:∀ j,j<m->Weak S (p j) (q j)):∀ (s:SV),s.ret m=true->YN s=true->Weak S (Kj p s) (Kj q s)
 |.val k x,_,_=>.refl _
 |.nilS,_,_|.nilP,_,_|.nilM,_,_|.nilF,_,_=>.refl _
 |.lst j,hr,_=>h j (by simpa [SV.ret,Nat.blt_eq] using hr)
 |.agg l,hr,hb=>by have:=GG h l hr hb;simp only[Kj];exact .agg _ _ this.1 this.2
 |.tup l,hr,hb=>by have:=GG h l hr hb;simp only[Kj];exact .tuple _ _ this.1 this.2
 |.box _ _,_,hb|.map _,_,hb=>by cases hb
 |.any,h,_|.bid _ _,h,_|.grd _ _,h,_|.sub _ _ _ _,h,_|.elp _ _ _ _,h,_|.rop _ _ _ _,h,_|.cp _ _,h,_|.fn _ _ _,h,_|.pf _ _ _ _,h,_=>by cases h
theorem GG {m:Nat}{S:Nat->Prop}{p q:Nat->Value}(h:∀ j,j<m->Weak S (p j) (q j)):∀ (s:List SV),SVs.ret m s=true->Ub s=true->(Y5 p s).length=(Y5 q s).length/\∀ (i:Nat) (a b:Value),(Y5 p s)[i]?=some a->(Y5 q s)[i]?=some b->Weak S a b
 |[],_,_=>⟨rfl,fun i v c hv=>by simp[Y5] at hv⟩
 |s::ss,hr,hb=>by
  simp only[SVs.ret,Bool.and_eq_true] at hr;simp only[Ub,Bool.and_eq_true] at hb;have h1:=Lu h s hr.1 hb.1;have h2:=GG h ss hr.2 hb.2;refine⟨by simp[Y5,h2.1],fun i v c hv hc=>?_⟩;cases i with
  |zero=>simp[Y5] at hv hc;subst hv;subst hc;exact h1
  |succ i=>simp[Y5] at hv hc;exact h2.2 i v c hv hc
end
theorem KC.ofEnc {h:Heap}:∀ {k:Kind}{x:k.T},k.flat=true->KC h k x (S7 k x)
 |.i _,_,_|.bo,_,_|.st,_,_=>by simp[KC,S7]
 |.list _,_,f=>by cases f
 |.pair a b,x,f=>by simp only[Kind.flat,Bool.and_eq_true] at f;exact⟨_,_,rfl,KC.ofEnc f.1,KC.ofEnc f.2⟩
theorem Rows.ofEnc {h:Heap}{k:Kind}(hk:k.flat=true):∀ xs:List k.T,Rows (KC h k) xs (xs.map (S7 k)).flatten
 |[]=>.nil
 |x::xs=>by rw[List.map_cons,List.flatten_cons];exact .cons (KC.ofEnc hk) (Rows.ofEnc hk xs)
mutual
theorem Ru {pl:Nat->Value}{m:Nat}(h:∀ j,j<m->∃ a n c,pl j=.slice a n c):∀ (s:SV),s.ret m=true->YN s=true->SR P hNil pl ZH s (Kj pl s)
 |.val k x,hr,hb=>by have h1:=KC.ofEnc (h:=hNil) (x:=x) hr;have h2:=KC.length h1;rw[Kind.one_size hb] at h2;obtain⟨c,e⟩:=List.length_eq_one_iff.1 h2;simp only[Kj,SR,e,List.headD_cons];rw[e] at h1;exact h1
 |.nilS,_,_|.nilP,_,_|.nilM,_,_|.nilF,_,_=>by simp[Kj,SR]
 |.lst j,hr,_=>by simp only[Kj,SR];exact⟨trivial,h j (by simpa [SV.ret,Nat.blt_eq] using hr)⟩
 |.agg l,hr,hb=>by simp only[Kj,SR];exact⟨_,rfl,Rz h l hr hb⟩
 |.tup l,hr,hb=>by simp only[Kj,SR];exact⟨_,rfl,Rz h l hr hb⟩
 |.box _ _,_,hb|.map _,_,hb=>by cases hb
 |.any,h,_|.bid _ _,h,_|.grd _ _,h,_|.sub _ _ _ _,h,_|.elp _ _ _ _,h,_|.rop _ _ _ _,h,_|.cp _ _,h,_|.fn _ _ _,h,_|.pf _ _ _ _,h,_=>by cases h
theorem Rz {pl:Nat->Value}{m:Nat}(h:∀ j,j<m->∃ a n c,pl j=.slice a n c):∀ (s:List SV),SVs.ret m s=true->Ub s=true->SRs P hNil pl ZH s (Y5 pl s)
 |[],_,_=>by simp[Y5,SRs]
 |s::ss,hr,hb=>by simp only[SVs.ret,Bool.and_eq_true] at hr;simp only[Ub,Bool.and_eq_true] at hb;simp only[Y5,SRs];exact⟨_,_,rfl,Ru h s hr.1 hb.1,Rz h ss hr.2 hb.2⟩
end
theorem Q5g {σ:Heap}{bs:List OB}(hl:bs.all OB.isL=true) {j:Nat}(hj:j<bs.length):∃ a n c,PK σ bs j=.slice a n c:=by
 have hb:=List.all_eq_true.1 hl _ (List.getElem_mem hj);simp only[PK,List.getElem?_eq_getElem hj];cases e:bs[j] with
 |lst ty k xs nl=>cases nl<;>simp
 |_=>rw[e] at hb;cases hb
theorem Fa {σ0 σf:Heap}(hA:Agree σ0 σf) (hn:σ0.n<=σf.n) {v:SV}{bs:List OB}(hv:v.ret bs.length=true) (cH:YN v=true) (hb:bs.all OB.ret=true) (hl:bs.all OB.isL=true) {pl:Nat->Value}{u:Value}
  (ao:∀ j b,bs[j]?=some b->OR P hNil pl ZH σf (pl j) b/\∀ i,oid (pl j)=some i->σ0.n<=i)
  (fI:∀ j j' i,j<bs.length->j'<bs.length->j≠j'->oid (pl j)=some i->oid (pl j')=some i->False) (hu:SR P hNil pl ZH v u) :
  DropTo σ0 u σf (Kj (PK σ0 bs) v) (Mr σ0 bs):=by
 have cB:=KU v u hv cH hu;subst cB;have kind:∀ j,j<bs.length->∃ ty k xs nl,bs[j]?=some (.lst ty k xs nl)/\k.flat=true/\((nl=true/\xs=[]/\pl j=.slice none 0 0)\/(nl=false/\∃ i cap c t,pl j=.slice (some ⟨i,0,none⟩) xs.length cap/\xs.length<=cap/\σ0.n<=i/\σf.get i=some (.cells c ⟨k.size,ty⟩ true t)/\c.take (xs.length*k.size)=(xs.map (S7 k)).flatten/\Rows (KC hNil k) xs (xs.map (S7 k)).flatten)):=by
  intro j hj;have e:=List.getElem?_eq_getElem hj;have h1:=List.all_eq_true.1 hb _ (List.getElem_mem hj);have h2:=List.all_eq_true.1 hl _ (List.getElem_mem hj);obtain⟨ho,hi⟩:=ao j _ e;cases df:bs[j] with
  |lst ty k xs nl =>
   rw[df] at e ho h1;refine⟨ty,k,xs,nl,e,h1,?_⟩;rcases ho with⟨k1,k2,k3⟩|⟨k0,i,cap,c,t,k1,k2,k3,k4,k5⟩
   .exact .inl ⟨k1,k2,k3⟩
   .have k6:=Rows.enc h1 k5;exact .inr ⟨k0,i,cap,c,t,k1,k2,hi i (by rw[k1];rfl),k3,k6,by rw[<-k6];exact k5⟩
  |_=>rw[df] at h2;cases h2
 let S:Nat->Bool:=fun i=>(List.range bs.length).any fun j=>decide (oid (pl j)=some i);have hS:∀ i,S i=true<->∃ j,j<bs.length/\oid (pl j)=some i:=fun i=>by simp only[S,List.any_eq_true,List.mem_range,decide_eq_true_eq]
 let σw:Heap:=⟨fun i=>if S i=true then ((List.range bs.length).find? fun j=>decide (oid (pl j)=some i)).bind fun j=>(bs[j]?).bind Q0u else σf.get i,σf.n,fun i hi=>by
  by_cases h:S i=true
  .obtain⟨j,hj,bD⟩:=(hS i).1 h;obtain⟨ty,k,xs,nl,_,_,h3⟩:=kind j hj;rcases h3 with⟨_,_,k3⟩|⟨_,i',cap,c,t,k1,_,_,k3,_⟩
   .rw[k3] at bD;cases bD
   .rw[k1] at bD;obtain rfl:=osj bD;exact absurd (σf.lt k3) (Nat.not_lt.2 hi)
  .rw[if_neg h];exact σf.wf i hi⟩
 have eK:∀ j i,j<bs.length->oid (pl j)=some i->σw.get i=(bs[j]?).bind Q0u:=fun j i hj bD=>by
  have h1:S i=true:=(hS i).2 ⟨j,hj,bD⟩;show (if S i=true then _ else _)=_;rw[if_pos h1];cases hf:(List.range bs.length).find? fun j=>decide (oid (pl j)=some i) with
  |none=>have:=List.find?_eq_none.1 hf j (List.mem_range.2 hj);simp[bD] at this
  |some j' =>have h2:=List.find?_some hf;have h3:=List.mem_range.1 (List.mem_of_find?_eq_some hf);have h4:j'=j:=Classical.byContradiction fun aC=>fI j' j i h3 hj aC (by simpa using h2) bD;subst h4;rfl
 let q:Nat->Value:=fun j=>match pl j with
  |.slice (some a) n _=>.slice (some a) n n
  |v=>v
 have hq:∀ j,j<bs.length->Weak (fun i=>S i=true) (pl j) (q j):=fun j hj=>by
  obtain⟨ty,k,xs,nl,_,_,h3⟩:=kind j hj;rcases h3 with⟨_,_,k3⟩|⟨_,i',cap,c,t,k1,k2,_,k3,_⟩
  .simp only[q,k3];exact .refl _
  .simp only[q,k1];exact .sl _ _ _ ((hS i').2 ⟨j,hj,by rw[k1];rfl⟩) k2
 have n_:DropTo σ0 (Kj pl v) σf (Kj q v) σw:=by
  refine DropTo.weaken S (fun i hi=>?_) rfl hn (fun i hi=>?_) (fun i hi=>?_) (Lu hq v hv cH)
  .obtain⟨j,hj,bD⟩:=(hS i).1 hi;exact(ao j _ (List.getElem?_eq_getElem hj)).2 i bD
  .show (if S i=true then _ else _)=_;rw[if_neg (by simp[hi])]
  .obtain⟨j,hj,bD⟩:=(hS i).1 hi;obtain⟨ty,k,xs,nl,e,_,h3⟩:=kind j hj;rcases h3 with⟨_,_,k3⟩|⟨k0,i',cap,c,t,k1,k2,_,k3,k4,_⟩
   .rw[k3] at bD;cases bD
   .rw[k1] at bD;obtain rfl:=osj bD;refine⟨c,_,true,t,xs.length*k.size,k3,?_⟩;rw[eK j _ hj (by rw[k1];rfl),e];simp only[Option.bind_some,Q0u,k0];rw[k4];rfl
 have h_:∀ j i,j<bs.length->oid (pl j)=some i->i<σf.n:=fun j i hj bD=>by
  obtain⟨ty,k,xs,nl,_,_,h3⟩:=kind j hj;rcases h3 with⟨_,_,k3⟩|⟨_,i',cap,c,t,k1,_,_,k3,_⟩
  .rw[k3] at bD;cases bD
  .rw[k1] at bD;obtain rfl:=osj bD;exact σf.lt k3
 let π:Nat->Nat:=fun i=>if i<σ0.n then i else match oid (pl (i-σ0.n)) with
  |some id=>id
  |none=>σf.n+i
 have vA:σw.n=σf.n:=rfl;have oa:DropTo σ0 (Kj q v) σw (Kj (PK σ0 bs) v) (Mr σ0 bs):=by
  refine DropTo.rename2 π (by simp[Mr]) (fun i hi=>⟨by simp[π,hi],?_,.inl ?_⟩) (fun i h1 h2=>?_) (fun i j h1 h2 h3 h4 he=>?_) (Ax (fun j hj=>?_) v hv cH)
  .have hs:S i=false:=by
    cases hs:S i with
    |false=>rfl
    |true=>obtain⟨j,hj,bD⟩:=(hS i).1 hs;have:=(ao j _ (List.getElem?_eq_getElem hj)).2 i bD;omega
   show (if i<σ0.n then _ else _)=(if S i=true then _ else _);rw[if_pos hi,if_neg (by simp[hs]),hA i hi]
  .have hs:S i=false:=by
    cases hs:S i with
    |false=>rfl
    |true=>obtain⟨j,hj,bD⟩:=(hS i).1 hs;have:=(ao j _ (List.getElem?_eq_getElem hj)).2 i bD;omega
   show (if S i=true then _ else _)=_;rw[if_neg (by simp[hs]),hA i hi]
  .have hj:i-σ0.n<bs.length:=by simp[Mr] at h2;omega
   have bj:¬ i<σ0.n:=by omega
   obtain⟨ty,k,xs,nl,e,qV,h3⟩:=kind _ hj;have ob:(Mr σ0 bs).get i=(bs[i-σ0.n]?).bind Q0u:=by show (if i<σ0.n then _ else _)=_;rw[if_neg bj]
   rcases h3 with⟨k0,_,k3⟩|⟨k0,i',cap,c,t,k1,k2,lT,k3,k4,_⟩
   .have hp:π i=σf.n+i:=by simp only[π,if_neg bj,k3,oid]
    refine⟨by omega,.inl ⟨?_,σw.wf _ (by rw[hp,vA];omega)⟩⟩;rw[ob,e];simp[Q0u,k0]
   .have hp:π i=i':=by simp only[π,if_neg bj,k1,oid]
    rw[hp];have hw:=eK _ i' hj (by rw[k1];rfl);rw[e] at hw;simp only[Option.bind_some,Q0u,k0] at hw;refine⟨lT,.inr ⟨_,_,?_,hw,BRen.plain ?_⟩⟩
    .rw[ob,e];simp[Q0u,k0]
    .simp only[Blk.plain,List.all_flatten,List.all_map];rw[List.all_eq_true];intro x _;exact MU qV
  .have hi:i-σ0.n<bs.length:=by simp[Mr] at h2;omega
   have hj:j-σ0.n<bs.length:=by simp[Mr] at h4;omega
   have gm:¬ i<σ0.n:=by omega
   have vB:¬ j<σ0.n:=by omega
   simp only[π,if_neg gm,if_neg vB] at he;cases e1:oid (pl (i-σ0.n)) with
   |none =>
    cases e2:oid (pl (j-σ0.n)) with
    |none=>rw[e1,e2] at he;simp only at he;omega
    |some b=>rw[e1,e2] at he;have:=h_ _ b hj e2;simp only at he;omega
   |some a =>
    cases e2:oid (pl (j-σ0.n)) with
    |none=>rw[e1,e2] at he;have:=h_ _ a hi e1;simp only at he;omega
    |some b =>rw[e1,e2] at he;simp only at he;subst he;have:i-σ0.n=j-σ0.n:=Classical.byContradiction fun aC=>fI _ _ a hi hj aC e1 e2;omega
  .obtain⟨ty,k,xs,nl,e,_,h3⟩:=kind j hj;rcases h3 with⟨k0,kx,k3⟩|⟨k0,i',cap,c,t,k1,k2,_,k3,_⟩
   .simp only[PK,e,k0,if_true,q,k3];exact .plain _ rfl
   .simp only[PK,e,k0,Bool.false_eq_true,if_false,q,k1];have hp:π (σ0.n+j)=i':=by
     have:¬ σ0.n+j<σ0.n:=by omega
     simp only[π,if_neg this,Nat.add_sub_cancel_left,k1,oid]
    have:=Ren.sl (n:=(Mr σ0 bs).n) (π:=π) (σ0.n+j) 0 xs.length xs.length (by simp[Mr];omega)
    rwa [hp] at this
 exact n_.trans oa
def OB.wfL:OB->Prop
 |.lst _ _ xs nl=>nl=true->xs=[]
 |_=>True
theorem H5 (σ0:Heap) {v:SV}{bs:List OB}(hv:v.ret bs.length=true) (cH:YN v=true) (hb:bs.all OB.ret=true) (hl:bs.all OB.isL=true) (hw:∀ b∈bs,b.wfL):Ret P σ0 v bs (Kj (PK σ0 bs) v) (Mr σ0 bs):=by
 have kind:∀ j,j<bs.length->∃ ty k xs nl,bs[j]?=some (.lst ty k xs nl)/\k.flat=true/\(nl=true->xs=[]):=fun j hj=>by
  have e:=List.getElem?_eq_getElem hj;have h1:=List.all_eq_true.1 hb _ (List.getElem_mem hj);have h2:=List.all_eq_true.1 hl _ (List.getElem_mem hj);have h3:=hw _ (List.getElem_mem hj);cases df:bs[j] with
  |lst ty k xs nl=>rw[df] at e h1 h3;exact⟨ty,k,xs,nl,e,h1,h3⟩
  |_=>rw[df] at h2;cases h2
 refine⟨⟨?_,?_⟩,?_,PK σ0 bs,fun j b hj=>?_,fun j j' i hj dy aC h1 h2=>?_,Ru (fun j hj=>Q5g hl hj) v hv cH⟩
 .refine⟨by simp[Mr],fun i b hg=>?_⟩;show (if i<σ0.n then _ else _)=_;rw[if_pos (σ0.lt hg)];exact hg
 .refine⟨by simp[Mr],fun i hi hg=>?_⟩;show (if i<σ0.n then _ else _)=_;rw[if_pos hi];exact hg
 .rintro rfl;apply Heap.ext'
  .intro i;show (if i<σ0.n then _ else _)=_;by_cases hi:i<σ0.n
   .rw[if_pos hi]
   .rw[if_neg hi,σ0.wf i (by omega)];rfl
  .simp[Mr]
 .have cC:j<bs.length:=(List.getElem?_eq_some_iff.1 hj).1;obtain⟨ty,k,xs,nl,e,qV,h3⟩:=kind j cC;obtain rfl:=osj (e.symm.trans hj);cases nl with
  |true =>
   have hp:PK σ0 bs j=.slice none 0 0:=by simp[PK,e]
   rw[hp];exact⟨.inl ⟨rfl,h3 rfl,rfl⟩,fun i hi=>by cases hi⟩
  |false =>
   have hp:PK σ0 bs j=.slice (some ⟨σ0.n+j,0,none⟩) xs.length xs.length:=by simp[PK,e]
   have k5:=Rows.ofEnc (h:=hNil) qV xs;have ga:=k5.length KC.rows_len;rw[hp];refine⟨.inr ⟨rfl,σ0.n+j,xs.length,(xs.map (S7 k)).flatten,false,rfl,Nat.le_refl _,?_,by omega,?_⟩,fun i hi=>?_⟩
   .show (if σ0.n+j<σ0.n then _ else _)=_;rw[if_neg (by omega),Nat.add_sub_cancel_left,e];simp[Q0u]
   .rw[List.take_of_length_le (by omega)];exact k5
   .obtain rfl:=osj hi;exact⟨σ0.wf _ (by simp),by simp⟩
 .obtain⟨ty,k,xs,nl,e,_,h3⟩:=kind j hj;obtain⟨mK,k',cI,lQ,e',_,ic⟩:=kind j' dy;simp only[PK,e] at h1;simp only[PK,e'] at h2;cases nl with
  |true=>simp[Oid,oid] at h1
  |false =>
   cases lQ with
   |true=>simp[Oid,oid] at h2
   |false=>simp[Oid,oid] at h1 h2;omega
end
end Go.V
namespace Go.V
open Go
section
variable {P:Program}{B F:Heap}{pl:Nat->Value}{tb:Nat->Option Bool}{own:Own}{σ:Heap}
mutual
theorem FL {bx:List SV->Nat->SV}(hle:B.Le σ) (ax:∀ d,OR P B pl tb σ (pl d) (Qd own d))
  (kJ:∀ l off b c e t,σ.get b=some (.cells c e true t)->SRs P B pl tb l c->SR P σ Jq ZH (bx l off) (.pointer (some ⟨b,off,none⟩))) :
  ∀ (s:SV) (v:Value),SR P B pl tb s v->SR P σ Jq ZH (Pd own bx s) v
 |.any,v,h=>by simp[Pd,SR]
 |.val k x,v,h=>by simp only[Pd,SR] at h |-;exact h.mono hle
 |.bid n c,v,h=>by simp only[Pd,SR] at h |-;obtain⟨rfl,_⟩:=h;rfl
 |.grd gs s,v,h=>by simp[Pd,SR]
 |.nilS,v,h=>by simp only[Pd,SR] at h |-;exact h
 |.nilP,v,h=>by simp only[Pd,SR] at h |-;exact h
 |.nilM,v,h=>by simp only[Pd,SR] at h |-;exact h
 |.nilF,v,h=>by simp only[Pd,SR] at h |-;exact h
 |.lst o,v,h=>by
  simp only[Pd];split
  .rename_i ty k xs nl ho;have:view own k (.lst o)=some xs:=by simp[view,ho,Mh]
   simp only[SR,KC];exact⟨v,rfl,(XJ hle ax this h).mono (Heap.Le.refl _) fun _ _ e=>e.mono hle⟩
  .simp[SR]
 |.sub o lo n sz,v,h=>by
  simp only[Pd];split
  .rename_i ty k xs nl ho;split
   .rename_i aE;have:view own k (.sub o lo n sz)=some ((xs.drop lo).take n):=by simp[view,ho,Mh,aE]
    simp only[SR,KC];exact⟨v,rfl,(XJ hle ax this h).mono (Heap.Le.refl _) fun _ _ e=>e.mono hle⟩
   .simp[SR]
  .simp[SR]
 |.elp o i off sz,v,h=>by simp[Pd,SR]
 |.dd o w,v,h=>by
  simp only[Pd];simp only[SR] at h;split
  .rename_i ty q k xs nl hole ho;have ao:=ax o;rw[ho] at ao;have dk:=DP.le ao;split
   .split
    .obtain⟨h1,_⟩:=h;simp only[SR,KC];refine⟨v,rfl,?_⟩;rw[h1];exact(DP.sl ao).mono dk fun _ _ e=>e.mono dk
    .simp[SR]
   .simp only[SR];exact KC.mono dk h
   .simp only[SR];exact KC.mono dk h.1
   .simp[SR]
  .simp[SR]
 |.map o,v,h=>by simp[Pd,SR]
 |.tup l,v,h=>by simp[Pd,SR]
 |.box o off,v,h=>by
  simp only[Pd];split
  .rename_i l _ ho;have ao:=ax o;rw[ho] at ao;obtain⟨i,c,e,t,h1,h2,h3,_⟩:=ao;simp only[SR] at h;obtain⟨b,h4,rfl⟩:=h;rw[h4] at h1;obtain rfl:=(by simpa using h1:b=i);exact kJ l off b c e t h2 h3
  .simp[SR]
 |.rop k l i off,v,h=>by simp only[Pd];exact SR.mono (tb:=tb) hle (fun n c hn=>hn) (.rop k l i off) v h |> fun h=>by simp only[SR] at h |-;exact h
 |.cp l off,v,h=>by simp only[Pd,SR] at h |-;obtain⟨b,c,e,wr,t,h1,h2,h3⟩:=h;exact⟨b,c,e,wr,t,hle.2 _ _ h1,h2,Jm hle ax kJ l c h3⟩
 |.agg l,v,h=>by simp only[Pd,SR] at h |-;obtain⟨cs,h1,h2⟩:=h;exact⟨cs,h1,Jm hle ax kJ l cs h2⟩
 |.fn f a b,v,h=>by simp only[Pd,SR] at h |-;obtain⟨x,y,h1,h2,h3⟩:=h;exact⟨x,y,h1,Jm hle ax kJ a x h2,Jm hle ax kJ b y h3⟩
 |.pf ks r cQ p,v,h=>by simp only[Pd,SR] at h |-;exact h.mono hle
theorem Jm {bx:List SV->Nat->SV}(hle:B.Le σ) (ax:∀ d,OR P B pl tb σ (pl d) (Qd own d))
  (kJ:∀ l off b c e t,σ.get b=some (.cells c e true t)->SRs P B pl tb l c->SR P σ Jq ZH (bx l off) (.pointer (some ⟨b,off,none⟩))) :
  ∀ (s:List SV) (v:List Value),SRs P B pl tb s v->SRs P σ Jq ZH (He own bx s) v
 |[],v,h=>by simp only[He,SRs] at h |-;exact h
 |s::ss,v,h=>by simp only[He,SRs] at h |-;obtain⟨x,y,h1,h2,h3⟩:=h;exact⟨x,y,h1,FL hle ax kJ s x h2,Jm hle ax kJ ss y h3⟩
end
theorem KP (hle:B.Le σ) (ax:∀ d,OR P B pl tb σ (pl d) (Qd own d)) {l:List SV}{v:List Value}(h:SRs P B pl tb l v):SRs P σ Jq ZH (BP own l) v:=by
 have h0:∀ {l v},SRs P B pl tb l v->SRs P σ Jq ZH (Z3a own l) v:=fun h=>Jm hle ax (fun _ _ _ _ _ _ _ _=>by simp[SR]) _ _ h;have h1:∀ {l v},SRs P B pl tb l v->SRs P σ Jq ZH (Z31 own l) v:=fun h=>Jm hle ax (fun l off b c e t hg hs=>by
  simp only[SR];exact⟨b,c,e,true,t,hg,rfl,h0 hs⟩) _ _ h
 exact Jm hle ax (fun l off b c e t hg hs=>by
  simp only[SR];exact⟨b,c,e,true,t,hg,rfl,h1 hs⟩) _ _ h
mutual
theorem Q0g {p q:Nat->Value}{n:Nat}(h:∀ j,j<n->p j=q j):∀ (s:SV),s.ret n=true->Kj p s=Kj q s
 |.val _ _,_|.nilS,_|.nilP,_|.nilM,_|.nilF,_=>by simp[Kj]
 |.lst j,hr=>by simp only[Kj];exact h j (by simpa [SV.ret,Nat.blt_eq] using hr)
 |.agg l,hr=>by simp only[Kj];rw[TN h l hr]
 |.tup l,hr=>by simp only[Kj];rw[TN h l hr]
 |.box _ _,_|.map _,_=>by simp[Kj]
 |.dd _ _,_=>by simp[Kj]
 |.any,h|.bid _ _,h|.grd _ _,h|.sub _ _ _ _,h|.elp _ _ _ _,h|.rop _ _ _ _,h|.cp _ _,h|.fn _ _ _,h|.pf _ _ _ _,h=>by cases h
theorem TN {p q:Nat->Value}{n:Nat}(h:∀ j,j<n->p j=q j):∀ (s:List SV),SVs.ret n s=true->Y5 p s=Y5 q s
 |[],_=>rfl
 |s::ss,hr=>by simp only[SVs.ret,Bool.and_eq_true] at hr;simp only[Y5];rw[Q0g h s hr.1,TN h ss hr.2]
end
theorem Zg {cs:List (Nat×CSp)}(az:CsOk P cs) {f:SV}{args:List SV}{c:Prop}{v:SV}{bs:List OB}{fV:Value}{vs:List Value}(hf:SR P σ Jq ZH f fV) (ha:SRs P σ Jq ZH args vs)
  (h:Kg cs f args=some (c,v,bs)) (hv:v.ret bs.length=true) (hb:bs.all OB.ret=true) (hc:c):∃ g a b,fV=.func (.func g) a b/\(VCalled P g (a.toList++vs++b.toList) σ fun u σ'=>Ret P σ v bs u σ') /\
  (bs.all OB.isL=true->YN v=true->VCalled P g (a.toList++vs++b.toList) σ fun u σ'=>u=Kj (PK σ bs) v/\σ'=Mr σ bs):=by
 have gen:(gap cs 3 f args).map (fun x=>(x.1,x.2,([]:List OB)))=some (c,v,bs)->∃ g a b,fV=.func (.func g) a b/\(VCalled P g (a.toList++vs++b.toList) σ fun u σ'=>Ret P σ v bs u σ') /\
   (bs.all OB.isL=true->YN v=true->VCalled P g (a.toList++vs++b.toList) σ fun u σ'=>u=Kj (PK σ bs) v/\σ'=Mr σ bs):=fun h=>by
  simp only[Option.map_eq_some_iff] at h;obtain⟨⟨c',v'⟩,h1,h2⟩:=h;simp only[Prod.mk.injEq] at h2;obtain⟨rfl,rfl,rfl⟩:=h2;obtain⟨h3,g,a,b,rfl,h4⟩:=Iq az 3 σ f args c' v' fV vs hf ha h1 hc;refine⟨g,a,b,rfl,h4.mono fun u σ' hu=>?_,fun _ cH=>h4.mono fun u σ' hu=>?_⟩
  .obtain⟨rfl,hu⟩:=hu;exact⟨⟨Heap.Le.refl _,Dead.refl _⟩,fun _=>rfl,Jq,(fun j b hj=>by simp at hj),(fun j j' i hj=>by simp at hj),hu⟩
  .obtain⟨rfl,hu⟩:=hu;have hz:Mr σ' []=σ':=(H5 (P:=P) σ' (v:=v') (bs:=[]) h3 cH rfl rfl (fun b hb=>by cases hb)).2.1 rfl;refine⟨?_,hz.symm⟩;rw[KU v' u h3 cH hu];exact Q0g (fun j hj=>by omega) v' h3
 cases f with
 |fn g a b =>
  simp only[Kg] at h;split at h
  .rename_i sp gQ;simp only[SR] at hf;obtain⟨x,y,rfl,h1,h2⟩:=hf;refine⟨g,x.toArray,y.toArray,rfl,?_⟩;simpa using az g sp gQ (gap cs 3) (Iq az 3) σ (a++args++b) (x++vs++y) c v bs ((h1.append ha).append h2) h hv hb hc
  .cases h
 |_=>exact gen h
theorem Gam.heap_get {s:St}{env:Env}{σ':Heap}(h:Gam P B F pl tb s env σ) (hl:σ.Le σ') {d:Nat}(aA:(Qd s.own d).live=true) {i:Nat}(hi:Oid (pl d) i):σ'.get i=σ.get i:=by
  have ah:=(h.obj d).id_lt aA hi;cases hb:σ.get i with
  |none =>
   have ao:=h.obj d;cases ho:Qd s.own d with
   |dead=>rw[ho] at aA;cases aA
   |lst ty k xs nl =>
    rw[ho] at ao;rcases ao with⟨_,_,h2⟩|⟨_,i',cap,c,t,h2,_,h3,_⟩
    .rw[h2] at hi;cases hi
    .rw[h2] at hi;obtain rfl:=osj hi;rw[h3] at hb;cases hb
   |cells l u=>rw[ho] at ao;obtain⟨i',c,e,t,h2,h3,_⟩:=ao;rw[h2] at hi;obtain rfl:=osj hi;rw[h3] at hb;cases hb
   |mapE kk vk m key n=>rw[ho] at ao;obtain⟨i',es,cl,r,e,h2,h3,_⟩:=ao;rw[h2] at hi;obtain rfl:=osj hi;rw[h3] at hb;cases hb
   |map kk vk m=>rw[ho] at ao;obtain⟨i',es,cl,h2,h3,_⟩:=ao;rw[h2] at hi;obtain rfl:=osj hi;rw[h3] at hb;cases hb
   |stk l vals=>rw[ho] at aA;cases aA
   |lpf l q s=>rw[ho] at ao aA;obtain⟨h2,_,h3⟩:=ao;rw[h2] at hi;obtain rfl:=osj hi;have h3:=h3 aA;rw[hb] at h3;cases h3
   |iter kk vk m dn=>rw[ho] at ao;obtain⟨j',i',es,cl,wr,seen,h2,h3,_⟩:=ao;rw[h2] at hi;obtain rfl:=osj hi;rw[h3] at hb;cases hb
   |deep ty q k xs nl hh =>rw[ho] at ao;obtain⟨is,_,d2,d3,_⟩:=DP.open ao;obtain⟨c,e,t,h⟩:=d2.cells i ((d3 i).1 hi);rw[h] at hb;cases hb
  |some b=>rw[hl.2 i b hb]
theorem Gam.heap {s:St}{env:Env}{σ':Heap}(h:Gam P B F pl tb s env σ) (hl:σ.Le σ'):Gam P B F pl tb s env σ' :=
 ⟨h.bf,h.le.trans hl,h.env,fun d=>(h.obj d).mono (Heap.Le.refl _) (fun _ _ h=>h) fun aA _i hi=>h.heap_get hl aA hi,h.fresh,h.sep,h.free⟩
theorem BI {env:Env}{σ0:Heap}{d nt:Nat}(eo:0<nt) (gu:Nat->Value) (bs:List OB) (hB:F.Le σ0)
  (ao:∀ j b,bs[j]?=some b->b.ret=true/\OR P hNil gu ZH σ (gu j) b/\∀ i,Oid (gu j) i->σ0.n<=i)
  (fI:∀ j j' i,j<bs.length->j'<bs.length->j≠j'->Oid (gu j) i->Oid (gu j') i->False) :
  ∀ (r:List OB) (j:Nat) (pl:Nat->Value) (s:St),bs.drop j=r->Gam P B F pl tb s env σ->(∀ k i,(Qd s.own k).live=true->Oid (pl k) i->i<σ0.n\/∃ j'<j,j'<bs.length/\Oid (gu j') i/\k=d+j'*nt)->(∀ j'<j,j'<bs.length->pl (d+j'*nt)=gu j') ->
   ∃ pl',Gam P B F pl' tb (s.makes d nt j r) env σ/\(∀ j'<bs.length,pl' (d+j'*nt)=gu j')/\∀ q,(∀ j'<bs.length,q≠d+j'*nt)->pl' q=pl q/\(Qd (s.makes d nt j r).own q).live=(Qd s.own q).live
 |[],j,pl,s,hr,hG,_,hp=>⟨pl,hG,fun j' dy=>hp j' (by
   have:=congrArg List.length hr;simp at this;omega) dy,fun q _=>⟨rfl,rfl⟩⟩
 |b::r,j,pl,s,hr,hG,hinv,hp=>by
  have cC:j<bs.length:=by
   rcases Nat.lt_or_ge j bs.length with h|h
   .exact h
   .rw[List.drop_eq_nil_of_le h] at hr;cases hr
  have df:bs[j]?=some b:=by
   have:(bs.drop j)[0]?=some b:=by rw[hr];rfl
   simpa using this
  have lh:bs.drop (j+1)=r:=by
   have:(bs.drop j).drop 1=r:=by rw[hr];rfl
   simpa [List.drop_drop,Nat.add_comm] using this
  obtain⟨h1,h2,h3⟩:=ao j b df;have cM:∀ j' ,j'≠j->d+j'*nt≠d+j*nt:=fun j' aC e=>aC (Nat.eq_of_mul_eq_mul_right eo (by omega));obtain⟨pl',k1,k2,k3⟩:∃ pl',Gam P B F pl' tb ((s.make (d+j*nt) b).makes d nt (j+1) r) env σ/\(∀ j'<bs.length,pl' (d+j'*nt)=gu j')/\∀ q,(∀ j'<bs.length,q≠d+j'*nt)->pl' q=Je pl (d+j*nt) (gu j) q/\(Qd ((s.make (d+j*nt) b).makes d nt (j+1) r).own q).live=(Qd (s.make (d+j*nt) b).own q).live:=by
   refine BI eo gu bs hB ao fI r (j+1) (Je pl (d+j*nt) (gu j)) _ lh (hG.make (d+j*nt) b (gu j) hG.le (fun _ _ _ _ _=>rfl) (h2.retd h1 fun _ _=>rfl) fun i _ hi=>⟨F.wf _ (by have:=h3 i hi;have:=hB.1;omega),fun k hk hl e=>?_⟩) (fun k i hl hi=>?_) fun j' dy qW=>?_
   .rcases hinv k i hl e with h|⟨j',dy,fA,he,_⟩
    .have:=h3 i hi;omega
    .exact fI j j' i cC fA (by omega) hi he
   .by_cases hk:k=d+j*nt
    .subst hk;simp only[Je,if_true] at hi;exact .inr ⟨j,by omega,cC,hi,rfl⟩
    .have cA:(Qd s.own k).live=true:=by
      simp only[St.make,St.kill,Qp,KI,if_neg hk] at hl
      rwa [OB.live_kill] at hl
     simp only[Je,if_neg hk] at hi;rcases hinv k i cA hi with h|⟨j',dy,h5⟩
     .exact .inl h
     .exact .inr ⟨j',by omega,h5⟩
   .by_cases e:j'=j
    .subst e;simp[Je]
    .simp only[Je,if_neg (cM j' e)];exact hp j' (by omega) qW
  refine⟨pl',k1,k2,fun q hq=>?_⟩;obtain⟨e1,e2⟩:=k3 q hq;refine⟨by rw[e1];simp[Je,hq j cC],?_⟩;show (Qd ((s.make (d+j*nt) b).makes d nt (j+1) r).own q).live=_;rw[e2];simp only[St.make,St.kill,Qp,KI,if_neg (hq j cC),OB.live_kill]
theorem Ret.gamF {s:St}{env:Env}{d nt:Nat}(eo:0<nt) (hG:Gam P B F pl tb s env σ) {v:SV}{bs:List OB}{u:Value}{σ':Heap}(hv:v.ret bs.length=true) (hb:bs.all OB.ret=true) (h:Ret P σ v bs u σ') :
  ∃ pl',Gam P B F pl' tb (s.makes d nt 0 bs) env σ'/\SR P B pl' tb (v.ren d nt) u/\∀ q,(∀ j'<bs.length,q≠d+j'*nt)->(Qd (s.makes d nt 0 bs).own q).live=(Qd s.own q).live/\pl' q=pl q/\((Qd s.own q).live=true->∀ i,Oid (pl q) i->σ'.get i=σ.get i):=by
 obtain⟨⟨h1,_⟩,_,gu,h2,h3,h4⟩:=h
 obtain⟨pl',h5,h6,h7⟩:=BI (tb:=tb) (d:=d) eo gu bs hG.le (fun j b hj=>⟨List.all_eq_true.1 hb b (List.mem_of_getElem? hj),(h2 j b hj).1,fun i hi=>((h2 j b hj).2 i hi).2⟩) h3 bs 0 pl s rfl (hG.heap h1)
  (fun k i hl hi=>.inl ((hG.obj k).id_lt hl hi)) (fun j' dy=>by omega)
 exact⟨pl',h5,SR.ren (tb:=ZH) (fun j hj=>h6 j hj) _ _ hv (SR.mono (tb:=ZH) (tb':=ZH) (AS B) (fun _ _ h=>h) _ _ h4),fun q hq=>⟨(h7 q hq).2,(h7 q hq).1,fun hl i hi=>hG.heap_get h1 hl hi⟩⟩
theorem Ret.gam {s:St}{env:Env}{d nt:Nat}(eo:0<nt) (hG:Gam P B F pl tb s env σ) {v:SV}{bs:List OB}{u:Value}{σ':Heap}(hv:v.ret bs.length=true) (hb:bs.all OB.ret=true) (h:Ret P σ v bs u σ') :
  ∃ pl',Gam P B F pl' tb (s.makes d nt 0 bs) env σ'/\SR P B pl' tb (v.ren d nt) u:=by
 obtain⟨pl',h1,h2,_⟩:=h.gamF eo hG hv hb;exact⟨pl',h1,h2⟩
end
end Go.V
namespace Go.V
open Go
section
variable {P:Program}
structure GBase (B0 F0 D0 B F σ:Heap):Prop where
 b:B0.Le B
 f:F0.Le F
 x:∀ i b,F0.get i=some b->B0.get i=none->B.get i=none
 d:Dead D0 σ
theorem GBase.of {B F σ:Heap}{σ':Heap}(_hB:B.Le F) (h:Dead σ σ'):GBase B F σ B F σ':=⟨.refl _,.refl _,fun _ _ _ h=>h,h⟩
theorem GBase.trans {B0 F0 D0 B F σ B' F' σ':Heap}(h:GBase B0 F0 D0 B F σ) (h':GBase B F σ B' F' σ'):GBase B0 F0 D0 B' F' σ' :=
 ⟨h.b.trans h'.b,h.f.trans h'.f,fun i b h1 h2=>h'.x i b (h.f.2 _ _ h1) (h.x i b h1 h2),h.d.trans h'.d⟩
def GRel (P:Program) (B0 F0 D0:Heap) (s:St) (env:Env) (σ:Heap):Prop:=∃ B F pl tb,GBase B0 F0 D0 B F σ/\Gam P B F pl tb s env σ
theorem Nq {B0 F0 D0 B F:Heap}{σ σ':Heap}(hB:GBase B0 F0 D0 B F σ) (h:Dead σ σ'):GBase B0 F0 D0 B F σ':=⟨hB.b,hB.f,hB.x,hB.d.trans h⟩
theorem Gam.evs {B F:Heap}{pl:Nat->Value}{tb:Nat->Option Bool}{s:St}{env:Env}{σ:Heap}(h:Gam P B F pl tb s env σ) {gs:List Gd}(hg:Gds tb gs) (x:Operand):SR P B pl tb (gev gs s.env x) (Q4 env x):=It hg h.env x
theorem Gds.nil {tb:Nat->Option Bool}:Gds tb []:=fun _ h=>by cases h
theorem Ff {gs:List Gd}{c:Prop}(h:Q85 gs c) (hg:∀ g∈gs,g.c=g.want):c:=by
 induction gs with
 |nil=>exact h
 |cons g gs ih=>exact ih (h (hg g (by simp))) fun g' dO=>hg g' (by simp[dO])
theorem Z6 {gs:List Gd}{cs:List Prop}{q:Prop}(h:RZ gs cs q):q/\((∀ g∈gs,g.c=g.want)->∀ c∈cs,c):=by
 induction cs with
 |nil=>exact⟨h,fun _ c hc=>by cases hc⟩
 |cons c cs ih =>
  obtain⟨h1,h2⟩:=h;obtain⟨h3,h4⟩:=ih h2;exact⟨h3,fun hg c' cJ=>by
   rcases List.mem_cons.1 cJ with rfl|cJ
   .exact Ff h1 hg
   .exact h4 hg c' cJ⟩
theorem Dead.push (σ:Heap) (b:Blk):Dead σ (σ.push b):=⟨by simp,fun i hi h=>by rw[Heap.get_push_lt _ _ hi];exact h⟩
theorem Dead.upd (σ:Heap) (j:Nat) (b:Blk) (hj:(σ.get j).isSome=true):Dead σ (σ.upd j b):=⟨by simp,fun i hi h=>by
 have:i≠j:=fun e=>by subst e;rw[h] at hj;cases hj
 rw[Heap.get_upd_ne _ _ this];exact h⟩
theorem Dead.kill (σ:Heap) (j:Nat):Dead σ (σ.kill j):=⟨by simp,fun i hi h=>by
 by_cases e:i=j
 .subst e;exact Heap.get_kill_self _ _
 .rw[Heap.get_kill_ne _ e];exact h⟩
theorem LQ {e:El}{bytes m:Nat}{σ σ':Heap}{s u:Value}{xs:List Value}(h:WA e bytes σ s m xs=some (u,σ')):Dead σ σ':=by
 unfold WA at h;split at h
 .split at h
  .obtain⟨rfl,rfl⟩:=QD h;exact Dead.refl _
  .split at h
   .obtain⟨rfl,rfl⟩:=QD h;exact Dead.push _ _
   .cases h
 .split at h
  .rename_i hg;split at h
   .split at h
    .obtain⟨rfl,rfl⟩:=QD h;exact Dead.refl _
    .split at h
     .split at h
      .obtain⟨rfl,rfl⟩:=QD h;exact Dead.upd _ _ _ (by rw[hg];rfl)
      .cases h
     .split at h
      .split at h
       .obtain⟨rfl,rfl⟩:=QD h;exact Dead.push _ _
       .split at h
        .obtain⟨rfl,rfl⟩:=QD h;exact(Dead.kill _ _).trans (Dead.push _ _)
        .cases h
      .cases h
   .cases h
  .cases h
 .split at h
  .split at h
   .obtain⟨rfl,rfl⟩:=QD h;exact Dead.push _ _
   .cases h
  .cases h
 .cases h
theorem YE {o:VOp}{ev:Operand->Value}{σ σ':Heap}{u:Value}(h:Q6 o ev σ=some (u,σ')):Dead σ σ':=by
 by_cases hk:o.kind=2
 .cases o<;>first|(cases hk;done)|skip
  case alloc t z=>obtain⟨rfl,rfl⟩:=QD h;exact Dead.push _ _
  case box t x =>
   simp only[Q6] at h;split at h
   .obtain⟨rfl,rfl⟩:=QD h;exact Dead.push _ _
   .cases h
  case buildSlice e z n ps =>
   simp only[Q6] at h;split at h
   .obtain⟨rfl,rfl⟩:=QD h;exact Dead.push _ _
   .cases h
  case makeSlice e b z l c =>
   simp only[Q6] at h;split at h
   .split at h
    .obtain⟨rfl,rfl⟩:=QD h;exact Dead.push _ _
    .cases h
   .cases h
  case store size a x =>
   simp only[Q6] at h;split at h
   .split at h
    .rename_i hg;split at h
     .obtain⟨rfl,rfl⟩:=QD h;exact Dead.upd _ _ _ (by rw[hg];rfl)
     .cases h
    .cases h
   .cases h
  case append e b x y =>
   simp only[Q6] at h;split at h
   .split at h
    .exact LQ h
    .cases h
   .cases h
  case slice size x lo hi mx =>
   simp only[Q6] at h;split at h
   .have sl:∀ {l hh:Nat}{m:Option Nat}{v:Value},WQ size σ v l hh m=some (u,σ')->Dead σ σ':=fun {l hh m v} h=>by
     unfold WQ at h;split at h
     .split at h
      .obtain⟨rfl,rfl⟩:=QD h;exact Dead.refl _
      .cases h
     .split at h
      .split at h
       .split at h
        .obtain⟨rfl,rfl⟩:=QD h;exact Dead.refl _
        .cases h
       .split at h
        .split at h
         .obtain⟨rfl,rfl⟩:=QD h;exact Dead.push _ _
         .split at h<;>(obtain⟨rfl,rfl⟩:=QD h;exact Dead.refl _)
        .cases h
      .cases h
     .cases h
    split at h
    .exact sl h
    .split at h
     .exact sl h
     .cases h
    .cases h
   .cases h
  case callF f a=>cases h
  case callV f a=>cases h
  case ext x =>
   cases x<;>first|(cases hk;done)|skip
   case makeMap=>obtain⟨rfl,rfl⟩:=QD h;exact Dead.push _ _
   case mapUpdate mk m k v =>
    simp only[Q6,Z5] at h;split at h
    .split at h
     .rename_i hm;split at h
      .obtain⟨rfl,rfl⟩:=QD h;refine Dead.upd _ _ _ ?_;unfold Heap.mapAt at hm;split at hm
       .rename_i hg;rw[hg];rfl
       .cases hm
      .cases h
     .cases h
    .cases h
   case mapEntry mk z m k =>
    simp only[Q6,Z5] at h;split at h
    .split at h
     .rename_i hm;split at h
      .split at h
       all_goals
        obtain⟨rfl,rfl⟩:=QD h;refine Dead.upd _ _ _ ?_;unfold Heap.mapAt at hm;split at hm
        .rename_i hg;rw[hg];rfl
        .cases hm
      .cases h
     .cases h
    .cases h
   case entryStore m s v =>
    simp only[Q6,Z5] at h;split at h
    .split at h
     .rename_i hm;split at h
      .split at h
       .obtain⟨rfl,rfl⟩:=QD h;refine Dead.upd _ _ _ ?_;unfold Heap.mapAt at hm;split at hm
        .rename_i hg;rw[hg];rfl
        .cases hm
       .cases h
      .cases h
     .cases h
    .cases h
   case delete mk m k =>
    simp only[Q6,Z5] at h;split at h
    .split at h
     .rename_i hm;split at h
      .obtain⟨rfl,rfl⟩:=QD h;refine Dead.upd _ _ _ ?_;unfold Heap.mapAt at hm;split at hm
       .rename_i hg;rw[hg];rfl
       .cases hm
      .cases h
     .cases h
    .cases h
   case rangeMap x =>
    simp only[Q6,Z5] at h;split at h
    .split at h
     .obtain⟨rfl,rfl⟩:=QD h;exact Dead.push _ _
     .cases h
    .cases h
   case nextMap x=>cases h
   case copy size a b =>
    simp only[Q6,Z5] at h;split at h
    .split at h
     .obtain⟨rfl,rfl⟩:=QD h;exact Dead.refl _
     .split at h
      .split at h
       .rename_i hg;split at h
        .obtain⟨rfl,rfl⟩:=QD h;exact Dead.upd _ _ _ (by rw[hg];rfl)
        .cases h
       .cases h
      .cases h
    .cases h
   case clear z x =>
    simp only[Q6,Z5] at h;split at h
    .split at h
     .obtain⟨rfl,rfl⟩:=QD h;exact Dead.refl _
     .split at h
      .split at h
       .rename_i hg;split at h
        .obtain⟨rfl,rfl⟩:=QD h;exact Dead.upd _ _ _ (by rw[hg];rfl)
        .cases h
       .cases h
      .cases h
    .cases h
   case strBytes e x =>
    simp only[Q6,Z5] at h;split at h
    .split at h
     .obtain⟨rfl,rfl⟩:=QD h;exact Dead.push _ _
     .cases h
    .cases h
   case unsafeStr e x n =>
    simp only[Q6,Z5] at h;split at h
    .split at h
     .obtain⟨rfl,rfl⟩:=QD h;exact Dead.refl _
     .split at h
      .split at h
       .rename_i hg;split at h
        .split at h
         .obtain⟨rfl,rfl⟩:=QD h;exact Dead.upd _ _ _ (by rw[hg];rfl)
         .cases h
        .cases h
       .cases h
      .cases h
    .cases h
 .obtain rfl:=G8 hk h;exact Dead.refl _
theorem UA {B F:Heap}{pl:Nat->Value}{tb:Nat->Option Bool}{s:St}{env:Env}{σ:Heap}(hG:Gam P B F pl tb s env σ) {x:Operand}{b:Bool}(h:Lx s.env x=some b):Q4 env x=.bool b:=by
 unfold Lx at h;split at h
 .rename_i j;split at h
  .rename_i gs v he;split at h
   .split at h
    .rename_i k y;split at h
     .obtain rfl:=osj h;have:=hG.env.getD j undef;rw[he] at this;simp only[SR] at this;have h2:=this.2.1 (fun g hg=>by cases hg);have h3:[env.getD j undef]=[Value.bool _]:=h2;exact(List.cons.inj h3).1
     .cases h
    .cases h
   .cases h
  .cases h
 .cases h
theorem Yk {B F:Heap}{pl:Nat->Value}{tb:Nat->Option Bool}{s:St}{env:Env}{σ:Heap}(hG:Gam P B F pl tb s env σ) {g:Option (Nat×Bool)}{t:Bool}(h:OX s.env g=some t):Zo env g=some t:=by
 unfold OX at h;split at h
 .cases h
 .rename_i j want;split at h
  .rename_i b hb;obtain rfl:=osj h;have:=UA hG hb;simp only[Q4] at this;simp only[Zo,this]
  .cases h
theorem Vm {B F:Heap}{pl:Nat->Value}{tb:Nat->Option Bool}{s:St}{env:Env}{σ:Heap}(hG:Gam P B F pl tb s env σ) {gs:List Gd}(hg:Gds tb gs) {c a b:Operand}{v:SV}(h:EZ gs s.env c a b=some v) :
  ∃ u,Q6 (.pick c a b) (Q4 env) σ=some (u,σ)/\SR P B pl tb v u:=by
 unfold EZ at h;split at h
 .rename_i t ht;have e:=UA hG ht;obtain rfl:=osj h;cases t with
  |true=>exact⟨Q4 env a,by simp only[Q6,e];rfl,hG.evs hg a⟩
  |false=>exact⟨Q4 env b,by simp only[Q6,e];rfl,hG.evs hg b⟩
 have hc:=hG.evs hg c;unfold Q4n at h;split at h
 .rename_i n t heq;rw[heq] at hc;simp only[SR] at hc;obtain⟨e,cR⟩:=hc;have ht:∀ w,t=w->Gds tb (gs++[⟨n,w,t⟩]):=fun w hw g dO=>by
   rcases List.mem_append.1 dO with h1|h1
   .exact hg g h1
   .obtain rfl:=List.mem_singleton.1 h1;exact⟨hw,cR⟩
  have hv:∀ u,(if t then Q4 env a else Q4 env b)=u->Q6 (.pick c a b) (Q4 env) σ=some (u,σ):=fun u hu=>by simp only[Q6,e];rw[<-hu]
  split at h
  .rename_i b';simp only[Option.map_eq_some_iff] at h;obtain⟨y,h1,rfl⟩:=h;refine⟨.bool (t||y),hv _ ?_,Zn _⟩;cases t with
   |true=>rfl
   |false=>simpa using X1 h1 (hG.evs (ht false rfl) _)
  .rename_i a' aC;simp only[Option.map_eq_some_iff] at h;obtain⟨x,h1,rfl⟩:=h;refine⟨.bool (t&&x),hv _ ?_,Zn _⟩;cases t with
   |true=>simpa using X1 h1 (hG.evs (ht true rfl) _)
   |false=>rfl
  .split at h
   .rename_i k x k' y h1 h2;split at h
    .rename_i hk;subst hk;obtain rfl:=osj h;refine⟨.int k (if t then x else y),hv _ ?_,Jz _ _⟩;cases t with
     |true=>have:=hG.evs (ht true rfl) a;rw[h1] at this;exact Zm rfl this
     |false=>have:=hG.evs (ht false rfl) b;rw[h2] at this;exact Zm rfl this
    .cases h
   .rename_i x y h1 h2;obtain rfl:=osj h;refine⟨.bool (if t then x else y),hv _ ?_,Zn _⟩;cases t with
    |true=>have:=hG.evs (ht true rfl) a;rw[h1] at this;exact X1 rfl this
    |false=>have:=hG.evs (ht false rfl) b;rw[h2] at this;exact X1 rfl this
   .cases h
 .cases h
theorem Gam.bid {B F:Heap}{pl:Nat->Value}{tb:Nat->Option Bool}{s:St}{env:Env}{σ:Heap}(hG:Gam P B F pl tb s env σ) {j:Nat}{v:SV}{c:Bool}(hv:∀ tb',(∀ n c,tb n=some c->tb' n=some c)->tb' s.nx=some c->SR P B pl tb' v (env.getD j undef)) :
  ∃ tb',(∀ n c,tb n=some c->tb' n=some c)/\tb' s.nx=some c/\Gam P B F pl tb' ⟨s.env.set j v,s.own,s.nx+1⟩ env σ:=by
 refine⟨fun n=>if n=s.nx then some c else tb n,?_,by simp,?_⟩
 .intro n c' hn;by_cases e:n=s.nx
  .rw[e,hG.free _ (Nat.le_refl _)] at hn;cases hn
  .simp only[if_neg e];exact hn
 .have hm:∀ n c',tb n=some c'->(fun n=>if n=s.nx then some c else tb n) n=some c':=fun n c' hn=>by
   by_cases e:n=s.nx
   .rw[e,hG.free _ (Nat.le_refl _)] at hn;cases hn
   .simp only[if_neg e];exact hn
  refine⟨hG.bf,hG.le,?_,fun d=>(hG.obj d).mono (Heap.Le.refl _) hm fun _ _ _=>rfl,hG.fresh,hG.sep,fun n hn=>?_⟩
  .have h1:=SRs.mono (Heap.Le.refl B) hm _ _ hG.env;by_cases hj:j<env.length
   .have:=h1.set j (hv _ hm (by simp))
    rwa [List.getD_eq_getElem?_getD,List.getElem?_eq_getElem hj,Option.getD_some,List.set_getElem_self] at this
   .have:s.env.set j v=s.env:=List.set_eq_of_length_le (by rw[hG.env.length];omega);rw[this];exact h1
  .have:n≠s.nx:=by simp only at hn;omega
   simp only[if_neg this];exact hG.free n (by simp only at hn;omega)
theorem Ce {gs:List Gd}(h:¬ ∀ g∈gs,g.c=g.want):∃ g∈gs,g.c≠g.want:=by
 rcases Classical.em (∃ g∈gs,g.c≠g.want) with h'|h'
 .exact h'
 .exact absurd (fun g hg=>Classical.byContradiction fun aC=>h' ⟨g,hg,aC⟩) h
theorem X3 {B F:Heap}{pl:Nat->Value}{tb:Nat->Option Bool}{s:St}{env:Env}{σ:Heap}(hG:Gam P B F pl tb s env σ) {j:Nat}{want:Bool}{gs:List Gd}{s':St}(h:Dm s j want=some (gs,s')) :
  ∃ tb',Gam P B F pl tb' s' env σ/\(∀ g∈gs,tb' g.id=some g.c)/\∃ b,Zo env (some (j,want))=some b/\(b=true->∀ g∈gs,g.c=g.want)/\(b=false->∃ g∈gs,g.c≠g.want):=by
 have hj:=hG.env.getD j undef;unfold Dm at h;split at h
 .rename_i c heq;obtain⟨rfl,rfl⟩:=QD h;rw[heq] at hj;have hb:env.getD j undef=.bool c:=X1 (s:=.val .bo c) rfl hj;obtain⟨tb',h1,h2,h3⟩:=hG.bid (j:=j) (v:=.bid s.nx c) (c:=c) fun tb' _ h=>by simp only[SR];exact⟨hb,h⟩
  refine⟨tb',h3,fun g hg=>by obtain rfl:=List.mem_singleton.1 hg;exact h2,c==want,by simp only[Zo,hb],fun e g hg=>?_,fun e=>⟨_,List.mem_singleton.2 rfl,?_⟩⟩
  .obtain rfl:=List.mem_singleton.1 hg;simpa using e
  .simpa using e
 .rename_i n c heq;obtain⟨rfl,rfl⟩:=QD h;rw[heq] at hj;simp only[SR] at hj;refine⟨tb,hG,fun g hg=>by obtain rfl:=List.mem_singleton.1 hg;exact hj.2,c==want,by simp only[Zo,hj.1],fun e g hg=>?_,fun e=>⟨_,List.mem_singleton.2 rfl,?_⟩⟩
  .obtain rfl:=List.mem_singleton.1 hg;simpa using e
  .simpa using e
 .rename_i pL c heq;obtain⟨rfl,rfl⟩:=QD h;rw[heq] at hj;simp only[SR] at hj;obtain⟨⟨k1,k0⟩,k2,k3⟩:=hj;obtain⟨tb',h1,h2,h3⟩:=hG.bid (j:=j) (v:=.grd pL (.bid s.nx c)) (c:=c) fun tb' hm h=>by
   simp only[SR];exact⟨⟨fun g hg=>hm _ _ (k1 g hg),h⟩,fun hall=>⟨X1 (s:=.val .bo c) (P:=P) (B:=B) (pl:=pl) (tb:=tb) rfl (by simpa only [SR] using k2 hall),h⟩,k3⟩
  refine⟨tb',h3,fun g hg=>?_,?_⟩
  .rcases List.mem_append.1 hg with h4|h4
   .exact h1 _ _ (k1 g h4)
   .obtain rfl:=List.mem_singleton.1 h4;exact h2
  .by_cases hall:∀ g∈pL,g.c=g.want
   .have hb:env.getD j undef=.bool c:=X1 (s:=.val .bo c) (P:=P) (B:=B) (pl:=pl) (tb:=tb) rfl (by simpa only [SR] using k2 hall);refine⟨c==want,by simp only[Zo,hb],fun e g hg=>?_,fun e=>⟨_,List.mem_append.2 (.inr (List.mem_singleton.2 rfl)),by simpa using e⟩⟩;rcases List.mem_append.1 hg with h4|h4
    .exact hall g h4
    .obtain rfl:=List.mem_singleton.1 h4;simpa using e
   .have hex:=Ce hall;refine⟨false,by simp only[Zo,k3 hex];rfl,(fun e=>by cases e),fun _=>?_⟩;obtain⟨g,hg,aC⟩:=hex;exact⟨g,List.mem_append.2 (.inl hg),aC⟩
 .rename_i pL n c heq;obtain⟨rfl,rfl⟩:=QD h;rw[heq] at hj;simp only[SR] at hj;obtain⟨⟨k1,k0⟩,k2,k3⟩:=hj;refine⟨tb,hG,fun g hg=>?_,?_⟩
  .rcases List.mem_append.1 hg with h4|h4
   .exact k1 g h4
   .obtain rfl:=List.mem_singleton.1 h4;exact k0
  .by_cases hall:∀ g∈pL,g.c=g.want
   .obtain⟨hb,cR⟩:=k2 hall;refine⟨c==want,by simp only[Zo,hb],fun e g hg=>?_,fun e=>⟨_,List.mem_append.2 (.inr (List.mem_singleton.2 rfl)),by simpa using e⟩⟩;rcases List.mem_append.1 hg with h4|h4
    .exact hall g h4
    .obtain rfl:=List.mem_singleton.1 h4;simpa using e
   .have hex:=Ce hall;refine⟨false,by simp only[Zo,k3 hex];rfl,(fun e=>by cases e),fun _=>?_⟩;obtain⟨g,hg,aC⟩:=hex;exact⟨g,List.mem_append.2 (.inl hg),aC⟩
 .cases h
theorem Gam.gcall {B F:Heap}{pl:Nat->Value}{tb:Nat->Option Bool}{s:St}{env:Env}{σ:Heap}(hG:Gam P B F pl tb s env σ) {gs:List Gd}(hg:Gds tb gs) (args:List Operand):SRs P σ Jq ZH (BP s.own (args.map (gev gs s.env))) (args.map (Q4 env)) :=
 KP hG.leB hG.obj (SRs.map fun x _=>hG.evs hg x)
theorem Gam.gfun {B F:Heap}{pl:Nat->Value}{tb:Nat->Option Bool}{s:St}{env:Env}{σ:Heap}(hG:Gam P B F pl tb s env σ) {gs:List Gd}(hg:Gds tb gs) (f:Operand):SR P σ Jq ZH ((BP s.own [gev gs s.env f]).getD 0 .any) (Q4 env f):=by have:=(KP hG.leB hG.obj (show SRs P B pl tb [gev gs s.env f] [Q4 env f] by simp only[SRs];exact⟨_,[],rfl,hG.evs hg f,rfl⟩)).getD 0 poison;simpa using this
theorem UG {env:Env}{f:Operand}{args:List Operand}{σ:Heap}{K:Value->Heap->Prop}{g:FuncId}{a b:Array Value}(e:Q4 env f=.func (.func g) a b) (h:VCalled P g (a.toList++args.map (Q4 env)++b.toList) σ K) :
  vop (Q2 P) (.callV f args) env σ K:=by
 simp only[vop,e];exact h
def XOk (P:Program) (f:Nat) (x:XSp):Prop :=
 ∀ (B F:Heap) (pl:Nat->Value) (tb:Nat->Option Bool) (s:St) (env:Env) (σ:Heap) (d:Nat) (args:List SV) (vs:List Value) (K:SV->St->Prop) (R:Value->Heap->Prop),
  Gam P B F pl tb s env σ->SRs P B pl tb args vs->x d args s K ->
  (∀ v s' B' F' pl' tb' u σ',K v s'->GBase B F σ B' F' σ'->Gam P B' F' pl' tb' s' env σ'->SR P B' pl' tb' v u->R u σ')->VCalled P f vs σ R
def Q10 (P:Program) (f:Nat) (x:XSp) (j:Nat):Prop :=
 ∀ (B F:Heap) (pl:Nat->Value) (tb:Nat->Option Bool) (s:St) (env:Env) (σ:Heap) (d:Nat) (args:List SV) (vs:List Value) (K:SV->St->Prop) (R:Value->Heap->Prop) (t:Nat),
  Gam P B F pl tb s env σ->SRs P B pl tb args vs->Lg s.own j args=some t->x d args s K ->
  (∀ v s' u σ',K v s'->Dead σ σ'->Gam P B F pl tb s' env σ'->SR P B pl tb v u->FrL [t] s s' pl pl σ σ'->R u σ')->VCalled P f vs σ R
def Z08 (P:Program) (f:Nat) (it:ISp):Prop:=J0 P f /\
 ∀ (B:Heap) (args:List SV) (vs:List Value) (c:Prop) (m ar:Nat) (xs:Nat->List SV),SRs P B Jq ZH args vs->it args=some (c,m,ar,xs)->c ->
  (∀ k,(xs k).length=ar/\SVs.pure (xs k)=true)/\∀ (i:Nat) (Y:Py) (J:Nat->Heap->Prop) (E:Heap->Prop) (τ0:Heap),Kc P i Y->(∀ k τ,J k τ->B.Le τ) ->
   (∀ k us τ,k<m->J k τ->SRs P B Jq ZH (xs k) us->Y us τ fun v τ'=>(v=.bool true/\J (k+1) τ')\/(v=.bool false/\E τ')) ->
   J 0 τ0->VCallsTo P f (.func (.yield i) #[] #[]::vs) τ0 fun _ τ=>J m τ\/E τ
def Q2a (P:Program) (o:Nat) (y:YSp):Prop :=
 ∀ (B F:Heap) (pl:Nat->Value) (tb:Nat->Option Bool) (s:St) (env:Env) (σ:Heap) (args:List SV) (us:List Value) (K:SV->St->Prop) (R:Value->Heap->Prop) (i:Nat),
  Gam P B F pl tb s env σ->SRs P B pl tb args us->y args s K->pl o=.pointer (some ⟨i,0,none⟩) ->
  (∀ v s' B' F' pl' tb' u σ',K v s'->GBase B F σ B' F' σ'->Gam P B' F' pl' tb' s' env σ'->SR P B' pl' tb' v u->R u σ')->Pa P i us σ R
def Q87 (P:Program) (f:Nat) (x:Q89):Prop:=J0 P f /\
 ∀ (B F:Heap) (pl:Nat->Value) (tb:Nat->Option Bool) (s:St) (env:Env) (σ:Heap) (o:Nat) (args:List SV) (vs:List Value) (y:YSp) (K:St->Prop) (R:Heap->Prop),
  Gam P B F pl tb s env σ->SRs P B pl tb args vs->Q2a P o y->x o args (o,y) s K ->
  (∀ s' B' F' pl' tb' af σ',K s'->GBase B F σ B' F' σ'->Gam P B' F' pl' tb' s' af σ'->R σ')->VCallsTo P f vs σ fun _=>R
structure COk (P:Program) (C:Cx):Prop where
 cs:CsOk P C.cs
 xs:∀ f x,Qn C.xs f=some x->XOk P f x
 it:∀ f x,Qn C.it f=some x->Z08 P f x
 yl:∀ o y,Qn C.yl o=some y->Q2a P o y
 iy:∀ f x,Qn C.iy f=some x->Q87 P f x
 xf:∀ f j,Qn C.xf f=some j->∀ x,Qn C.xs f=some x->Q10 P f x j
theorem P3 {C:Cx}(az:CsOk P C.cs) {B F:Heap}{pl:Nat->Value}{tb:Nat->Option Bool}{s:St}{env:Env}{σ:Heap}(hG:Gam P B F pl tb s env σ) {gs:List Gd}(hg:Gds tb gs) {raw:Bool}{o:VOp}{cs:List Prop}{v:SV}
  (h:gqc C raw o (gev gs s.env) s.own=some (cs,v)) (hc:∀ c∈cs,c) {K:Value->Heap->Prop}(hK:∀ u,SR P B pl tb v u->K u σ):vop (Q2 P) o env σ K:=by
 have flat:∀ {c:Prop}{v':SV},(bif v'.ret 0 then some ([c],v') else none)=some (cs,v)->v'.ret 0=true/\c/\v'=v:=fun {c v'} h=>by
  cases hv:v'.ret 0 with
  |false=>rw[hv] at h;cases h
  |true =>rw[hv] at h;obtain⟨rfl,rfl⟩:=QD h;exact⟨rfl,hc _ (by simp),rfl⟩
 have quiet:∀ o,gq C.kt raw o (gev gs s.env) s.own=some (cs,v)->(∀ K,QU (Q6 o (Q4 env) σ) (fun p=>K p.1 p.2)->vop (Q2 P) o env σ K)->vop (Q2 P) o env σ K:=fun o h hv=>by obtain⟨u,h1,h2⟩:=Rh (hG.evs hg) (fun _=>rfl) hG.leB hG.obj h hc;exact hv K (by rw[h1];exact hK u h2)
 cases o
 case callF f args =>
  simp only[gqc] at h;split at h
  .rename_i c v' heq;obtain⟨h1,h2,rfl⟩:=flat h;obtain⟨g,a,b,h3,h4,_⟩:=Zg az (show SR P σ Jq ZH (.fn f [] []) (.func (.func f) #[] #[]) by simp only[SR,SRs];exact⟨[],[],rfl,rfl,rfl⟩) (hG.gcall hg args) heq h1 rfl h2;obtain⟨rfl,rfl,rfl⟩:=(by simpa using h3:f=g/\#[]=a/\#[]=b);have:=h4.mono (R':=K) fun u σ' hr=>by
    obtain⟨rfl,hu⟩:=hr.flat h1;exact hK u (hu.retd (fun j hj=>by omega) _ _ h1)
   show VCalled P f (args.map (Q4 env)) σ K;simpa using this
  .cases h
 case callV f args =>
  simp only[gqc] at h;split at h
  .rename_i c v' heq;obtain⟨h1,h2,rfl⟩:=flat h;obtain⟨g,a,b,h3,h4,_⟩:=Zg az (hG.gfun hg f) (hG.gcall hg args) heq h1 rfl h2;exact UG h3 (h4.mono fun u σ' hr=>by
    obtain⟨rfl,hu⟩:=hr.flat h1;exact hK u (hu.retd (fun j hj=>by omega) _ _ h1))
  .cases h
 case ext x =>
  cases x
  case nextMap x=>cases h
  all_goals exact quiet _ h fun _ h=>h
 all_goals exact quiet _ h fun _ h=>h
end
end Go.V
namespace Go.V
open Go
section
variable {P:Program}
mutual
theorem AO:∀ (v:SV) {K:SV->Prop},nmV v K->K v
 |.val k x,K,h=>by simp only[nmV] at h;exact h x rfl
 |.agg l,K,h=>by simp only[nmV] at h;exact Hd l h
 |.tup l,K,h=>by simp only[nmV] at h;exact Hd l h
 |.any,_,h|.dd _ _,_,h|.bid _ _,_,h|.grd _ _,_,h|.nilS,_,h|.nilP,_,h|.nilM,_,h|.nilF,_,h|.lst _,_,h|.sub _ _ _ _,_,h|.elp _ _ _ _,_,h|.rop _ _ _ _,_,h|.box _ _,_,h|.cp _ _,_,h|.map _,_,h|.fn _ _ _,_,h|.pf _ _ _ _,_,h=>by simp only[nmV] at h;exact h
theorem Hd:∀ (l:List SV) {K:List SV->Prop},Q8b l K->K l
 |[],K,h=>by simp only[Q8b] at h;exact h
 |v::r,K,h=>by simp only[Q8b] at h;exact Hd r (AO v h)
end
theorem Z3 {C:Cx}{o:VOp}{ev:Operand->SV}{v:SV}{K:SV->Prop}(h:gnm C o ev v K):K v:=by
 unfold gnm at h;cases hb:(C.nm&&Z36 o ev) with
 |true=>rw[hb] at h;exact AO v h
 |false=>rw[hb] at h;exact h
theorem Bl {B:Heap}{pl:Nat->Value}{tb:Nat->Option Bool}{v:SV}{u:Value}(h:SR P B pl tb v u):SR P B pl tb (Gl v) u/\gtb tb (Gl v):=by
 cases v with
 |bid n c=>simp only[SR] at h;obtain⟨rfl,_⟩:=h;exact⟨Zn _,trivial⟩
 |_=>exact⟨h,trivial⟩
theorem Bn {tb:Nat->Option Bool}(v:SV):gtb tb (Gl v):=by cases v<;>trivial
theorem Dw {C:Cx}(az:COk P C) {B F:Heap}{pl:Nat->Value}{tb:Nat->Option Bool}{s:St}{env:Env}{σ:Heap}(hG:Gam P B F pl tb s env σ) {d:Nat}{f:SV}{args:List SV}{fV:Value}{vs:List Value}(hf:SR P B pl tb f fV) (ha:SRs P B pl tb args vs) {K:SV->St->Prop}(h:A8 C d f args s K) {R:Value->Heap->Prop}
  (hK:∀ v s' B' F' pl' tb' u σ',K v s'->GBase B F σ B' F' σ'->Gam P B' F' pl' tb' s' env σ'->SR P B' pl' tb' v u->R u σ'):∃ g a b,fV=.func (.func g) a b/\VCalled P g (a.toList++vs++b.toList) σ R:=by
 unfold A8 at h;have lF:SR P σ Jq ZH ((BP s.own [f]).getD 0 .any) fV:=by have:=(KP hG.leB hG.obj (show SRs P B pl tb [f] [fV] by simp only[SRs];exact⟨_,[],rfl,hf,rfl⟩)).getD 0 poison;simpa using this
 have j8:=KP hG.leB hG.obj ha;split at h
 .rename_i c v bs heq;cases hb:(v.ret bs.length&&(bs.all OB.ret&&Nat.blt 0 C.nt)) with
  |false=>rw[hb] at h;exact h.elim
  |true =>rw[hb] at h;obtain⟨h1,h2⟩:=h;simp only[Bool.and_eq_true] at hb;obtain⟨g,a,b,e,aD,_⟩:=Zg az.cs lF j8 heq hb.1 hb.2.1 h1;refine⟨g,a,b,e,aD.mono fun u σ' hr=>?_⟩;obtain⟨pl',h3,h4⟩:=hr.gam (nt:=C.nt) (d:=d) (by simpa [Nat.blt_eq] using hb.2.2) hG hb.1 hb.2.1;exact hK _ _ B F pl' tb u σ' h2 (.of hG.bf hr.1.2) h3 h4
 .exact h.elim
theorem Dh {C:Cx}(az:COk P C) {B F:Heap}{pl:Nat->Value}{tb:Nat->Option Bool}{s:St}{env:Env}{σ:Heap}(hG:Gam P B F pl tb s env σ) {d:Nat}{f:SV}{args:List SV}{fV:Value}{vs:List Value}(hf:SR P B pl tb f fV) (ha:SRs P B pl tb args vs) {K:SV->St->Prop}(h:Tz C d f args s K) (vC:∀ o,f≠.dd o .yv) {R:Value->Heap->Prop}
  (hK:∀ v s' B' F' pl' tb' u σ',K v s'->GBase B F σ B' F' σ'->Gam P B' F' pl' tb' s' env σ'->SR P B' pl' tb' v u->R u σ'):∃ g a b,fV=.func (.func g) a b/\VCalled P g (a.toList++vs++b.toList) σ R:=by
 unfold Tz at h;split at h
 .rename_i g a b;split at h
  .rename_i x hx;have xe:=hf;simp only[SR] at hf;obtain⟨a',b',rfl,h1,h2⟩:=hf;refine⟨g,a'.toArray,b'.toArray,rfl,?_⟩;have:=az.xs g x hx B F pl tb s env σ d _ _ K R hG (h1.append (ha.append h2)) h hK;simpa using this
  .exact Dw az hG hf ha h hK
 .exact(vC _ rfl).elim
 .exact Dw az hG hf ha h hK
theorem EJ {C:Cx}{B F:Heap}{pl:Nat->Value}{tb:Nat->Option Bool}{s:St}{env:Env}{σ:Heap}(hG:Gam P B F pl tb s env σ) {d:Nat}{o:VOp}{K:SV->St->Prop}(h:gnd C d o (gev [] s.env) s K) {R:Value->Heap->Prop}
  (hK:∀ v s' B' F' pl' tb' u σ',K v s'->GBase B F σ B' F' σ'->Gam P B' F' pl' tb' s' env σ'->SR P B' pl' tb' v u->R u σ'):vop (Q2 P) o env σ R:=by
 obtain⟨u,σ',pl',v,s',h1,h2,h3,h4⟩:=HL (fun x=>hG.evs (Gds.nil (tb:=tb)) x) hG h;have fin:QU (Q6 o (Q4 env) σ) (fun p=>R p.1 p.2):=by rw[h1];exact hK v s' B F pl' tb u σ' h2 (.of hG.bf (YE h1)) h3.1 h4
 cases o
 case buildSlice e z n ps=>exact fin
 case makeSlice e b z l c=>exact fin
 case append e b x y=>exact fin
 case store size a x=>exact fin
 all_goals exact h.elim
section
variable {B F:Heap}{pl:Nat->Value}{tb:Nat->Option Bool}{s:St}{env:Env}{σ:Heap}
def Heap.ins (B σ:Heap) (i:Nat) (h:B.n<=σ.n):Heap where
 get j:=if j=i then σ.get i else B.get j
 n:=σ.n
 wf j hj:=by
  by_cases e:j=i
  .simp only[if_pos e];subst e;exact σ.wf j hj
  .simp only[if_neg e];exact B.wf j (Nat.le_trans h hj)
theorem Heap.ins_self (B σ:Heap) (i:Nat) (h:B.n<=σ.n):(B.ins σ i h).get i=σ.get i:=by simp[Heap.ins]
theorem Heap.ins_ne (B σ:Heap) {i j:Nat}(h:B.n<=σ.n) (e:j≠i):(B.ins σ i h).get j=B.get j:=by simp[Heap.ins,e]
theorem Heap.Le.ins {B σ:Heap}(h:B.Le σ) (i:Nat):B.Le (B.ins σ i h.1):=⟨h.1,fun j b hb=>by
 by_cases e:j=i
 .subst e;rw[Heap.ins_self];exact h.2 _ _ hb
 .rw[Heap.ins_ne _ _ _ e];exact hb⟩
theorem Heap.Le.ins_le {B σ:Heap}(h:B.Le σ) (i:Nat):(B.ins σ i h.1).Le σ:=⟨Nat.le_refl _,fun j b hb=>by
 by_cases e:j=i
 .subst e;rw[Heap.ins_self] at hb;exact hb
 .rw[Heap.ins_ne _ _ _ e] at hb;exact h.2 _ _ hb⟩
theorem Heap.ins_ins {B F σ:Heap}(h:B.Le F) (i:Nat) (hB:B.n<=σ.n) (hF:F.n<=σ.n):(B.ins σ i hB).Le (F.ins σ i hF):=⟨Nat.le_refl _,fun j b hb=>by
 by_cases e:j=i
 .subst e;rw[Heap.ins_self] at hb |-;exact hb
 .rw[Heap.ins_ne _ _ _ e] at hb |-;exact h.2 _ _ hb⟩
theorem Gam.freeze (hG:Gam P B F pl tb s env σ) {o i:Nat}(hl:(Qd s.own o).live=true) (hi:Oid (pl o) i) :
  GBase B F σ (B.ins σ i hG.leB.1) (F.ins σ i hG.le.1) σ/\Gam P (B.ins σ i hG.leB.1) (F.ins σ i hG.le.1) pl tb ⟨s.env,oset s.own o .dead,s.nx⟩ env σ:=by
 have mM:=hG.fresh o i hl hi;have lv:∀ d,(Qd (oset s.own o .dead) d).live=true->d≠o/\(Qd s.own d).live=true:=fun d h=>by
  rw[Qp] at h;by_cases e:d=o
  .rw[if_pos e] at h;cases h
  .rw[if_neg e] at h;exact⟨e,h⟩
 refine⟨⟨hG.leB.ins i,hG.le.ins i,fun j b h1 h2=>?_,.refl _⟩,⟨Heap.ins_ins hG.bf i _ _,hG.le.ins_le i,SRs.mono (hG.leB.ins i) (fun _ _ h=>h) _ _ hG.env,fun d=>?_,fun d j h1 h2=>?_,fun d d' j aC h1 h2 h3 h4=>hG.sep d d' j aC (lv d h1).2 (lv d' h2).2 h3 h4,hG.free⟩⟩
 .have e:j≠i:=by rintro rfl;rw[mM] at h1;cases h1
  rw[Heap.ins_ne _ _ _ e];exact h2
 .simp only[Qp];by_cases e:d=o
  .rw[if_pos e];trivial
  .rw[if_neg e];exact(hG.obj d).mono (hG.leB.ins i) (fun _ _ h=>h) fun _ _ _=>rfl
 .obtain⟨aC,bT⟩:=lv d h1;have e:j≠i:=by rintro rfl;exact hG.sep d o j aC bT hl h2 hi
  rw[Heap.ins_ne _ _ _ e];exact hG.fresh d j bT h2
theorem Gam.own {s':St}(hG:Gam P B F pl tb s env σ) (h1:s'.env=s.env) (h2:∀ d,Qd s'.own d=Qd s.own d) (h3:s'.nx=s.nx):Gam P B F pl tb s' env σ :=
 ⟨hG.bf,hG.le,by rw[h1];exact hG.env,fun d=>by rw[h2];exact hG.obj d,fun d i=>by rw[h2];exact hG.fresh d i,fun d d' i aC=>by rw[h2,h2];exact hG.sep d d' i aC,fun n hn=>hG.free n (by rw[<-h3];exact hn)⟩
theorem Gam.drop (hG:Gam P B F pl tb s env σ) (o:Nat):Gam P B F pl tb ⟨s.env,oset s.own o .dead,s.nx⟩ env σ:=by
 have lv:∀ d,(Qd (oset s.own o .dead) d).live=true->d≠o/\(Qd s.own d).live=true:=fun d h=>by
  rw[Qp] at h;by_cases e:d=o
  .rw[if_pos e] at h;cases h
  .rw[if_neg e] at h;exact⟨e,h⟩
 refine⟨hG.bf,hG.le,hG.env,fun d=>?_,fun d j h1 h2=>hG.fresh d j (lv d h1).2 h2,fun d d' j aC h1 h2 h3 h4=>hG.sep d d' j aC (lv d h1).2 (lv d' h2).2 h3 h4,hG.free⟩;simp only[Qp];by_cases e:d=o
 .rw[if_pos e];trivial
 .rw[if_neg e];exact hG.obj d
theorem LN (s:St) (d:Nat) (b:OB) (q:Nat):Qd (s.make d .dead).own q=Qd (oset (s.make d b).own d .dead) q:=by
 simp only[St.make,Qp];by_cases e:q=d
 .rw[if_pos e,if_pos e]
 .rw[if_neg e,if_neg e,if_neg e]
theorem Rc {d:Nat}(sN:B.Le F) {ty:Nat}{k:Kind}{xs:List k.T}{nl:Bool}(hk:k.flat=true) {pl':Nat->Value}{u:Value}{σ':Heap}(h1:Gam P B F pl' tb (s.make d (.lst ty k xs nl)) env σ') (h2:SR P B pl' tb (.lst d) u) (hd:Dead σ σ') :
  ∃ B' F',GBase B F σ B' F' σ'/\Gam P B' F' pl' tb (s.make d .dead) env σ'/\SR P B' pl' tb (.val (.list k) xs) u:=by
 have ao:=h1.obj d;have bO:Qd (s.make d (.lst ty k xs nl)).own d=.lst ty k xs nl:=by simp only[St.make,Qp,if_true]
 rw[bO] at ao;simp only[SR] at h2;obtain⟨rfl,_⟩:=h2;rcases ao with⟨_,hx,hp⟩|⟨_,i,cap,c,t,hp,cW,hg,hlen,ck⟩
 .refine⟨B,F,.of sN hd,(h1.drop d).own rfl (LN s d _) rfl,?_⟩;simp only[SR];exact⟨_,rfl,.inl ⟨hx,hp⟩⟩
 .obtain⟨g1,g2⟩:=h1.freeze (o:=d) (i:=i) (by rw[bO];rfl) (by rw[hp];rfl);refine⟨_,_,(GBase.of sN hd).trans g1,g2.own rfl (LN s d _) rfl,?_⟩;simp only[SR];refine⟨_,rfl,.inr ⟨i,0,cap,c,⟨k.size,ty⟩,true,t,hp,cW,by rw[Heap.ins_self];exact hg,rfl,by have:=Nat.mul_le_mul_right k.size cW;omega,?_⟩⟩;rw[List.drop_zero];exact ck.mono fun _ _ e=>KC.flat hk e
theorem Ay {d nt:Nat}(eo:0<nt) (hG:Gam P B F pl tb s env σ) {ty:Nat}{k:Kind}{xs:List k.T}{nl:Bool}(hk:k.flat=true) {u:Value}{σ':Heap}(h:Ret P σ (.lst 0) [.lst ty k xs nl] u σ') :
  ∃ B' F' pl',GBase B F σ B' F' σ'/\Gam P B' F' pl' tb (s.make d .dead) env σ'/\SR P B' pl' tb (.val (.list k) xs) u:=by
 obtain⟨pl',h1,h2⟩:=h.gam (d:=d) eo hG (by rfl) (by simp only[List.all_cons,List.all_nil,Bool.and_true,OB.ret];exact hk);simp only[St.makes,Nat.zero_mul,Nat.add_zero,SV.ren] at h1 h2;obtain⟨B',F',k⟩:=Rc hG.bf hk h1 h2 h.1.2;exact⟨B',F',pl',k⟩
theorem UU {nt:Nat}{r:Option (Prop×SV×List OB)}{c:Prop}{v:SV}(h:Ah nt r=some (c,v)):∃ ty k xs nl,r=some (c,.lst 0,[.lst ty k xs nl])/\v=.val (.list k) xs/\k.flat=true/\0<nt:=by
 unfold Ah at h;split at h
 .split at h
  .rename_i k xs _;cases hc:(k.flat&&Nat.blt 0 nt) with
   |false=>rw[hc] at h;cases h
   |true =>rw[hc] at h;obtain⟨rfl,rfl⟩:=QD h;simp only[Bool.and_eq_true,Nat.blt_eq] at hc;exact⟨_,_,_,_,rfl,rfl,hc.1,hc.2⟩
  .cases h
 .cases h
theorem C8 {C:Cx}(az:CsOk P C.cs) (hG:Gam P B F pl tb s env σ) {gs:List Gd}(hg:Gds tb gs) {o:VOp}{c:Prop}{v:SV}{d:Nat}(h:RP C o (gev gs s.env) s.own=some (c,v)) (hc:c) {K:Value->Heap->Prop}
  (hK:∀ u σ' B' F' pl',GBase B F σ B' F' σ'->Gam P B' F' pl' tb (s.make d .dead) env σ'->SR P B' pl' tb v u->K u σ'):vop (Q2 P) o env σ K:=by
 cases o<;>first|(cases h;done)|skip
 case callF f args =>
  simp only[RP] at h;obtain⟨ty,k,xs,nl,heq,rfl,hk,eo⟩:=UU h;obtain⟨g,a,b,h3,h4,_⟩:=Zg az (show SR P σ Jq ZH (.fn f [] []) (.func (.func f) #[] #[]) by simp only[SR,SRs];exact⟨[],[],rfl,rfl,rfl⟩) (hG.gcall hg args) heq (by rfl) (by simp only[List.all_cons,List.all_nil,Bool.and_true,OB.ret];exact hk) hc;obtain⟨rfl,rfl,rfl⟩:=(by simpa using h3:f=g/\#[]=a/\#[]=b);have:=h4.mono (R':=K) fun u σ' hr=>by obtain⟨B',F',pl',k1,k2,k3⟩:=Ay (d:=d) eo hG hk hr;exact hK u σ' B' F' pl' k1 k2 k3
  show VCalled P f (args.map (Q4 env)) σ K;simpa using this
 case callV f args =>
  simp only[RP] at h;obtain⟨ty,k,xs,nl,heq,rfl,hk,eo⟩:=UU h;obtain⟨g,a,b,h3,h4,_⟩:=Zg az (hG.gfun hg f) (hG.gcall hg args) heq (by rfl) (by simp only[List.all_cons,List.all_nil,Bool.and_true,OB.ret];exact hk) hc;exact UG h3 (h4.mono fun u σ' hr=>by
   obtain⟨B',F',pl',k1,k2,k3⟩:=Ay (d:=d) eo hG hk hr;exact hK u σ' B' F' pl' k1 k2 k3)
 case buildSlice e z n ps =>
  simp only[RP] at h;split at h
  .rename_i k vD;split at h
   .rename_i dM;split at h
    .rename_i xs hx;obtain⟨rfl,rfl⟩:=QD h;have vE:gn C d (.buildSlice e z n ps) (gev gs s.env) s (fun v s'=>v=.lst d/\s'=s.make d (.lst e.ty k xs false)):=by
      simp only[gn,vD,hx];rw[if_pos ⟨dM.1,dM.2.1⟩];simp
     obtain⟨u,σ',pl',v,s',h1,⟨rfl,rfl⟩,⟨h3,_⟩,h4⟩:=Ul (fun x=>hG.evs hg x) hG vE;obtain⟨B',F',k1,k2,k3⟩:=Rc hG.bf dM.2.2 h3 h4 (YE h1);show QU (Q6 (.buildSlice e z n ps) (Q4 env) σ) _;rw[h1];exact hK u σ' B' F' pl' k1 k2 k3
    .cases h
   .cases h
  .cases h
theorem LA {C:Cx}{o:VOp}{ev:Operand->SV}{own:Own}{c:Prop}{v:SV}(h:RP C o ev own=some (c,v)):∃ (k:Kind) (xs:List k.T),v=.val (.list k) xs:=by
 cases o<;>first|(cases h;done)|skip
 case callF=>simp only[RP] at h;obtain⟨ty,k,xs,nl,_,hv,_⟩:=UU h;exact⟨k,xs,hv⟩
 case callV=>simp only[RP] at h;obtain⟨ty,k,xs,nl,_,hv,_⟩:=UU h;exact⟨k,xs,hv⟩
 case buildSlice e z n ps =>
  simp only[RP] at h;split at h
  .split at h
   .split at h
    .obtain⟨_,rfl⟩:=QD h;exact⟨_,_,rfl⟩
    .cases h
   .cases h
  .cases h
theorem Q2d {C:Cx}(az:COk P C) {B F:Heap}{pl:Nat->Value}{tb:Nat->Option Bool}{s:St}{env:Env}{σ:Heap}(hG:Gam P B F pl tb s env σ) {d:Nat}{o:VOp}{K:SV->St->Prop}(h:gn C d o (gev [] s.env) s K) {R:Value->Heap->Prop}
  (hK:∀ v s' B' F' pl' tb' u σ',K v s'->GBase B F σ B' F' σ'->Gam P B' F' pl' tb' s' env σ'->SR P B' pl' tb' v u->R u σ'):vop (Q2 P) o env σ R:=by
 have ak:=hG.evs (Gds.nil (tb:=tb));have act:∀ o {T:Nat},NOk P B F tb o (Q4 env) env σ K T s pl->(∀ R',QU (Q6 o (Q4 env) σ) (fun p=>R' p.1 p.2)->vop (Q2 P) o env σ R')->vop (Q2 P) o env σ R:=fun o _ ⟨u,σ',pl',v,s',h1,h2,h3,h4⟩ hv=>hv R (by rw[h1];exact hK v s' B F pl' tb u σ' h2 (.of hG.bf (YE h1)) h3.1 h4);have aB:∀ args:List Operand,SRs P B pl tb (args.map (gev [] s.env)) (args.map (Q4 env)):=fun args=>SRs.map fun x _=>hG.evs Gds.nil x;cases o
 case alloc t z=>exact act _ (Oo ak hG h) fun _ h=>h
 case box t x=>exact act _ (Q9p ak hG h) fun _ h=>h
 case buildSlice e z n ps=>exact act _ (Ul ak hG h) fun _ h=>h
 case makeSlice e b z l c=>exact act _ (Hh ak hG h) fun _ h=>h
 case append e b x y=>exact act _ (Ak ak hG h) fun _ h=>h
 case store size a x=>exact act _ (OS ak hG h) fun _ h=>h
 case callF f args =>
  simp only[gn] at h;obtain⟨g,a,b,h3,h4⟩:=Dh az hG (show SR P B pl tb (.fn f [] []) (.func (.func f) #[] #[]) by simp only[SR,SRs];exact⟨[],[],rfl,rfl,rfl⟩) (aB args) h (fun _ e=>by cases e) hK;obtain⟨rfl,rfl,rfl⟩:=(by simpa using h3:f=g/\#[]=a/\#[]=b);show VCalled P f (args.map (Q4 env)) σ R;simpa using h4
 case callV f args =>
  simp only[gn] at h;by_cases hy:∃ o,gev [] s.env f=.dd o .yv
  .obtain⟨o,hy⟩:=hy;have hf:=hG.evs (Gds.nil (tb:=tb)) f;have h':Tz C d (gev [] s.env f) (args.map (gev [] s.env)) s K:=h;rw[hy] at hf h';simp only[SR,DR] at hf;obtain⟨i,hp,hv⟩:=hf;simp only[Tz] at h';split at h'
   .rename_i y vF;have:=az.yl o y vF B F pl tb s env σ _ _ K R i hG (aB args) h' hp hK;simp only[vop,hv];exact this
   .exact h'.elim
  obtain⟨g,a,b,h3,h4⟩:=Dh az hG (hG.evs Gds.nil f) (aB args) h (fun o e=>hy ⟨o,e⟩) hK;exact UG h3 h4
 case ext x =>
  cases x
  case mapUpdate mk m k v=>exact act _ (HX ak hG h) fun _ h=>h
  case delete mk m k=>exact False.elim h
  case mapEntry mk z m k=>exact False.elim h
  case entryStore m s v=>exact False.elim h
  case copy size a b=>exact act _ (Q3u ak hG h) fun _ h=>h
  case unsafeStr e a n=>exact act _ (HY ak hG h) fun _ h=>h
  case strBytes e a=>exact False.elim h
  case rangeMap a=>exact False.elim h
  case nextMap a=>exact False.elim h
  all_goals exact h.elim
 all_goals exact h.elim
theorem Gam.frz (hG:Gam P B F pl tb s env σ) (o:Nat):∃ B' F',GBase B F σ B' F' σ/\Gam P B' F' pl tb (s.frz o) env σ:=by
 unfold St.frz;split
 .rename_i ty k xs nl ho;have fin:∀ {B' F':Heap},Gam P B' F' pl tb ⟨s.env,oset s.own o .dead,s.nx⟩ env σ->KC B' (.list k) xs [pl o]->Gam P B' F' pl tb ⟨SVs.frz o k xs s.env,Q1n o k xs s.own,s.nx⟩ env σ:=fun {B' F'} h hk=>by
   have e1:∀ d,Qd (Q1n o k xs s.own) d=(Qd (oset s.own o .dead) d).frz o k xs:=fun d=>by
    rw[OC,Qp];by_cases e:d=o
    .rw[if_pos e,if_pos e];rfl
    .rw[if_neg e,if_neg e]
   have lv:∀ d,(Qd (Q1n o k xs s.own) d).live=(Qd (oset s.own o .dead) d).live:=fun d=>by rw[e1,OB.live_frz]
   refine⟨h.bf,h.le,SRs.frz hk _ _ h.env,fun d=>?_,fun d i h1 h2=>?_,fun d d' i aC h1 h2=>?_,h.free⟩
   .simp only[e1];exact(h.obj d).frz hk
   .simp only[lv] at h1;exact h.fresh d i h1 h2
   .simp only[lv] at h1 h2;exact h.sep d d' i aC h1 h2
  have ao:=hG.obj o;rw[ho] at ao;rcases ao with⟨_,hx,hp⟩|⟨_,i,cap,c,t,hp,cW,hg,hlen,ck⟩
  .exact⟨B,F,.of hG.bf (.refl _),fin (hG.drop o) ⟨_,rfl,.inl ⟨hx,hp⟩⟩⟩
  .obtain⟨g1,g2⟩:=hG.freeze (o:=o) (i:=i) (by rw[ho];rfl) (by rw[hp];rfl);refine⟨_,_,g1,fin g2 ⟨_,rfl,.inr ⟨i,0,cap,c,⟨k.size,ty⟩,true,t,hp,cW,by rw[Heap.ins_self];exact hg,rfl,by have:=Nat.mul_le_mul_right k.size cW;omega,?_⟩⟩⟩;rw[List.drop_zero];exact ck.mono fun _ _ e=>KC.mono g1.b e
 .exact⟨B,F,.of hG.bf (.refl _),hG⟩
theorem GRel.frzs {B0 F0 D0:Heap}:∀ (l:List Nat) {s:St},GRel P B0 F0 D0 s env σ->GRel P B0 F0 D0 (s.frzs l) env σ
 |[],_,h=>h
 |o::r,s,⟨B,F,pl,tb,hB,hG⟩=>by obtain⟨B',F',g1,g2⟩:=hG.frz o;exact GRel.frzs r ⟨B',F',pl,tb,hB.trans g1,g2⟩
end
theorem Sy {j:Nat}{f:Nat->Prop}:∀ {n i:Nat},Oy (j:Int) f n i->i<=j->j<i+n->f j
 |0,i,_,h1,h2=>by omega
 |n+1,i,h,h1,h2=>by
  rcases Nat.lt_or_ge i j with h3|h3
  .exact Sy h.2 h3 (by omega)
  .have:j=i:=by omega
   subst this;exact h.1 rfl
theorem Oa {o:VOp}{len i:Nat}{f:Nat->VOp}(h:Z0g o=some (len,i,f)) {n:Nat}:(∃ size x,f n=.indexAddrArr len size x (.const (.int .i64 (Int.ofNat n))))\/∃ agg size x,f n=.indexArr len agg size x (.const (.int .i64 (Int.ofNat n))):=by
 unfold Z0g at h;split at h
 .cases h;exact .inl ⟨_,_,rfl⟩
 .cases h;exact .inr ⟨_,_,_,rfl⟩
 .cases h
theorem Q1c {o:VOp}{len i:Nat}{f:Nat->VOp}(h:Z0g o=some (len,i,f)) {S:VSpecs}{env:Env}{σ:Heap}{k:IntKind}{n:Nat}(he:Q4 env (.tmp i)=.int k (n:Int)) {R:Value->Heap->Prop}(hv:vop S (f n) env σ R):vop S o env σ R:=by
 have hc:Q4 env (.const (.int .i64 (Int.ofNat n)))=.int .i64 (n:Int):=rfl;unfold Z0g at h;split at h
 .rename_i len size x t;cases h;change QU (Q6 _ (Q4 env) σ) _ at hv;change QU (Q6 _ (Q4 env) σ) _;simp only[Q6,he,hc] at hv |-;generalize Q4 env x=u at hv |-;cases u<;>first|exact hv|skip
  rename_i p;cases p<;>first|exact hv|skip
  rename_i a;obtain⟨b,o,sp⟩:=a;cases sp<;>exact hv
 .rename_i len agg size x t;cases h;change QU (Q6 _ (Q4 env) σ) _ at hv;change QU (Q6 _ (Q4 env) σ) _;simp only[Q6,he,hc] at hv |-;generalize Q4 env x=u at hv |-;cases u<;>exact hv
 .cases h
theorem T7 {C:Cx}(az:COk P C) {B0 F0 D0:Heap}{s:St}{env:Env}{σ:Heap}(hR:GRel P B0 F0 D0 s env σ) {o:VOper}{K:St->Prop}(h:Z0w C o s K) {R:Env->Heap->Prop}(hK:∀ s' af σ',K s'->GRel P B0 F0 D0 s' af σ'->R af σ') :
  QU (Zo env o.guard) fun b=>vif b (vop (Q2 P) o.op env σ fun v σ'=>R (Jv env o.dst v) σ') (R (Jv env o.dst undef) σ):=by
 unfold Z0w at h;split at h
 .rename_i hg;rw[hg];refine⟨fun _=>?_,fun e=>by cases e⟩
  replace hR:=hR.frzs (Q66 C (o.dst.getD 0) o.op (gev [] s.env) s.own)
  generalize s.frzs (Q66 C (o.dst.getD 0) o.op (gev [] s.env) s.own)=s at h hR;obtain⟨B,F,pl,tb,hB,hG⟩:=hR;unfold Z3p at h;split at h
  .rename_i len i f sO;split at h
   .rename_i k j hj;obtain⟨h1,h2,h3⟩:=h;obtain⟨n,rfl⟩:=Int.eq_ofNat_of_zero_le h1;have hn:n<len:=by omega
    have h4:=Sy h3 (Nat.zero_le n) (by omega);have he:=Zm hj (hG.evs (Gds.nil (tb:=tb)) (.tmp i));split at h4
    .rename_i cs v dJ;obtain⟨k1,k2⟩:=Z6 h4
     replace k1:=Z3 k1
     have hv:=P3 (C:=C) az.cs hG Gds.nil (o:=f n) (raw:=C.raw.contains (o.dst.getD 0)) (cs:=cs) (v:=v) (by
      rw[<-dJ];obtain⟨size,x,hf⟩|⟨agg,size,x,hf⟩:=Oa sO<;>rw[hf];rfl;rfl) (k2 fun g hg=>by cases hg) fun u hu=>hK _ _ _ k1 ⟨B,F,pl,tb,hB,hG.put o.dst hu⟩
     exact Q1c sO he hv
    .exact h4.elim
   .exact h.elim
  unfold Z3l at h;split at h
  .rename_i c a b bL;split at h
   .rename_i v hv;obtain⟨u,h1,h2⟩:=Vm hG Gds.nil hv;rw[bL];show QU (Q6 (.pick c a b) (Q4 env) σ) _;rw[h1];exact hK _ _ _ (Z3 h) ⟨B,F,pl,tb,hB,hG.put o.dst h2⟩
   .exact h.elim
  .rename_i xg;cases hq:O4 o.op with
   |true =>
    rw[hq] at h;simp only[_root_.cond_true] at h;split at h
    .rename_i cs v dJ;obtain⟨h1,h2⟩:=Z6 h
     replace h1:=Z3 h1
     refine P3 (C:=C) az.cs hG Gds.nil (raw:=C.raw.contains (o.dst.getD 0)) (cs:=cs) (v:=v) ?_ (h2 fun g hg=>by cases hg) fun u hu=>hK _ _ _ h1 ⟨B,F,pl,tb,hB,hG.put o.dst hu⟩;rw[<-dJ];cases ho:o.op<;>first|rfl|(rw[ho] at hq;cases hq)
    .exact h.elim
   |false =>
    rw[hq] at h;simp only[_root_.cond_false] at h;split at h
    .rename_i bL;split at h
     .rename_i kk vk _;obtain⟨h1,h2⟩:=IW hG (C.off+o.dst.getD 0) kk vk;rw[bL];change R (Jv env o.dst (.map (some σ.n))) (σ.push (.obj (.map [] 0) true));exact hK _ _ _ h ⟨B,F,_,tb,Nq hB (Dead.push _ _),h1.put o.dst h2⟩
     .exact h.elim
    .rename_i bL;cases kK:Si C (o.dst.getD 0) o.op (gev [] s.env) with
     |true =>rw[kK] at h;simp only[_root_.cond_true] at h;exact EJ hG h fun v s' B' F' pl' tb' u σ' h1 hd h2 h3=>hK _ _ _ h1 ⟨B',F',pl',tb',hB.trans hd,h2.put o.dst h3⟩
     |false =>rw[kK] at h;simp only[_root_.cond_false] at h;exact Q2d az hG h fun v s' B' F' pl' tb' u σ' h1 hd h2 h3=>hK _ _ _ h1 ⟨B',F',pl',tb',hB.trans hd,h2.put o.dst h3⟩
 .rename_i j want hg;obtain⟨B,F,pl,tb,hB,hG⟩:=hR;rw[hg];split at h
  .exact h.elim
  .rename_i gs s' ec;obtain⟨tb',br,cR,b,hw,bw,cn⟩:=X3 hG ec;rw[hw];refine⟨fun e=>?_,fun e=>?_⟩
   .have gR:Gds tb' gs:=fun g hg=>⟨bw e g hg,cR g hg⟩;have fin:∀ {v u},SR P B pl tb' v u->SR P B pl tb' (.grd gs (Gl v)) u:=fun {v u} hs=>by
     simp only[SR];obtain⟨h1,h2⟩:=Bl hs;exact⟨⟨cR,h2⟩,fun _=>h1,fun ⟨g,hg,aC⟩=>absurd (bw e g hg) aC⟩
    split at h
    .rename_i c a b' bL;split at h
     .rename_i v hv;obtain⟨u,h1,h2⟩:=Vm br gR hv;rw[bL];show QU (Q6 (.pick c a b') (Q4 env) σ) _;rw[h1];exact hK _ _ _ (Z3 h) ⟨B,F,pl,tb',hB,br.put o.dst (fin h2)⟩
     .exact h.elim
    .split at h
     .rename_i cs v dJ;obtain⟨h1,h2⟩:=Z6 h
      replace h1:=Z3 h1
      exact P3 az.cs br gR dJ (h2 (bw e)) fun u hu=>hK _ _ _ h1 ⟨B,F,pl,tb',hB,br.put o.dst (fin hu)⟩
     .split at h
      .rename_i c v jl;obtain⟨h1,h2⟩:=Z6 h
       replace h1:=Z3 h1
       refine C8 az.cs br gR (d:=C.off+o.dst.getD 0) jl (h2 (bw e) c (by simp)) fun u σ' B' F' pl' k1 k2 k3=>hK _ _ _ h1 ⟨B',F',pl',tb',hB.trans k1,k2.put o.dst ?_⟩;simp only[SR];refine⟨⟨cR,?_⟩,fun _=>k3,fun ⟨g,hg,aC⟩=>absurd (bw e g hg) aC⟩;obtain⟨k,xs,rfl⟩:=LA jl;trivial
      .exact h.elim
   .have fin:∀ v,SR P B pl tb' (.grd gs (Gl v)) undef:=fun v=>by
     simp only[SR];obtain⟨g,hg,aC⟩:=cn e;exact⟨⟨cR,Bn v⟩,fun hall=>absurd (hall g hg) aC,fun _=>trivial⟩
    split at h
    .split at h
     .exact hK _ _ _ (Z3 h) ⟨B,F,pl,tb',hB,br.put o.dst (fin _)⟩
     .exact h.elim
    .split at h
     .exact hK _ _ _ (Z3 (Z6 h).1) ⟨B,F,pl,tb',hB,br.put o.dst (fin _)⟩
     .split at h
      .rename_i c v jl;refine hK _ _ _ (Z3 (Z6 h).1) ⟨B,F,_,tb',hB,(br.make (C.off+o.dst.getD 0) .dead undef br.le (fun _ _ _ _ _=>rfl) trivial (fun i hl _=>by cases hl)).put o.dst ?_⟩;simp only[SR];obtain⟨g,hg,aC⟩:=cn e;refine⟨⟨cR,?_⟩,fun hall=>absurd (hall g hg) aC,fun _=>trivial⟩;obtain⟨k,xs,rfl⟩:=LA jl;trivial
      .exact h.elim
theorem OY {C:Cx}(az:COk P C) {B0 F0 D0:Heap}{s:St}{env:Env}{σ:Heap}(hR:GRel P B0 F0 D0 s env σ) {o:VOper}{K:St->Prop}(h:gop C o s K) {R:Env->Heap->Prop}(hK:∀ s' af σ',K s'->GRel P B0 F0 D0 s' af σ'->R af σ') :
  QU (Zo env o.guard) fun b=>vif b (vop (Q2 P) o.op env σ fun v σ'=>R (Jv env o.dst v) σ') (R (Jv env o.dst undef) σ):=by
 unfold gop at h;split at h
 .rename_i t ht;have oc:=hR;obtain⟨B,F,pl,tb,hB,hG⟩:=hR;rw[Yk hG ht];cases t with
  |true =>simp only[_root_.cond_true] at h;exact T7 az oc (o:=⟨o.dst,o.op,none⟩) h hK
  |false =>simp only[_root_.cond_false] at h;exact⟨(fun e=>by cases e),fun _=>hK _ _ _ h ⟨B,F,pl,tb,hB,hG.put o.dst (by simp[SR])⟩⟩
 .exact T7 az hR h hK
theorem Cn {B0 F0 D0:Heap}{s s':St}{env:Env}{σ:Heap}(hR:GRel P B0 F0 D0 s env σ) {d:Nat}(h:Q6t d s=some s'):GRel P B0 F0 D0 s' env σ:=by
 unfold Q6t at h;split at h
 .rename_i o off hd;cases hz:Nat.beq off 0 with
  |false=>rw[hz] at h;cases h
  |true =>
   rw[hz] at h;simp only[_root_.cond_true] at h;have hz:off=0:=Nat.eq_of_beq_eq_true hz;subst hz;split at h
   .rename_i l _ ho;simp only[Option.some.injEq] at h;subst h;obtain⟨B,F,pl,tb,hB,hG⟩:=hR;have ao:=hG.obj o;rw[ho] at ao;obtain⟨i,c,e,t,e1,e2,e3,_⟩:=ao;obtain⟨k1,k2⟩:=hG.freeze (o:=o) (i:=i) (by rw[ho];rfl) (by rw[e1];rfl);have h1:=hG.env.getD d undef;rw[hd] at h1;have sr:SR P (B.ins σ i hG.leB.1) pl tb (.cp l 0) (env.getD d undef):=by
     simp only[SR] at h1 |-;obtain⟨b,q1,q2⟩:=h1;rw[e1] at q1;obtain rfl:i=b:=by simpa using q1
     refine⟨i,c,e,true,t,?_,q2,SRs.mono k1.b (fun _ _ h=>h) _ _ e3⟩;rw[Heap.ins_self];exact e2
    have:=k2.put (some d) sr;refine⟨_,_,pl,tb,hB.trans k1,?_⟩;have e2:Jv env (some d) (env.getD d undef)=env:=by
     show env.set d _=env;rcases Nat.lt_or_ge d env.length with h|h
     .rw[List.getD_eq_getElem?_getD,List.getElem?_eq_getElem h];simp
     .rw[List.set_eq_of_length_le h]
    rw[e2] at this;exact this
   .cases h
 .cases h
theorem I4 {C:Cx}{B0 F0 D0:Heap}{s:St}{env:Env}{σ:Heap}(hR:GRel P B0 F0 D0 s env σ) {d:Option Nat}{K:St->Prop}(h:Z0s C d K s):∃ s2,K s2/\GRel P B0 F0 D0 s2 env σ:=by
 unfold Z0s at h;split at h
 .exact⟨s,h,hR⟩
 .rename_i d;cases hb:C.spl.contains d with
  |false=>rw[hb] at h;exact⟨s,h,hR⟩
  |true =>
   rw[hb] at h;simp only[_root_.cond_true] at h;split at h
   .rename_i t ht;obtain⟨B,F,pl,tb,hB,hG⟩:=hR;have he:=X1 ht (hG.env.getD d undef);have cw:∀ v,SR P B pl tb v (env.getD d undef)->GRel P B0 F0 D0 (s.put (some d) v) env σ:=fun v hv=>by
     have:=hG.put (some d) hv;refine⟨B,F,pl,tb,hB,?_⟩;have e2:Jv env (some d) (env.getD d undef)=env:=by
      show env.set d _=env;rcases Nat.lt_or_ge d env.length with h|h
      .rw[List.getD_eq_getElem?_getD,List.getElem?_eq_getElem h];simp
      .rw[List.set_eq_of_length_le h]
     rw[e2] at this;exact this
    have sr:SR P B pl tb (.grd [] (.val .bo t)) (env.getD d undef):=by simp only[SR];exact⟨⟨(fun g hg=>by cases hg),trivial⟩,(fun _=>by rw[he];simp[KC]),fun ⟨g,hg,_⟩=>by cases hg⟩
    cases hc:C.raw.contains (3000000+d) with
    |true =>
     rw[hc] at h;cases t with
     |true=>exact⟨_,h,cw _ sr⟩
     |false=>exact⟨_,h,cw _ sr⟩
    |false =>
     rw[hc] at h;cases t with
     |true=>exact⟨_,h.1 rfl,cw _ sr⟩
     |false=>exact⟨_,h.2 rfl,cw _ sr⟩
   .split at h
    .rename_i s' hf;exact⟨s',h,Cn hR hf⟩
    .exact h.elim
theorem US {C:Cx}(az:COk P C) {B0 F0 D0:Heap}:∀ (ops:List VOper) {s:St}{env:Env}{σ:Heap},GRel P B0 F0 D0 s env σ->∀ {K:St->Prop},Z0u C ops s K->∀ {R:Env->Heap->Prop},(∀ s' af σ',K s'->GRel P B0 F0 D0 s' af σ'->R af σ')->Px (Q2 P) ops env σ R
 |[],s,env,σ,hR,_K,h,_R,hK=>hK s env σ h hR
 |_o::r,_s,_env,_σ,hR,_K,h,_R,hK=>OY (R:=fun env σ=>Px (Q2 P) r env σ _R) az hR h fun _ _ _ h1 h2=>by obtain⟨s2,k1,k2⟩:=I4 h2 h1;exact US az r k2 k1 hK
theorem Q0k {S:VSpecs}{l:List DOper}{rest:List DSeg}{env:Env}{σ:Heap}{K:Env->Heap->Prop}(h:l.all (fun o=>!(o.kind==2)&&!(o.op.kind==2))=true) (hv:Px S (l.map dv) env σ fun env σ=>Nm S rest env σ K):Nm S (.alts [l]::rest) env σ K:=by
 intro ops ho;obtain rfl:=List.mem_singleton.1 ho;have key:∀ (l:List DOper) (env:Env) (pend:List (Nat×(Heap->Prop))) (K':Env->Heap->Prop),l.all (fun o=>!(o.kind==2)&&!(o.op.kind==2))=true->Px S (l.map dv) env σ K'->Z8 S l env [σ] σ pend K':=by
  intro l;induction l with
  |nil=>intro env pend K' _ h;exact h
  |cons o rest ih =>
   intro env pend K' hk h;simp only[List.all_cons,Bool.and_eq_true,Bool.not_eq_true',beq_eq_false_iff_ne] at hk;obtain⟨⟨aL,au⟩,hr⟩:=hk;have hr:rest.all (fun o=>!(o.kind==2)&&!(o.op.kind==2))=true:=by simpa using hr
   simp only[List.map_cons,Px,dv] at h;simp only[Z8];cases hw:Zo env o.guard with
   |none=>rw[hw] at h;exact h.elim
   |some b =>
    rw[hw] at h;obtain⟨ht,hf⟩:=h;refine⟨fun e=>?_,fun e=>?_⟩
    .have ht:=ht e;obtain⟨p,hp,lh⟩:∃ p,Q6 o.op (Q4 env) σ=some p/\Px S (rest.map dv) (Jv env o.dst p.1) p.2 K':=by
      have:=ht;unfold vop at this;split at this
      .rename_i f bR heq;rw[heq] at au;exact absurd rfl au
      .rename_i f bR heq;rw[heq] at au;exact absurd rfl au
      .rename_i x heq;rw[heq] at au;exact absurd rfl au
      .cases dV:Q6 o.op (Q4 env) σ with
       |none=>rw[dV] at this;exact this.elim
       |some p=>rw[dV] at this;exact⟨p,rfl,this⟩
     have hq:p.2=σ:=G8 au (v:=p.1) (σ':=p.2) hp;rw[hq] at lh;rw[if_neg aL];split
     .rw[hp];refine⟨fun τ hτ=>?_,ih _ _ _ hr lh⟩;have:τ=σ:=by
       have:=List.mem_of_mem_drop hτ;simpa using this
      subst this;show QU (Q6 o.op (Q4 env) τ) _;rw[hp];rfl
     .rw[hp];exact ih _ _ _ hr lh
    .rw[if_neg aL];exact ih _ _ _ hr (hf e)
 have:=key ops env [] _ h hv;have mono:∀ (l:List DOper) (env:Env) (hs:List Heap) (τ:Heap) (pend:List (Nat×(Heap->Prop))) (A B:Env->Heap->Prop),l.all (fun o=>!(o.kind==2)&&!(o.op.kind==2))=true->(∀ e s,A e s->B e s)->Z8 S l env hs τ pend A->Z8 S l env hs τ pend B:=by
  intro l;induction l with
  |nil=>intro env hs τ pend A B _ lB h;exact lB _ _ h
  |cons o rest ih =>
   intro env hs τ pend A B hk lB h;simp only[List.all_cons,Bool.and_eq_true,Bool.not_eq_true',beq_eq_false_iff_ne] at hk;obtain⟨⟨aL,au⟩,hr⟩:=hk;have hr:rest.all (fun o=>!(o.kind==2)&&!(o.op.kind==2))=true:=by simpa using hr
   simp only[Z8] at h |-;cases hw:Zo env o.guard with
   |none=>rw[hw] at h;exact h.elim
   |some b =>
    rw[hw] at h;obtain⟨ht,hf⟩:=h;refine⟨fun e=>?_,fun e=>?_⟩
    .have ht:=ht e;rw[if_neg aL] at ht |-;by_cases pA:o.kind=1
     .rw[if_pos pA] at ht |-;cases dV:Q6 o.op (Q4 env) τ with
      |none=>rw[dV] at ht;exact ht.elim
      |some p=>rw[dV] at ht;exact⟨ht.1,ih _ _ _ _ _ _ hr lB ht.2⟩
     .rw[if_neg pA] at ht |-;cases dV:Q6 o.op (Q4 env) τ with
      |none=>rw[dV] at ht;exact ht.elim
      |some p=>rw[dV] at ht;exact ih _ _ _ _ _ _ hr lB ht
    .have hf:=hf e;rw[if_neg aL] at hf |-;exact ih _ _ _ _ _ _ hr lB hf
 exact mono ops env _ _ _ _ _ h (fun e s hs=>⟨e,s,.refl _ _ _,hs⟩) this
theorem Zh {op:VOp}{ev:Operand->Value}{u:Value}{τ τ':Heap}(h:Q6 op ev τ=some (u,τ')):Jh op ev u τ:=by unfold Jh;rw[h];rfl
theorem QZ (s:St) (d:Option Nat) (v:SV):(s.put d v).own=s.own:=by cases d<;>rfl
theorem Ya {s s':St}{j:Nat}{want:Bool}{gs:List Gd}(h:Dm s j want=some (gs,s')):s'.own=s.own:=by unfold Dm at h;split at h<;>first|(cases h;done)|(obtain⟨_,rfl⟩:=QD h;rfl)
theorem Ko {C:Cx}{B F:Heap}{pl:Nat->Value}{tb:Nat->Option Bool}{s:St}{env:Env}{σ:Heap}(hG:Gam P B F pl tb s env σ) {o:DOper}{K:St->Prop}(h:gd1 C o s K) :
  ∃ b,Zo env o.guard=some b/\(b=true->∃ u s' tb',Q6 o.op (Q4 env) σ=some (u,σ)/\K s'/\s'.own=s.own/\Gam P B F pl tb' s' (Jv env o.dst u) σ)/\(b=false->∃ s' tb',K s'/\s'.own=s.own/\Gam P B F pl tb' s' (Jv env o.dst undef) σ):=by
 unfold gd1 at h;split at h
 .rename_i hg;rw[hg];refine⟨true,rfl,fun _=>?_,fun e=>by cases e⟩;split at h
  .rename_i c a b bL;split at h
   .rename_i v hv;obtain⟨u,h1,h2⟩:=Vm hG Gds.nil hv;exact⟨u,_,tb,by rw[bL];exact h1,Z3 h,QZ _ _ _,hG.put o.dst h2⟩
   .exact h.elim
  .split at h
   .rename_i cs v dJ;obtain⟨h1,h2⟩:=Z6 h;obtain⟨u,h3,h4⟩:=Rh (hG.evs (Gds.nil (tb:=tb))) (fun _=>rfl) hG.leB hG.obj dJ (h2 fun g hg=>by cases hg);exact⟨u,_,tb,h3,Z3 h1,QZ _ _ _,hG.put o.dst h4⟩
   .exact h.elim
 .rename_i j want hg;rw[hg];split at h
  .exact h.elim
  .rename_i gs s' ec;obtain⟨tb',br,cR,b,hw,bw,cn⟩:=X3 hG ec;refine⟨b,hw,fun e=>?_,fun e=>?_⟩
   .have gR:Gds tb' gs:=fun g hg=>⟨bw e g hg,cR g hg⟩;have fin:∀ {v u},SR P B pl tb' v u->SR P B pl tb' (.grd gs (Gl v)) u:=fun {v u} hs=>by
     simp only[SR];obtain⟨h1,h2⟩:=Bl hs;exact⟨⟨cR,h2⟩,fun _=>h1,fun ⟨g,hg,aC⟩=>absurd (bw e g hg) aC⟩
    split at h
    .rename_i c a b' bL;split at h
     .rename_i v hv;obtain⟨u,h1,h2⟩:=Vm br gR hv;exact⟨u,_,tb',by rw[bL];exact h1,Z3 h,(QZ _ _ _).trans (Ya ec),br.put o.dst (fin h2)⟩
     .exact h.elim
    .split at h
     .rename_i cs v dJ;obtain⟨h1,h2⟩:=Z6 h;obtain⟨u,h3,h4⟩:=Rh (br.evs gR) (fun _=>rfl) br.leB br.obj dJ (h2 (bw e));exact⟨u,_,tb',h3,Z3 h1,(QZ _ _ _).trans (Ya ec),br.put o.dst (fin h4)⟩
     .exact h.elim
   .have fin:∀ v,SR P B pl tb' (.grd gs (Gl v)) undef:=fun v=>by
     simp only[SR];obtain⟨g,hg,aC⟩:=cn e;exact⟨⟨cR,Bn v⟩,fun hall=>absurd (hall g hg) aC,fun _=>trivial⟩
    split at h
    .split at h
     .exact⟨_,tb',Z3 h,(QZ _ _ _).trans (Ya ec),br.put o.dst (fin _)⟩
     .exact h.elim
    .split at h
     .exact⟨_,tb',Z3 (Z6 h).1,(QZ _ _ _).trans (Ya ec),br.put o.dst (fin _)⟩
     .exact h.elim
theorem A6 {bs:List OB}{q:Prop}(h:Od bs q):(∀ b∈bs,b.wf)/\q:=by
 induction bs with
 |nil=>exact⟨(fun b hb=>by cases hb),h⟩
 |cons b r ih =>
  obtain⟨h1,h2⟩:=h;obtain⟨h3,h4⟩:=ih h2;exact⟨fun b' cj=>by
   rcases List.mem_cons.1 cj with rfl|cj
   .exact h1
   .exact h3 b' cj,h4⟩
mutual
theorem AB {d nt:Nat}:∀ (v:SV),v.ret 0=true->(v.ren d nt).ret 0=true
 |.val k x,h=>h
 |.nilS,_|.nilP,_|.nilM,_|.nilF,_=>rfl
 |.lst j,h|.box j _,h|.map j,h=>by simp[SV.ret,Nat.blt] at h
 |.agg l,h=>by simp only[SV.ren,SV.ret] at h |-;exact HK l h
 |.tup l,h=>by simp only[SV.ren,SV.ret] at h |-;exact HK l h
 |.any,h|.bid _ _,h|.grd _ _,h|.sub _ _ _ _,h|.elp _ _ _ _,h|.rop _ _ _ _,h|.cp _ _,h|.fn _ _ _,h|.pf _ _ _ _,h=>by cases h
theorem HK {d nt:Nat}:∀ (v:List SV),SVs.ret 0 v=true->SVs.ret 0 (SVs.ren d nt v)=true
 |[],_=>rfl
 |s::ss,h=>by simp only[SVs.ret,SVs.ren,Bool.and_eq_true] at h |-;exact⟨AB s h.1,HK ss h.2⟩
end
theorem X4 {C:Cx}(az:COk P C) {B F:Heap}{pl:Nat->Value}{tb:Nat->Option Bool}{s:St}{env:Env}{σ:Heap}(hG:Gam P B F pl tb s env σ) {d:Nat}{f:SV}{args:List SV}{K:List Nat->SV->St->Prop}(h:NJ C d f args s K) {fV:Value}{vs:List Value}
  (hf:SR P σ Jq ZH f fV) (ha:SRs P σ Jq ZH args vs):∃ g a b u σ' ts v s' pl',fV=.func (.func g) a b/\(VCalled P g (a.toList++vs++b.toList) σ fun u' aN=>u'=u/\aN=σ')/\K ts v s'/\Gam P B F pl' tb s' env σ'/\SR P B pl' tb v u/\(ts=[]->σ'=σ/\pl'=pl/\s'=s)/\σ.Le σ'/\Dead σ σ'/\FrL ts s s' pl pl' σ σ':=by
 unfold NJ at h;split at h
 .rename_i c v bs heq;cases hb:(v.ret bs.length&&(bs.all OB.ret&&(Nat.blt 0 C.nt&&(bs.all OB.isL&&YN v)))) with
  |false=>rw[hb] at h;exact h.elim
  |true =>
   rw[hb] at h;obtain⟨h1,h2⟩:=h;obtain⟨h3,h4⟩:=A6 h2;simp only[Bool.and_eq_true] at hb;obtain⟨hv,od,eo,hl,cH⟩:=hb;obtain⟨g,a,b,e,_,hx⟩:=Zg az.cs hf ha heq hv od h1;have dI:=H5 (P:=P) σ hv cH od hl (fun b hb=>by have:=h3 b hb;cases b<;>exact this);by_cases b9:bs=[]
   .subst b9;obtain⟨k1,k2⟩:=dI.flat hv;refine⟨g,a,b,_,_,_,_,_,pl,e,hx hl cH,h4,?_,?_,fun _=>⟨k1,rfl,rfl⟩,dI.1.1,dI.1.2,fun q _=>⟨rfl,rfl,fun _ _ _=>by rw[k1]⟩⟩
    .rw[k1];exact hG
    .exact SR.retd (B:=hNil) (pl:=pl) (tb:=ZH) (n:=0) (fun j hj=>by omega) _ _ (AB v hv) (SR.ren (pl:=Jq) (tb:=ZH) (n:=0) (fun j hj=>by omega) v _ hv k2)
   .obtain⟨pl',h5,h6,h7⟩:=dI.gamF (nt:=C.nt) (d:=d) (by simpa [Nat.blt_eq] using eo) hG hv od;refine⟨g,a,b,_,_,_,_,_,pl',e,hx hl cH,h4,h5,h6,fun he=>absurd (by simpa using he) b9,dI.1.1,dI.1.2,fun q hq=>h7 q fun j hj e=>hq ?_⟩;exact List.mem_map.2 ⟨j,List.mem_range.2 hj,e.symm⟩
 .exact h.elim
def AZ:VOp->Bool
 |.callF ..|.callV ..=>true
 |.ext (.rangeMap _)|.ext (.nextMap _)=>true
 |_=>false
theorem Q8h {C:Cx}{B F:Heap}{pl:Nat->Value}{tb:Nat->Option Bool}{s:St}{env:Env}{σ:Heap}(hG:Gam P B F pl tb s env σ) {d:Nat}{o:VOp}{K:SV->St->Prop}(h:gn C d o (gev [] s.env) s K) (hc:AZ o=false) :
  NOk P B F tb o (Q4 env) env σ K (QC d o (gev [] s.env)) s pl:=by
 have ak:=hG.evs (Gds.nil (tb:=tb));cases o
 case alloc t z=>exact Oo ak hG h
 case box t x=>exact Q9p ak hG h
 case buildSlice e z n ps=>exact Ul ak hG h
 case makeSlice e b z l c=>exact Hh ak hG h
 case append e b x y=>exact Ak ak hG h
 case store size a x=>exact OS ak hG h
 case callF=>cases hc
 case callV=>cases hc
 case ext x =>
  cases x
  case mapUpdate mk m k v=>exact HX ak hG h
  case delete mk m k=>exact False.elim h
  case mapEntry mk z m k=>exact False.elim h
  case entryStore m s v=>exact False.elim h
  case copy size a b=>exact Q3u ak hG h
  case unsafeStr e a n=>exact HY ak hG h
  case strBytes e a=>exact False.elim h
  case rangeMap=>cases hc
  case nextMap=>cases hc
  all_goals exact h.elim
 all_goals exact h.elim
theorem RM {o:VOp}{ev:Operand->Value}{σ σ':Heap}{u:Value}(hm:Hy o=true) (h:Q6 o ev σ=some (u,σ')):σ.Le σ':=by
 have push:∀ b:Blk,σ.Le (σ.push b):=fun b=>(Heap.Le.refl σ).push b;cases o<;>first|(cases hm;done)|skip
 case alloc t z=>obtain⟨rfl,rfl⟩:=QD h;exact push _
 case box t x =>
  simp only[Q6] at h;split at h
  .obtain⟨rfl,rfl⟩:=QD h;exact push _
  .cases h
 case buildSlice e z n ps =>
  simp only[Q6] at h;split at h
  .obtain⟨rfl,rfl⟩:=QD h;exact push _
  .cases h
 case makeSlice e b z l c =>
  simp only[Q6] at h;split at h
  .split at h
   .obtain⟨rfl,rfl⟩:=QD h;exact push _
   .cases h
  .cases h
def stM:MK:=.agg [.int .i64,.int .i64]
def Q8y:Option Jr->Value
 |some e=>e.2.1
 |none=>.int .i64 0
def LkE (es bX:List Jr):Prop:=(es.all (fun e=>Zp stM e.1)=true->bX.all (fun e=>Zp stM e.1)=true)/\(es.all (fun e=>Zp stM e.1)=true->∀ k,Zp stM k=true->Q8y (Qu k bX)=Q8y (Qu k es))
theorem LkE.trans {a b c:List Jr}(h:LkE a b) (h':LkE b c):LkE a c:=⟨fun k=>h'.1 (h.1 k),fun k x hx=>(h'.2 (h.1 k) x hx).trans (h.2 k x hx)⟩
theorem Ou {mk:MK}{z:Value}(h:stP mk z=true):mk=stM/\z=.int .i64 0:=by
 unfold stP at h;split at h
 .exact⟨rfl,by rw[eq_of_beq h]⟩
 .cases h
def FT (σ:Heap) (own:Own) (pl:Nat->Value) (Q:Heap->Prop):Option Nat->Prop
 |none=>∀ τ,σ.Le τ->Q τ
 |some q=>(Qd own (q / 2)).live=true/\∃ i b,Oid (pl (q / 2)) i/\σ.get i=some b/\(∀ τ,τ.get i=some b->Q τ)/\(q % 2=1->∃ es c wr,b=.obj (.map es c) wr/\∀ τ bX c',LkE es bX->τ.get i=some (.obj (.map bX c') wr)->Q τ)
structure DSt (hs:List Heap) (σ:Heap) (pend:List (Nat×(Heap->Prop))) (hl chg:Nat) (A R:List (Nat×Option Nat)) (own:Own) (pl:Nat->Value):Prop where
 len:hs.length=hl
 same:∀ j τ,chg<=j->hs[j]?=some τ->τ=σ
 pend:∀ c∈pend,c.1<hl\/∃ r∈R,c.1<=r.1/\FT σ own pl c.2 r.2
 fr:∀ j τ q i,hs[j]?=some τ->Z1 A j q=true->(Qd own q).live=true->Oid (pl q) i->τ.get i=σ.get i
theorem W_ {r:Nat}{σ:Heap}:∀ {l:List (Nat×(Heap->Prop))},(∀ c∈l,r<=c.1->c.2 σ)->Jj r σ l
 |[],_=>trivial
 |c::l,h=>⟨h c (by simp),W_ fun c' cJ=>h c' (by simp[cJ])⟩
theorem ZU {hs:List Heap}{σ' τ:Heap}{j:Nat}(h:(hs++[σ'])[j]?=some τ):(j<hs.length/\hs[j]?=some τ)\/(j=hs.length/\τ=σ'):=by
 rw[List.getElem?_append] at h;split at h
 .rename_i ah;exact .inl ⟨ah,h⟩
 .have:j-hs.length=0:=by
   cases hz:j-hs.length with
   |zero=>rfl
   |succ n=>rw[hz] at h;simp at h
  rw[this] at h;exact .inr ⟨by omega,by simpa using h.symm⟩
theorem Pm {a:Nat×Option Nat}{A:List (Nat×Option Nat)}{j q:Nat}(h:Z1 (a::A) j q=true) (hj:j<=a.1):(∃ t,a.2=some t/\t≠q)/\Z1 A j q=true:=by
 simp only[Z1,List.all_cons,Bool.and_eq_true,Bool.or_eq_true,Nat.blt_eq] at h;refine⟨?_,h.2⟩;rcases h.1 with h|h
 .omega
 .split at h
  .rename_i t ht;exact⟨t,ht,fun e=>by subst e;simp at h⟩
  .cases h
theorem DSt.stay {hs:List Heap}{σ:Heap}{pend:List (Nat×(Heap->Prop))}{hl chg:Nat}{A R:List (Nat×Option Nat)}{own:Own}{pl:Nat->Value}(h:DSt hs σ pend hl chg A R own pl) :
  Jj hs.length σ pend/\DSt (hs++[σ]) σ pend (hl+1) chg A R own pl:=by
 have hr:∀ c∈pend,∀ r∈R,FT σ own pl c.2 r.2->c.2 σ:=fun c _ r _ aj=>by
  unfold FT at aj;split at aj
  .exact aj σ (.refl _)
  .obtain⟨_,i,b,_,h2,h3,_⟩:=aj;exact h3 σ h2
 refine⟨W_ fun c hc hle=>?_,⟨by simp[h.len],fun j τ hj ht=>?_,fun c hc=>?_,fun j τ q i ht hu hl hi=>?_⟩⟩
 .rcases h.pend c hc with h1|⟨r,h1,_,h2⟩
  .rw[h.len] at hle;omega
  .exact hr c hc r h1 h2
 .rcases ZU ht with⟨_,h1⟩|⟨_,h1⟩
  .exact h.same j τ hj h1
  .exact h1
 .rcases h.pend c hc with h1|h1
  .exact .inl (by omega)
  .exact .inr h1
 .rcases ZU ht with⟨_,h1⟩|⟨_,rfl⟩
  .exact h.fr j τ q i h1 hu hl hi
  .rfl
theorem DSt.write {hs:List Heap}{σ σ':Heap}{pend:List (Nat×(Heap->Prop))}{hl chg:Nat}{A R:List (Nat×Option Nat)}{s s':St}{pl pl':Nat->Value}(h:DSt hs σ pend hl chg A R s.own pl) {T:Nat}(hf:Fr T s s' pl pl' σ σ') {mk ext:Bool}(hm:mk=true->σ.Le σ')
  (hE:ext=true->(Qd s'.own T).live=true/\pl' T=pl T/\∃ i es c bX c',pl T=.map (some i)/\σ.get i=some (.obj (.map es c) true)/\σ'.get i=some (.obj (.map bX c') true)/\LkE es bX)
  (hc:((mk&&SD R hl T)||Tc R hl T||(ext&&Q8a R hl T))=true) (aW:0<hl):Jj hs.length σ' pend/\DSt (hs++[σ']) σ' pend (hl+1) hl ((hl-1,some T)::A) R s'.own pl':=by
 have hr:∀ Q:Heap->Prop,∀ r∈R,hl<=r.1->FT σ s.own pl Q r.2->FT σ' s'.own pl' Q r.2:=fun Q r lU bj aj=>by
  have hq:∀ q,r.2=some q->q / 2=T->q % 2=1/\ext=true:=fun q hq e=>by
   subst e;simp only[Bool.or_eq_true,Bool.and_eq_true,SD,Tc,Q8a] at hc;rcases hc with (⟨_,hc⟩|hc)|⟨he,hc⟩
   .have:=List.all_eq_true.1 hc r lU;rw[hq] at this;simp only[Bool.or_eq_true,Nat.blt_eq,Nat.beq_refl,Bool.not_true,Bool.false_eq_true,or_false] at this;omega
   .have:=List.all_eq_true.1 hc r lU;rw[hq] at this;simp only[Bool.or_eq_true,Nat.blt_eq,Nat.beq_refl,Bool.not_true,Bool.false_eq_true,or_false] at this;omega
   .have:=List.all_eq_true.1 hc r lU;rw[hq] at this;simp only[Bool.or_eq_true,Nat.blt_eq,Nat.beq_refl,Bool.not_true,Bool.false_eq_true,false_or] at this;rcases this with h|h
    .omega
    .exact⟨Nat.eq_of_beq_eq_true h,he⟩
  cases e:r.2 with
  |none =>
   rw[e] at aj;have ez:mk=true:=by
    simp only[Bool.or_eq_true,Bool.and_eq_true,Tc,Q8a] at hc;rcases hc with (⟨hc,_⟩|hc)|⟨_,hc⟩
    .exact hc
    .have:=List.all_eq_true.1 hc r lU;rw[e] at this;simp only[Bool.or_eq_true,Nat.blt_eq,Bool.false_eq_true,or_false] at this;omega
    .have:=List.all_eq_true.1 hc r lU;rw[e] at this;simp only[Bool.or_eq_true,Nat.blt_eq,Bool.false_eq_true,or_false] at this;omega
   exact fun τ ht=>aj τ ((hm ez).trans ht)
  |some q =>
   rw[e] at aj;obtain⟨k1,i,b,k2,k3,k4⟩:=aj;by_cases oe:q / 2=T
   .obtain⟨ho,he⟩:=hq q e oe;obtain⟨g1,g2,i',es,c,bX,c',g3,g4,g5,g6⟩:=hE he;obtain⟨k5,k6⟩:=k4;obtain⟨xh,c0,wr,rfl,k7⟩:=k6 ho;rw[oe] at k1 k2;have hi:i=i':=Ok (by rw[g3];rfl) k2;subst hi;rw[g4] at k3;cases k3;refine⟨by rw[oe];exact g1,i,_,by rw[oe,g2];exact k2,g5,fun τ hτ=>k7 τ _ _ g6 hτ,fun _=>⟨_,_,_,rfl,fun τ vG xi hl hτ=>k7 τ _ _ (g6.trans hl) hτ⟩⟩
   .obtain⟨f1,f2,f3⟩:=hf (q / 2) oe;exact⟨by rw[f1];exact k1,i,b,by rw[f2];exact k2,by rw[f3 k1 i k2];exact k3,k4⟩
 have now:∀ Q:Heap->Prop,∀ r,FT σ' s'.own pl' Q r->Q σ':=fun Q r aj=>by
  unfold FT at aj;split at aj
  .exact aj σ' (.refl _)
  .obtain⟨_,i,b,_,h2,h3,_⟩:=aj;exact h3 σ' h2
 refine⟨W_ fun c hc hle=>?_,⟨by simp[h.len],fun j τ hj ht=>?_,fun c hc=>?_,fun j τ q i ht hu cA hi=>?_⟩⟩
 .rw[h.len] at hle;rcases h.pend c hc with h1|⟨r,h1,h2,h3⟩
  .omega
  .exact now _ _ (hr _ r h1 (by omega) h3)
 .rcases ZU ht with⟨h1,_⟩|⟨_,h1⟩
  .rw[h.len] at h1;omega
  .exact h1
 .rcases h.pend c hc with h1|⟨r,h1,h2,h3⟩
  .exact .inl (by omega)
  .by_cases bj:hl<=r.1
   .exact .inr ⟨r,h1,h2,hr _ r h1 bj h3⟩
   .exact .inl (by omega)
 .rcases ZU ht with⟨h1,h2⟩|⟨_,rfl⟩
  .rw[h.len] at h1;obtain⟨⟨t,ht,vH⟩,cB⟩:=Pm hu (by simp only;omega);obtain rfl:=osj ht;obtain⟨f1,f2,f3⟩:=hf q (Ne.symm vH);rw[f1] at cA;rw[f2] at hi;rw[f3 cA i hi];exact h.fr j τ q i h2 cB cA hi
  .rfl
theorem Ga {ts:List Nat}{hl j q:Nat}{A:List (Nat×Option Nat)}(h:Z1 (ts.map (fun t=>(hl,some t))++A) j q=true) (hj:j<=hl):q∉ts/\Z1 A j q=true:=by simp only[Z1,List.all_append,Bool.and_eq_true] at h |-;refine⟨fun hm=>?_,h.2⟩;have:=List.all_eq_true.1 h.1 (hl,some q) (List.mem_map.2 ⟨q,hm,rfl⟩);simp only[Bool.or_eq_true,Nat.blt_eq,Nat.beq_refl,Bool.not_true,Bool.false_eq_true,or_false] at this;omega
theorem DSt.call {hs:List Heap}{σ σ':Heap}{pend:List (Nat×(Heap->Prop))}{hl chg:Nat}{A R:List (Nat×Option Nat)}{s s':St}{pl pl':Nat->Value}(h:DSt hs σ pend hl chg A R s.own pl) (hle:σ.Le σ') {Ts:List Nat}(hf:FrL Ts s s' pl pl' σ σ') (aW:0<hl) :
  Jj hs.length σ' pend/\DSt (hs++[σ']) σ' pend (hl+1) hl (Ts.map (fun t=>(hl-1,some t))++A) (R.map fun r=>(r.1,none)) s'.own pl':=by
 have hr:∀ Q r,FT σ s.own pl Q r->∀ τ,σ'.Le τ->Q τ:=fun Q r aj τ ht=>by
  unfold FT at aj;split at aj
  .exact aj τ (hle.trans ht)
  .obtain⟨_,i,b,_,h2,h3,_⟩:=aj;exact h3 τ (ht.2 _ _ (hle.2 _ _ h2))
 refine⟨W_ fun c hc hle=>?_,⟨by simp[h.len],fun j τ hj ht=>?_,fun c hc=>?_,fun j τ q i ht hu cA hi=>?_⟩⟩
 .rcases h.pend c hc with h1|⟨r,h1,_,h2⟩
  .rw[h.len] at hle;omega
  .exact hr _ _ h2 _ (.refl _)
 .rcases ZU ht with⟨h1,_⟩|⟨_,h1⟩
  .rw[h.len] at h1;omega
  .exact h1
 .rcases h.pend c hc with h1|⟨r,h1,h2,h3⟩
  .exact .inl (by omega)
  .exact .inr ⟨(r.1,none),List.mem_map.2 ⟨r,h1,rfl⟩,h2,hr _ _ h3⟩
 .rcases ZU ht with⟨h1,h2⟩|⟨_,rfl⟩
  .rw[h.len] at h1;obtain⟨hq,cB⟩:=Ga hu (by omega);obtain⟨f1,f2,f3⟩:=hf q hq;rw[f1] at cA;rw[f2] at hi;rw[f3 cA i hi];exact h.fr j τ q i h2 cB cA hi
  .rfl
theorem DSt.writeD {hs:List Heap}{σ σ':Heap}{pend:List (Nat×(Heap->Prop))}{hl chg:Nat}{A R:List (Nat×Option Nat)}{s s':St}{pl pl':Nat->Value}(h:DSt hs σ pend hl chg A R s.own pl) {Ts:List Nat}(hf:FrL Ts s s' pl pl' σ σ') {mk:Bool}(hm:mk=true->σ.Le σ')
  (hc:FR mk R hl Ts=true) (aW:0<hl):Jj hs.length σ' pend/\DSt (hs++[σ']) σ' pend (hl+1) hl (Ts.map (fun t=>(hl-1,some t))++A) R s'.own pl':=by
 have hr:∀ Q:Heap->Prop,∀ r∈R,hl<=r.1->FT σ s.own pl Q r.2->FT σ' s'.own pl' Q r.2:=fun Q r lU bj aj=>by
  have lW:=List.all_eq_true.1 hc r lU;have lW:(match r.2 with|some q=>Ts.all (fun t=>!(Nat.beq (q / 2) t))|none=>mk)=true:=by rw[Bool.or_eq_true,Nat.blt_eq] at lW;exact lW.resolve_left (by omega)
  cases e:r.2 with
  |none =>rw[e] at aj lW;exact fun τ ht=>aj τ ((hm lW).trans ht)
  |some q =>
   rw[e] at aj lW;obtain⟨k1,i,b,k2,k3,k4⟩:=aj;obtain⟨f1,f2,f3⟩:=hf (q / 2) fun hq=>by have:=List.all_eq_true.1 lW (q / 2) hq;simp at this
   exact⟨by rw[f1];exact k1,i,b,by rw[f2];exact k2,by rw[f3 k1 i k2];exact k3,k4⟩
 have now:∀ Q:Heap->Prop,∀ r,FT σ' s'.own pl' Q r->Q σ':=fun Q r aj=>by
  unfold FT at aj;split at aj
  .exact aj σ' (.refl _)
  .obtain⟨_,i,b,_,h2,h3,_⟩:=aj;exact h3 σ' h2
 refine⟨W_ fun c hc hle=>?_,⟨by simp[h.len],fun j τ hj ht=>?_,fun c hc=>?_,fun j τ q i ht hu cA hi=>?_⟩⟩
 .rw[h.len] at hle;rcases h.pend c hc with h1|⟨r,h1,h2,h3⟩
  .omega
  .exact now _ _ (hr _ r h1 (by omega) h3)
 .rcases ZU ht with⟨h1,_⟩|⟨_,h1⟩
  .rw[h.len] at h1;omega
  .exact h1
 .rcases h.pend c hc with h1|⟨r,h1,h2,h3⟩
  .exact .inl (by omega)
  .by_cases bj:hl<=r.1
   .exact .inr ⟨r,h1,h2,hr _ r h1 bj h3⟩
   .exact .inl (by omega)
 .rcases ZU ht with⟨h1,h2⟩|⟨_,rfl⟩
  .rw[h.len] at h1;obtain⟨hq,cB⟩:=Ga hu (by omega);obtain⟨f1,f2,f3⟩:=hf q hq;rw[f1] at cA;rw[f2] at hi;rw[f3 cA i hi];exact h.fr j τ q i h2 cB cA hi
  .rfl
theorem Pn {hl d j q:Nat}{A:List (Nat×Option Nat)}(h:Z1 ((hl,none)::A) j q=true):Z1 ([d].map (fun t=>(hl,some t))++A) j q=true:=by simp only[Z1,List.all_cons,Bool.and_eq_true,Bool.or_eq_true,Bool.false_eq_true,or_false,List.map_cons,List.map_nil,List.cons_append,List.nil_append] at h |-;exact⟨.inl h.1,h.2⟩
theorem DSt.frozen {hs:List Heap}{σ:Heap}{pend:List (Nat×(Heap->Prop))}{hl chg m d:Nat}{A R:List (Nat×Option Nat)}{own:Own}{pl:Nat->Value}(h:DSt hs σ pend hl chg ([d].map (fun t=>(m,some t))++A) R own pl):DSt hs σ pend hl chg ((m,none)::A) R own pl :=
 ⟨h.len,h.same,h.pend,fun j τ q i ht hu=>h.fr j τ q i ht (Pn hu)⟩
theorem Bp {ts:List Nat}{m j:Nat}{A:List (Nat×Option Nat)}(h:Ms (ts.map (fun t=>(m,some t))++A) j=true):Ms A j=true:=by simp only[Ms,List.all_append,Bool.and_eq_true] at h;exact h.2
theorem BU {a:Nat×Option Nat}{j:Nat}{A:List (Nat×Option Nat)}(h:Ms (a::A) j=true):Ms A j=true:=by simp only[Ms,List.all_cons,Bool.and_eq_true] at h;exact h.2
theorem Tf {C:Cx}{f:SV}{args:List SV}{cs:List Prop}{v:SV}(h:Om C f args=some (cs,v)):∃ c ty k xs nl,Kg C.cs f args=some (c,.lst 0,[.lst ty k xs nl])/\cs=[c,nl=true->xs=[]]/\v=.val (.list k) xs/\k.flat=true/\0<C.nt:=by
 unfold Om at h;split at h
 .rename_i heq;split at h
  .rename_i k xs nl;cases hc:(k.flat&&Nat.blt 0 C.nt) with
   |false=>rw[hc] at h;cases h
   |true =>rw[hc] at h;obtain⟨rfl,rfl⟩:=QD h;simp only[Bool.and_eq_true,Nat.blt_eq] at hc;exact⟨_,_,_,_,_,heq,rfl,rfl,hc.1,hc.2⟩
  .cases h
 .cases h
theorem Lp {b:OB}(h:b.here=true):b.live=true:=by cases b<;>first|rfl|cases h
theorem WY {B F:Heap}{pl:Nat->Value}{tb:Nat->Option Bool}{s:St}{env:Env}{σ:Heap}(hG:Gam P B F pl tb s env σ) {o:VOp}{q:Nat}(h:U7 o (gev [] s.env) s.own=some q) {u:Value}{σ2:Heap}(hv:Q6 o (Q4 env) σ=some (u,σ2)) :
  (Qd s.own (q / 2)).live=true/\∃ i b,Oid (pl (q / 2)) i/\σ.get i=some b/\(∀ τ,τ.get i=some b->Q6 o (Q4 env) τ=some (u,τ))/\(q % 2=1->∃ es c wr,b=.obj (.map es c) wr/\∀ τ bX c',LkE es bX->τ.get i=some (.obj (.map bX c') wr)->Q6 o (Q4 env) τ=some (u,τ)):=by
 have two:∀ q,2*q / 2=q:=fun q=>by omega
 have og:∀ q,(2*q+1) / 2=q:=fun q=>by omega
 have odd:∀ {q} {X:Prop},2*q % 2=1->X:=fun {q X} h=>by omega
 unfold U7 at h;split at h
 .rename_i agg size a;have ha:=hG.evs (Gds.nil (tb:=tb)) a;have key:∀ q i off,(Qd s.own q).live=true->Oid (pl q) i->Q4 env a=.pointer (some ⟨i,off,none⟩)->(Qd s.own q).live=true/\∃ i b,Oid (pl q) i/\σ.get i=some b/\∀ τ,τ.get i=some b->Q6 (.load agg size a) (Q4 env) τ=some (u,τ):=fun q i off hl hi he=>by
   simp only[Q6,he] at hv;cases hb:σ.get i with
   |none=>rw[hb] at hv;cases hv
   |some b =>
    refine⟨hl,i,b,hi,hb,fun τ ht=>?_⟩;rw[hb] at hv;simp only[Q6,he,ht];cases b with
    |obj o wr=>cases hv
    |cells c e wr t =>
     simp only at hv |-;split at hv
     .obtain⟨rfl,rfl⟩:=QD hv;rfl
     .cases hv
  split at h
  .rename_i q' off hx;rw[hx] at ha;simp only[SR] at ha;obtain⟨b,h1,h2⟩:=ha;cases hh:(Qd s.own q').here with
   |false=>rw[hh] at h;cases h
   |true =>rw[hh] at h;obtain rfl:=osj h;obtain⟨x1,y1,y2,y3,y4,y5⟩:=key q' b off (Lp hh) (by rw[h1];rfl) h2;exact⟨by rw[two];exact x1,y1,y2,by rw[two];exact y3,y4,y5,odd⟩
  .rename_i q' i off sz hx;rw[hx] at ha;simp only[SR] at ha;obtain⟨b,len,cap,h1,h2,h3,h4⟩:=ha;cases hh:(Qd s.own q').here with
   |false=>rw[hh] at h;cases h
   |true =>rw[hh] at h;obtain rfl:=osj h;obtain⟨x1,y1,y2,y3,y4,y5⟩:=key q' b _ (Lp hh) (by rw[h1];rfl) h4;exact⟨by rw[two];exact x1,y1,y2,by rw[two];exact y3,y4,y5,odd⟩
  .cases h
 .rename_i mk z x y;cases bJ:stP mk z with
  |false=>rw[bJ] at h;cases h
  |true =>
   rw[bJ] at h;simp only[_root_.cond_true] at h;obtain⟨rfl,rfl⟩:=Ou bJ;split at h
   .rename_i q' hx;split at h
    .rename_i kk vk l ho;obtain rfl:=osj h;have ha:=hG.evs (Gds.nil (tb:=tb)) x;rw[hx] at ha;simp only[SR] at ha;have ao:=hG.obj q';rw[ho] at ao;obtain⟨id,es,c,h2,h3,_⟩:=ao;have aP:∀ (τ:Heap) bX c' wr,τ.get id=some (.obj (.map bX c') wr)->τ.mapAt id=some (bX,c',wr):=fun τ bX c' wr hτ=>by simp[Heap.mapAt,hτ]
     simp only[Q6,Z5,ha.1,h2,aP _ _ _ _ h3] at hv;refine⟨by rw[og,ho];rfl,id,_,by rw[og,h2];rfl,h3,fun τ hτ=>?_,fun _=>⟨es,c,true,rfl,fun τ bX c' hl hτ=>?_⟩⟩
     .simp only[Q6,Z5,ha.1,h2,aP _ _ _ _ hτ];split at hv
      .rename_i dL;split at hv
       .rename_i fg;rw[if_pos dL,if_pos fg];cases he:Qu (Q4 env y) es with
        |some e=>rw[he] at hv;obtain⟨rfl,rfl⟩:=QD hv;rfl
        |none=>rw[he] at hv;obtain⟨rfl,rfl⟩:=QD hv;rfl
       .cases hv
      .cases hv
     .simp only[Q6,Z5,ha.1,h2,aP _ _ _ _ hτ];split at hv
      .rename_i dL;split at hv
       .rename_i fg;rw[if_pos dL,if_pos (hl.1 fg)];have cF:=hl.2 fg _ dL;cases he:Qu (Q4 env y) es with
        |some e =>
         rw[he] at hv cF;obtain⟨rfl,rfl⟩:=QD hv;cases hm:Qu (Q4 env y) bX with
         |some e'=>rw[hm] at cF;simp only[Q8y] at cF;simp[cF]
         |none=>rw[hm] at cF;simp only[Q8y] at cF;simp[<-cF]
        |none =>
         rw[he] at hv cF;obtain⟨rfl,rfl⟩:=QD hv;cases hm:Qu (Q4 env y) bX with
         |some e'=>rw[hm] at cF;simp only[Q8y] at cF;simp[cF]
         |none=>rfl
       .cases hv
      .cases hv
    .cases h
   .cases h
 .cases h
theorem UL {r:Nat}{σ:Heap}:∀ {l:List (Nat×(Heap->Prop))},Jj r σ l->∀ {c},c∈l->r<=c.1->c.2 σ
 |c::l,h,c',hc,hr=>by
  rcases List.mem_cons.1 hc with rfl|hc
  .exact h.1 hr
  .exact UL h.2 hc hr
theorem UN {B F:Heap}{pl:Nat->Value}{tb:Nat->Option Bool}{s:St}{env:Env}{σ:Heap}(hG:Gam P B F pl tb s env σ) {gs:List Gd}(hg:Gds tb gs) {o:VOp}(h:Q83 o (gev gs s.env)=true) {u:Value}{σ2:Heap}(hv:Q6 o (Q4 env) σ=some (u,σ2)) :
  ∀ τ,B.Le τ->Q6 o (Q4 env) τ=some (u,τ):=by
 unfold Q83 at h;split at h
 .rename_i agg size a;have ha:=hG.evs hg a;have key:∀ i off,(∃ b,B.get i=some b)->Q4 env a=.pointer (some ⟨i,off,none⟩)->∀ τ,B.Le τ->Q6 (.load agg size a) (Q4 env) τ=some (u,τ):=fun i off ⟨b,hb⟩ he τ hτ=>by
   simp only[Q6,he,hG.leB.2 _ _ hb] at hv;simp only[Q6,he,hτ.2 _ _ hb];cases b with
   |obj o wr=>cases hv
   |cells c e wr t =>
    simp only at hv |-;split at hv
    .obtain⟨rfl,rfl⟩:=QD hv;rfl
    .cases hv
  split at h
  .rename_i k l i off hx;rw[hx] at ha;simp only[SR] at ha;obtain⟨b,o,c,e,wr,t,_,_,h3,h4,_⟩:=ha;exact key b _ ⟨_,h3⟩ h4
  .rename_i l off hx;rw[hx] at ha;simp only[SR] at ha;obtain⟨b,c,e,wr,t,h3,h4,_⟩:=ha;exact key b _ ⟨_,h3⟩ h4
  .cases h
 .cases h
theorem Oe {C:Cx}{B F:Heap}{pl:Nat->Value}{tb:Nat->Option Bool}{s:St}{env:Env}{σ:Heap}(hG:Gam P B F pl tb s env σ) {d:Nat}{o:VOp}{K:SV->St->Prop}(h:gn C d o (gev [] s.env) s K) (hc:AZ o=false) :
  ∃ u σ' pl' v s',Q6 o (Q4 env) σ=some (u,σ')/\K v s'/\(Gam P B F pl' tb s' env σ'/\Fr (QC d o (gev [] s.env)) s s' pl pl' σ σ')/\SR P B pl' tb v u /\
  (Tm o=true->(Qd s'.own (QC d o (gev [] s.env))).live=true/\pl' (QC d o (gev [] s.env))=pl (QC d o (gev [] s.env))/\∃ i es c bX c',pl (QC d o (gev [] s.env))=.map (some i)/\σ.get i=some (.obj (.map es c) true)/\σ'.get i=some (.obj (.map bX c') true)/\LkE es bX):=by
 cases he:Tm o with
 |false =>obtain⟨u,σ',pl',v,s',h1,h2,h3,h4⟩:=Q8h hG h hc;exact⟨u,σ',pl',v,s',h1,h2,h3,h4,fun h=>by cases h⟩
 |true =>
  unfold Tm at he;split at he
  .rename_i mk z m kx;obtain⟨rfl,rfl⟩:=Ou he;exact False.elim h
  .cases he
def Zy (S:VSpecs):List DOper->Env->List Heap->Heap->List (Nat×(Heap->Prop))->(Env->Heap->Prop)->Prop
 |[],env,_,σ,_,K=>K env σ
 |o::rest,env,hs,σ,pend,K=>QU (Zo env o.guard) fun b =>
   vif b (if o.kind=2 then Gc (fun R=>vop S o.op env σ R) fun v σ'=>Jj hs.length σ' pend/\Zy S rest (Jv env o.dst v) (hs++[σ']) σ' pend K
     else if o.kind=1 then QU (Q6 o.op (Q4 env) σ) fun p=>(∀ τ∈hs.drop o.kmin,Jh o.op (Q4 env) p.1 τ) /\
      Zy S rest (Jv env o.dst p.1) hs σ (if hs.length<=o.kmax then (o.kmax,Jh o.op (Q4 env) p.1)::pend else pend) K
     else QU (Q6 o.op (Q4 env) σ) fun p=>Zy S rest (Jv env o.dst p.1) hs σ pend K)
    (if o.kind=2 then Jj hs.length σ pend/\Zy S rest (Jv env o.dst undef) (hs++[σ]) σ pend K else Zy S rest (Jv env o.dst undef) hs σ pend K)
theorem BR {α:Type}{o:Option α}{f g:α->Prop}(h:QU o f) (lX:∀ a,f a->g a):QU o g:=by
 cases o with
 |none=>exact h.elim
 |some a=>exact lX a h
theorem XG {S:VSpecs}{K:Env->Heap->Prop}:∀ {ops:List DOper}{env:Env}{hs:List Heap}{σ:Heap}{pend:List (Nat×(Heap->Prop))},Zy S ops env hs σ pend K->Z8 S ops env hs σ pend K
 |[],_,_,_,_,h=>h
 |o::r,env,hs,σ,pend,h=>by
  simp only[Zy] at h;simp only[Z8];refine BR h fun b h=>⟨fun e=>?_,fun e=>?_⟩
  .have h:=h.1 e;split at h
   .rename_i hk;rw[if_pos hk];obtain⟨v,σ',h1,h2,h3⟩:=h;exact .inl ⟨v,σ',h1,h2,XG h3⟩
   .rename_i hk;rw[if_neg hk];split at h
    .rename_i aL;rw[if_pos aL];exact BR h fun p h=>⟨h.1,XG h.2⟩
    .rename_i aL;rw[if_neg aL];exact BR h fun p h=>XG h
  .have h:=h.2 e;split at h
   .rename_i hk;rw[if_pos hk];exact⟨h.1,XG h.2⟩
   .rename_i hk;rw[if_neg hk];exact XG h
theorem Qk {C:Cx}(az:COk P C) (bh:C.xs=[]) {B0 F0 D0:Heap}:∀ (ops:List DOper),(∀ o∈ops,o.kind=o.op.kind)->∀ {s:St}{env:Env}{σ:Heap}{B F:Heap}{pl:Nat->Value}{tb:Nat->Option Bool},GBase B0 F0 D0 B F σ->Gam P B F pl tb s env σ->∀ {hl chg:Nat}{A Rd:List (Nat×Option Nat)}{hs:List Heap}{pend pd:List (Nat×(Heap->Prop))},DSt hs σ pd hl chg A Rd s.own pl->(∀ c∈pend,(∀ τ,B.Le τ->c.2 τ)\/c∈pd)->(∀ j τ,hs[j]?=some τ->Ms A j=true->B.Le τ)->chg<=hl->0<hl ->
  ∀ {K:St->Prop},JJ C ops s hl chg A Rd K->∀ {R:Env->Heap->Prop},(∀ s' af σ',K s'->GRel P B0 F0 D0 s' af σ'->R af σ')->Zy (Q2 P) ops env hs σ pend R
 |[],_,s,env,σ,B,F,pl,tb,hB,hG,_,_,_,_,_,_,_,_,_,_,_,_,K,h,R,hK=>hK s env σ h ⟨B,F,pl,tb,hB,hG⟩
 |o0::r,fJ,s,env,σ,B,F,pl,tb,hB,hG,hl,chg,A,Rd,hs,pend,pd,hD,hp,b9,eM,aW,K,h,R,hK=>by
  have eT:∀ {n:Nat}{τ:Heap},B.Le τ->Jj n τ pd->Jj n τ pend:=fun {n τ} hb hv=>W_ fun c hc hn=>(hp c hc).elim (fun h=>h τ hb) fun h=>UL hv h hn;have snoc:∀ {τ:Heap}{A':List (Nat×Option Nat)},B.Le τ->(∀ j,Ms A' j=true->Ms A j=true)->∀ j τ',(hs++[τ])[j]?=some τ'->Ms A' j=true->B.Le τ':=fun {τ A'} hb hA j τ' hm hn=>by
   rcases ZU hm with⟨_,h1⟩|⟨_,rfl⟩
   .exact b9 j τ' h1 (hA j hn)
   .exact hb
  have cr:∀ o∈r,o.kind=o.op.kind:=fun o' dQ=>fJ o' (List.mem_cons_of_mem _ dQ);have lY:=fJ o0 List.mem_cons_self;unfold JJ at h;split at h
  .rename_i bJ;have hw:=Yk hG bJ;simp only[Zy];rw[hw];refine⟨fun e=>(by cases e),fun _=>?_⟩;have cw:=hG.put o0.dst (show SR P B pl tb .any undef by simp[SR]);by_cases au:o0.kind=2
   .rw[if_pos au] at h |-;obtain⟨k1,k2⟩:=hD.stay;exact⟨eT hG.leB k1,Qk az bh r cr hB cw (by rw[QZ];exact k2) hp (snoc hG.leB fun _ h=>h) (by omega) (by omega) h hK⟩
   .rw[if_neg au] at h |-;exact Qk az bh r cr hB cw (by rw[QZ];exact hD) hp b9 eM aW h hK
  have bS:(I8 s.env o0).kind=(I8 s.env o0).op.kind:=by unfold I8;split<;>exact lY
  have eB:Zy (Q2 P) (I8 s.env o0::r) env hs σ pend R->Zy (Q2 P) (o0::r) env hs σ pend R:=fun hv=>by
   unfold I8 at hv;split at hv
   .rename_i bJ;simp only[Zy] at hv |-;rw[Yk hG bJ];exact hv
   .exact hv
  refine eB ?_;clear eB;generalize I8 s.env o0=o at h bS |-
  replace h:=id h
  simp only[Zy];by_cases au:o.kind=2
  .rw[if_pos au] at h
   have fin:∀ {u:Value}{σ':Heap}{ts:List Nat}{v:SV}{s':St}{pl':Nat->Value},(∀ R',R' u σ'->vop (Q2 P) o.op env σ R')->JJ C r (s'.put o.dst v) (hl+1) (bif ts.isEmpty then chg else hl) (ts.map (fun t=>(hl-1,some t))++A) (bif ts.isEmpty then Rd else Rd.map fun r=>(r.1,none)) K->Gam P B F pl' tb s' env σ'->SR P B pl' tb v u->(ts=[]->σ'=σ/\pl'=pl/\s'=s)->σ.Le σ'->Dead σ σ'->FrL ts s s' pl pl' σ σ' ->
     Gc (fun R=>vop (Q2 P) o.op env σ R) fun v σ'=>Jj hs.length σ' pend/\Zy (Q2 P) r (Jv env o.dst v) (hs++[σ']) σ' pend R:=fun {u σ' ts v s' pl'} bL oh br jm he hle hd cO=>by
    cases ts with
    |nil =>obtain⟨rfl,rfl,rfl⟩:=he rfl;obtain⟨k1,k2⟩:=hD.stay;exact⟨u,σ',bL _ ⟨rfl,rfl⟩,eT br.leB k1,Qk az bh r cr (Nq hB hd) (br.put o.dst jm) (by rw[QZ];exact k2) hp (snoc br.leB fun _ h=>h) (by simp only[List.isEmpty,_root_.cond_true] at *;omega) (by omega) oh hK⟩
    |cons t ts =>obtain⟨k1,k2⟩:=hD.call hle cO aW;exact⟨u,σ',bL _ ⟨rfl,rfl⟩,eT br.leB k1,Qk az bh r cr (Nq hB hd) (br.put o.dst jm) (by rw[QZ];exact k2) hp (snoc br.leB fun _ h=>Bp h) (by simp only[List.isEmpty,_root_.cond_false] at *;omega) (by omega) oh hK⟩
   split at h
   .rename_i f args bL;split at h
    .rename_i hg;rw[hg];refine⟨fun _=>?_,fun e=>by cases e⟩;rw[if_pos au];rw[bh] at h;simp only[Qn] at h;obtain⟨g,a,b,u,σ',e,v,s',pl',h1,h2,h3,h4,h5,h6,h7,h8,h9⟩:=X4 az hG h (show SR P σ Jq ZH (.fn f [] []) (.func (.func f) #[] #[]) by simp only[SR,SRs];exact⟨[],[],rfl,rfl,rfl⟩) (hG.gcall Gds.nil args);obtain⟨rfl,rfl,rfl⟩:=(by simpa using h1:f=g/\#[]=a/\#[]=b);refine fin (u:=u) (σ':=σ') (fun R' hr=>?_) h3 h4 h5 h6 h7 h8 h9;rw[bL];show VCalled P f (args.map (Q4 env)) σ R';have:=h2.mono (R':=R') fun u' aN ⟨e1,e2⟩=>by subst e1;subst e2;exact hr
     simpa using this
    .rename_i j want hg;rw[hg];split at h
     .exact h.elim
     .rename_i gs s1 ec;obtain⟨tb',br,cR,b,hw,bw,cn⟩:=X3 hG ec;have aT:=Ya ec;rw[hw];split at h
      .rename_i cs v dJ;cases cH:YN v with
       |false=>rw[cH] at h;exact h.elim
       |true =>
       rw[cH] at h;simp only[_root_.cond_true] at h;obtain⟨h1,h2⟩:=Z6 h;obtain⟨k1,k2⟩:=hD.stay;have lT:∀ x,DSt (hs++[σ]) σ pd (hl+1) chg A Rd (s1.put o.dst x).own pl:=fun x=>by rw[QZ,aT];exact k2
       refine⟨fun e=>?_,fun e=>?_⟩
       .rw[if_pos au];have gR:Gds tb' gs:=fun g hg=>⟨bw e g hg,cR g hg⟩;have lZ:∀ {v u},SR P B pl tb' v u->SR P B pl tb' (.grd gs (Gl v)) u:=fun {v u} hs=>by
         simp only[SR];obtain⟨h1,h2⟩:=Bl hs;exact⟨⟨cR,h2⟩,fun _=>h1,fun ⟨g,hg,aC⟩=>absurd (bw e g hg) aC⟩
        simp only[gqc] at dJ;split at dJ
        .rename_i c v' heq;cases dU:v'.ret 0 with
         |false=>rw[dU] at dJ;cases dJ
         |true =>
          rw[dU] at dJ;obtain⟨rfl,rfl⟩:=QD dJ;obtain⟨g,a,b',h3,h4,_⟩:=Zg az.cs (show SR P σ Jq ZH (.fn f [] []) (.func (.func f) #[] #[]) by simp only[SR,SRs];exact⟨[],[],rfl,rfl,rfl⟩) (br.gcall gR args) heq dU rfl (h2 (bw e) _ (by simp));obtain⟨rfl,rfl,rfl⟩:=(by simpa using h3:f=g/\#[]=a/\#[]=b');refine⟨Kj Jq v',σ,?_,eT hG.leB k1,Qk az bh r cr hB (br.put o.dst (lZ ?_)) (lT _) hp (snoc hG.leB fun _ h=>h) (by omega) (by omega) (Z3 h1) hK⟩
          .rw[bL];show VCalled P f (args.map (Q4 env)) σ _;have:=h4.mono (R':=fun u σ'=>u=Kj Jq v'/\σ'=σ) fun u σ' hr=>by
            obtain⟨rfl,hu⟩:=hr.flat dU;exact⟨KU v' u dU cH hu,rfl⟩
           simpa using this
          .exact SR.retd (fun j hj=>by omega) _ _ dU (Ru (P:=P) (pl:=Jq) (m:=0) (fun j hj=>by omega) v' dU cH)
        .cases dJ
       .rw[if_pos au];obtain⟨g,dO,aC⟩:=cn e;exact⟨eT hG.leB k1,Qk az bh r cr hB (br.put o.dst (by simp only[SR];exact⟨⟨cR,Bn v⟩,fun hall=>absurd (hall g dO) aC,fun _=>trivial⟩)) (lT _) hp (snoc hG.leB fun _ h=>h) (by omega) (by omega) (Z3 h1) hK⟩
      .split at h
       .rename_i cs v jl;obtain⟨c,ty,k,xs,nl,heq,rfl,rfl,hk,eo⟩:=Tf jl;obtain⟨h1,h2⟩:=Z6 h;have frz:∀ {B' σ':Heap},B'.Le σ'->∀ j τ',(hs++[σ'])[j]?=some τ'->Ms ((hl-1,none)::A) j=true->B'.Le τ':=fun {B' σ'} hb j τ' hm hn=>by
         rcases ZU hm with⟨h1,_⟩|⟨_,rfl⟩
         .simp only[Ms,List.all_cons,Bool.and_eq_true,Bool.or_eq_true,Nat.blt_eq,Option.isSome_none,Bool.false_eq_true,or_false] at hn;have:=hD.len;omega
         .exact hb
        refine⟨fun e=>?_,fun e=>?_⟩
        .rw[if_pos au];have gR:Gds tb' gs:=fun g hg=>⟨bw e g hg,cR g hg⟩;have dL:=h2 (bw e) c (by simp);have fg:=h2 (bw e) (nl=true->xs=[]) (by simp);have ec:NJ C (C.off+o.dst.getD 0) (.fn f [] []) (BP s1.own (args.map (gev gs s1.env))) s1 (fun ts v' s'=>ts=[C.off+o.dst.getD 0]/\v'=.lst (C.off+o.dst.getD 0)/\s'=s1.make (C.off+o.dst.getD 0) (.lst ty k xs nl)):=by
          unfold NJ;rw[heq];dsimp only;have ai:(SV.ret [OB.lst ty k xs nl].length (.lst 0)&&([OB.lst ty k xs nl].all OB.ret&&(Nat.blt 0 C.nt&&([OB.lst ty k xs nl].all OB.isL&&YN (.lst 0)))))=true:=by simp only[SV.ret,List.length_singleton,List.all_cons,List.all_nil,Bool.and_true,OB.ret,hk,Bool.true_and,OB.isL,YN];rw[Bool.and_eq_true];exact⟨rfl,by rw[Nat.blt_eq];exact eo⟩
          rw[ai];simp only[_root_.cond_true,Od,OB.wf];refine⟨dL,fg,?_,?_,?_⟩
          .simp[List.range_succ]
          .simp[SV.ren]
          .simp[St.makes]
         obtain⟨g,a,b',u,σ',ts,v',s',pl',h3,h4,⟨rfl,rfl,rfl⟩,h5,h6,_,h7,h8,h9⟩:=X4 az br ec (show SR P σ Jq ZH (.fn f [] []) (.func (.func f) #[] #[]) by simp only[SR,SRs];exact⟨[],[],rfl,rfl,rfl⟩) (br.gcall gR args);obtain⟨rfl,rfl,rfl⟩:=(by simpa using h3:f=g/\#[]=a/\#[]=b');obtain⟨B',F',m1,m2,m3⟩:=Rc br.bf hk h5 h6 h8;have cO:FrL [C.off+o.dst.getD 0] s ((s1.make (C.off+o.dst.getD 0) .dead).put o.dst (.grd gs (.val (.list k) xs))) pl pl' σ σ':=fun q hq=>by obtain⟨f1,f2,f3⟩:=h9 q hq;rw[aT] at f3;refine⟨?_,f2,f3⟩;rw[QZ,KH _ _ _ (by simpa using hq),aT]
         obtain⟨k1,k2⟩:=hD.call h7 cO aW;refine⟨u,σ',?_,eT (m1.b.trans m2.leB) k1,Qk az bh r cr (hB.trans m1) (m2.put o.dst ?_) k2.frozen (fun c hc=>(hp c hc).imp (fun h τ hτ=>h τ (m1.b.trans hτ)) id) (frz m2.leB) (by omega) (by omega) h1 hK⟩
         .rw[bL];show VCalled P f (args.map (Q4 env)) σ _;simpa using h4
         .simp only[SR];exact⟨⟨cR,trivial⟩,fun _=>m3,fun ⟨g,hg,aC⟩=>absurd (bw e g hg) aC⟩
        .rw[if_pos au];obtain⟨g,dO,aC⟩:=cn e;have cO:FrL [C.off+o.dst.getD 0] s ((s1.make (C.off+o.dst.getD 0) .dead).put o.dst (.grd gs (.val (.list k) xs))) pl (Je pl (C.off+o.dst.getD 0) undef) σ σ:=fun q hq=>by
          have dA:q≠C.off+o.dst.getD 0:=by simpa using hq
          refine⟨?_,by simp[Je,dA],fun _ _ _=>rfl⟩;rw[QZ,KH _ _ _ dA,aT]
         obtain⟨k1,k2⟩:=hD.call (.refl σ) cO aW;refine⟨eT hG.leB k1,Qk az bh r cr hB ((br.make (C.off+o.dst.getD 0) .dead undef br.le (fun _ _ _ _ _=>rfl) trivial (fun i hl _=>by cases hl)).put o.dst ?_) k2.frozen hp (frz hG.leB) (by omega) (by omega) h1 hK⟩;simp only[SR];exact⟨⟨cR,trivial⟩,fun hall=>absurd (hall g dO) aC,fun _=>trivial⟩
       .exact h.elim
   .rename_i f args bL;split at h
    .rename_i hg;rw[hg];refine⟨fun _=>?_,fun e=>by cases e⟩;rw[if_pos au];obtain⟨g,a,b,u,σ',e,v,s',pl',h1,h2,h3,h4,h5,h6,h7,h8,h9⟩:=X4 az hG h (hG.gfun Gds.nil f) (hG.gcall Gds.nil args);refine fin (u:=u) (σ':=σ') (fun R' hr=>?_) h3 h4 h5 h6 h7 h8 h9;rw[bL];exact UG h1 (h2.mono (R':=R') fun u' aN ⟨e1,e2⟩=>by subst e1;subst e2;exact hr)
    .exact h.elim
   .exact h.elim
   .exact h.elim
   .rename_i oi nj qX n7;split at h
    .rename_i hg;rw[hg];refine⟨fun _=>?_,fun e=>by cases e⟩;rw[if_pos au];have aD:AZ o.op=false:=by
      cases ho:o.op<;>first|rfl|(exact absurd ho (oi _ _))|(exact absurd ho (nj _ _))|skip
      case ext x=>cases x<;>first|rfl|(exact absurd ho (qX _))|(exact absurd ho (n7 _))
     cases kK:Si C (o.dst.getD 0) o.op (gev [] s.env) with
     |true =>
      rw[kK] at h;simp only[_root_.cond_true] at h;cases hm:FR (Hy o.op) Rd hl (LD (C.off+o.dst.getD 0) o.op (gev [] s.env)) with
      |false=>rw[hm] at h;exact h.elim
      |true =>
       rw[hm] at h;simp only[_root_.cond_true] at h;obtain⟨u,σ',pl',v,s',h1,h2,⟨h3,ic⟩,h4⟩:=HL (fun x=>hG.evs (Gds.nil (tb:=tb)) x) hG h;have gv:∀ R',R' u σ'->vop (Q2 P) o.op env σ R':=fun R' hr=>by
        have:vop (Q2 P) o.op env σ R'=QU (Q6 o.op (Q4 env) σ) fun p=>R' p.1 p.2:=by
         cases ho:o.op with
         |callF f a=>rw[ho] at aD;cases aD
         |callV f a=>rw[ho] at aD;cases aD
         |ext x =>
          cases x with
          |nextMap y=>rw[ho] at h1;cases h1
          |_=>rfl
         |_=>rfl
        rw[this,h1];exact hr
       obtain⟨k1,k2⟩:=hD.writeD ic (fun ez=>RM ez h1) hm aW;exact⟨u,σ',gv _ ⟨rfl,rfl⟩,eT h3.leB k1,Qk az bh r cr (Nq hB (YE h1)) (h3.put o.dst h4) (by rw[QZ];exact k2) hp (snoc h3.leB fun _ h=>Bp h) (by omega) (by omega) h2 hK⟩
     |false =>
     rw[kK] at h;simp only[_root_.cond_false] at h;cases hm:((Hy o.op&&SD Rd hl (QC (C.off+o.dst.getD 0) o.op (gev [] s.env)))||Tc Rd hl (QC (C.off+o.dst.getD 0) o.op (gev [] s.env))||(Tm o.op&&Q8a Rd hl (QC (C.off+o.dst.getD 0) o.op (gev [] s.env)))) with
     |false=>rw[hm] at h;exact h.elim
     |true =>
      rw[hm] at h;simp only[_root_.cond_true] at h;obtain⟨u,σ',pl',v,s',h1,h2,⟨h3,ic⟩,h4,hE⟩:=Oe hG h aD;have gv:∀ R',R' u σ'->vop (Q2 P) o.op env σ R':=fun R' hr=>by
       have:vop (Q2 P) o.op env σ R'=QU (Q6 o.op (Q4 env) σ) fun p=>R' p.1 p.2:=by
        cases ho:o.op with
        |callF f a=>rw[ho] at aD;cases aD
        |callV f a=>rw[ho] at aD;cases aD
        |ext x =>
         cases x with
         |nextMap y=>rw[ho] at h1;cases h1
         |_=>rfl
        |_=>rfl
       rw[this,h1];exact hr
      obtain⟨k1,k2⟩:=hD.write ic (fun ez=>RM ez h1) hE hm aW;exact⟨u,σ',gv _ ⟨rfl,rfl⟩,eT h3.leB k1,Qk az bh r cr (Nq hB (YE h1)) (h3.put o.dst h4) (by rw[QZ];exact k2) hp (snoc h3.leB fun _ h=>BU h) (by omega) (by omega) h2 hK⟩
    .exact h.elim
  .rw[if_neg au] at h;have l4:o.op.kind≠2:=by rw[<-bS];exact au
   by_cases aL:o.kind=1
   .rw[if_pos aL] at h
    have rd:∀ (rq:Option Nat),(∀ q,rq=some q->U7 o.op (gev [] s.env) s.own=some q)->(Nat.ble chg o.kmin||P0 A o.kmin rq)=true->gd1 C o s (fun s'=>JJ C r s' hl chg A ((o.kmax,rq)::Rd) K) ->
      QU (Zo env o.guard) fun b=>vif b (if o.kind=2 then Gc (fun R=>vop (Q2 P) o.op env σ R) fun v σ'=>Jj hs.length σ' pend/\Zy (Q2 P) r (Jv env o.dst v) (hs++[σ']) σ' pend R
       else if o.kind=1 then QU (Q6 o.op (Q4 env) σ) fun p=>(∀ τ∈hs.drop o.kmin,Jh o.op (Q4 env) p.1 τ) /\
        Zy (Q2 P) r (Jv env o.dst p.1) hs σ (if hs.length<=o.kmax then (o.kmax,Jh o.op (Q4 env) p.1)::pend else pend) R
       else QU (Q6 o.op (Q4 env) σ) fun p=>Zy (Q2 P) r (Jv env o.dst p.1) hs σ pend R)
      (if o.kind=2 then Jj hs.length σ pend/\Zy (Q2 P) r (Jv env o.dst undef) (hs++[σ]) σ pend R else Zy (Q2 P) r (Jv env o.dst undef) hs σ pend R):=fun rq om hc h=>by
     obtain⟨b,hw,h1,h2⟩:=Ko hG h;rw[hw];have l5:DSt hs σ pd hl chg A ((o.kmax,rq)::Rd) s.own pl:=⟨hD.len,hD.same,fun c hc=>(hD.pend c hc).imp id fun ⟨r,k1,k2⟩=>⟨r,List.mem_cons_of_mem _ k1,k2⟩,hD.fr⟩;refine⟨fun e=>?_,fun e=>?_⟩
     .obtain⟨u,s',tb',h3,h4,aT,h5⟩:=h1 e;rw[if_neg au,if_pos aL,h3];refine⟨fun τ hτ=>?_,?_⟩
      .obtain⟨j,hj⟩:=List.mem_iff_getElem?.1 hτ;rw[List.getElem?_drop] at hj;rw[Bool.or_eq_true] at hc;rcases hc with hc|hc
       .have:=hD.same (o.kmin+j) τ (by have:=Nat.le_of_ble_eq_true hc;omega) hj;subst this;exact Zh h3
       .unfold P0 at hc;split at hc
        .rename_i q;obtain⟨k1,i,bl,k2,k3,k4,k5⟩:=WY hG (om q rfl) h3;have hu:Z1 A (o.kmin+j) (q / 2)=true:=by
          simp only[Z1,List.all_eq_true,Bool.or_eq_true,Nat.blt_eq] at hc |-;exact fun a ha=>(hc a ha).imp (fun h=>by omega) id
         have:=hD.fr (o.kmin+j) τ (q / 2) i hj hu k1 k2;exact Zh (k4 τ (by rw[this];exact k3))
        .cases hc
      .by_cases hle:hs.length<=o.kmax
       .rw[if_pos hle];refine Qk az bh r cr hB h5 (A:=A) (Rd:=(o.kmax,rq)::Rd) (hl:=hl) (chg:=chg) (pd:=(o.kmax,Jh o.op (Q4 env) u)::pd) ?_ (fun c hc=>?_) b9 eM aW h4 hK
        .rw[aT];refine⟨hD.len,hD.same,fun c hc=>?_,hD.fr⟩;rcases List.mem_cons.1 hc with rfl|hc
         .refine .inr ⟨_,List.mem_cons_self,Nat.le_refl _,?_⟩;cases rq with
          |none=>exact fun τ hτ=>Zh (Hi l4 h3 hτ)
          |some q =>obtain⟨k1,i,bl,k2,k3,k4,k5⟩:=WY hG (om q rfl) h3;exact⟨k1,i,bl,k2,k3,fun τ ht=>Zh (k4 τ ht),fun ho=>(let ⟨es,c,wr,x1,x2⟩:=k5 ho;⟨es,c,wr,x1,fun τ bX c' hl ht=>Zh (x2 τ bX c' hl ht)⟩)⟩
         .exact l5.pend c hc
        .rcases List.mem_cons.1 hc with rfl|hc
         .exact .inr List.mem_cons_self
         .exact(hp c hc).imp id fun h=>List.mem_cons_of_mem _ h
       .rw[if_neg hle];exact Qk az bh r cr hB h5 (A:=A) (Rd:=(o.kmax,rq)::Rd) (hl:=hl) (chg:=chg) (pd:=pd) (by rw[aT];exact l5) hp b9 eM aW h4 hK
     .obtain⟨s',tb',h4,aT,h5⟩:=h2 e;rw[if_neg au];exact Qk az bh r cr hB h5 (by rw[aT];exact l5) hp b9 eM aW h4 hK
    have ro:Ms A o.kmin=true->(∀ u,Q6 o.op (Q4 env) σ=some (u,σ)->(Zo env o.guard=some true)->∀ τ,B.Le τ->Q6 o.op (Q4 env) τ=some (u,τ))->gd1 C o s (fun s'=>JJ C r s' hl chg A Rd K) ->
      QU (Zo env o.guard) fun b=>vif b (if o.kind=2 then Gc (fun R=>vop (Q2 P) o.op env σ R) fun v σ'=>Jj hs.length σ' pend/\Zy (Q2 P) r (Jv env o.dst v) (hs++[σ']) σ' pend R
       else if o.kind=1 then QU (Q6 o.op (Q4 env) σ) fun p=>(∀ τ∈hs.drop o.kmin,Jh o.op (Q4 env) p.1 τ) /\
        Zy (Q2 P) r (Jv env o.dst p.1) hs σ (if hs.length<=o.kmax then (o.kmax,Jh o.op (Q4 env) p.1)::pend else pend) R
       else QU (Q6 o.op (Q4 env) σ) fun p=>Zy (Q2 P) r (Jv env o.dst p.1) hs σ pend R)
      (if o.kind=2 then Jj hs.length σ pend/\Zy (Q2 P) r (Jv env o.dst undef) (hs++[σ]) σ pend R else Zy (Q2 P) r (Jv env o.dst undef) hs σ pend R):=fun jT bP h=>by
     obtain⟨b,hw,h1,h2⟩:=Ko hG h;rw[hw];refine⟨fun e=>?_,fun e=>?_⟩
     .obtain⟨u,s',tb',h3,h4,aT,h5⟩:=h1 e;have bP:=bP u h3 (by rw[hw,e]);rw[if_neg au,if_pos aL,h3];refine⟨fun τ hτ=>?_,?_⟩
      .obtain⟨j,hj⟩:=List.mem_iff_getElem?.1 hτ;rw[List.getElem?_drop] at hj;refine Zh (bP τ (b9 _ τ hj ?_));simp only[Ms,List.all_eq_true,Bool.or_eq_true,Nat.blt_eq] at jT |-;exact fun a ha=>(jT a ha).imp (fun h=>by omega) id
      refine Qk az bh r cr hB h5 (A:=A) (Rd:=Rd) (hl:=hl) (chg:=chg) (pd:=pd) (by rw[aT];exact hD) (fun c hc=>?_) b9 eM aW h4 hK;split at hc
      .rcases List.mem_cons.1 hc with rfl|hc
       .exact .inl fun τ hτ=>Zh (bP τ hτ)
       .exact hp c hc
      .exact hp c hc
     .obtain⟨s',tb',h4,aT,h5⟩:=h2 e;rw[if_neg au];exact Qk az bh r cr hB h5 (by rw[aT];exact hD) hp b9 eM aW h4 hK
    split at h
    .rename_i hg;cases hr:(Q83 o.op (gev [] s.env)&&Ms A o.kmin) with
     |true =>rw[hr] at h;rw[Bool.and_eq_true] at hr;exact ro hr.2 (fun u hu _=>UN hG Gds.nil hr.1 hu) h
     |false =>
     rw[hr] at h;simp only[_root_.cond_false] at h;cases hb:(Nat.ble chg o.kmin||P0 A o.kmin (U7 o.op (gev [] s.env) s.own)) with
     |false=>rw[hb] at h;exact h.elim
     |true =>rw[hb] at h;exact rd _ (fun q hq=>hq) hb h
    .rename_i j want hg;cases hr:(Q02 s j want o.op&&Ms A o.kmin) with
     |true =>
      rw[hr] at h;rw[Bool.and_eq_true] at hr;obtain⟨hr,jT⟩:=hr;refine ro jT (fun u hu hw=>?_) h;unfold Q02 at hr;split at hr
      .rename_i gs s1 ec;obtain⟨tb',br,cR,b,dg,bw,cn⟩:=X3 hG ec;rw[hg,dg] at hw;have e:=osj hw;exact UN br (fun g hg=>⟨bw e g hg,cR g hg⟩) hr hu
      .cases hr
     |false =>
     rw[hr] at h;simp only[_root_.cond_false] at h;cases hb:Nat.ble chg o.kmin with
     |false=>rw[hb] at h;exact h.elim
     |true =>rw[hb] at h;exact rd none (fun q hq=>by cases hq) (by rw[hb];rfl) h
   .rw[if_neg aL] at h;obtain⟨b,hw,h1,h2⟩:=Ko hG h;rw[hw];refine⟨fun e=>?_,fun e=>?_⟩
    .obtain⟨u,s',tb',h3,h4,aT,h5⟩:=h1 e;rw[if_neg au,if_neg aL,h3];exact Qk az bh r cr hB h5 (by rw[aT];exact hD) hp b9 eM aW h4 hK
    .obtain⟨s',tb',h4,aT,h5⟩:=h2 e;rw[if_neg au];exact Qk az bh r cr hB h5 (by rw[aT];exact hD) hp b9 eM aW h4 hK
theorem Qm {C:Cx}(az:COk P C) {B0 F0 D0:Heap}:∀ (ops:List DOper),(∀ o∈ops,o.kind=o.op.kind)->∀ {s:St}{env:Env}{σ:Heap}{B F:Heap}{pl:Nat->Value}{tb:Nat->Option Bool},GBase B0 F0 D0 B F σ->Gam P B F pl tb s env σ->∀ {hl chg:Nat}{A Rd:List (Nat×Option Nat)}{hs:List Heap}{pend pd:List (Nat×(Heap->Prop))},DSt hs σ pd hl chg A Rd s.own pl->(∀ c∈pend,(∀ τ,B.Le τ->c.2 τ)\/c∈pd)->(∀ j τ,hs[j]?=some τ->Ms A j=true->B.Le τ)->chg<=hl->0<hl ->
  ∀ {K:St->Prop},JJ C ops s hl chg A Rd K->∀ {R:Env->Heap->Prop},(∀ s' af σ',K s'->GRel P B0 F0 D0 s' af σ'->R af σ')->Z8 (Q2 P) ops env hs σ pend R
 |[],_,s,env,σ,B,F,pl,tb,hB,hG,_,_,_,_,_,_,_,_,_,_,_,_,K,h,R,hK=>hK s env σ h ⟨B,F,pl,tb,hB,hG⟩
 |o0::r,fJ,s,env,σ,B,F,pl,tb,hB,hG,hl,chg,A,Rd,hs,pend,pd,hD,hp,b9,eM,aW,K,h,R,hK=>by
  have eT:∀ {n:Nat}{τ:Heap},B.Le τ->Jj n τ pd->Jj n τ pend:=fun {n τ} hb hv=>W_ fun c hc hn=>(hp c hc).elim (fun h=>h τ hb) fun h=>UL hv h hn;have snoc:∀ {τ:Heap}{A':List (Nat×Option Nat)},B.Le τ->(∀ j,Ms A' j=true->Ms A j=true)->∀ j τ',(hs++[τ])[j]?=some τ'->Ms A' j=true->B.Le τ':=fun {τ A'} hb hA j τ' hm hn=>by
   rcases ZU hm with⟨_,h1⟩|⟨_,rfl⟩
   .exact b9 j τ' h1 (hA j hn)
   .exact hb
  have cr:∀ o∈r,o.kind=o.op.kind:=fun o' dQ=>fJ o' (List.mem_cons_of_mem _ dQ);have lY:=fJ o0 List.mem_cons_self;unfold JJ at h;split at h
  .rename_i bJ;have hw:=Yk hG bJ;simp only[Z8];rw[hw];refine⟨fun e=>(by cases e),fun _=>?_⟩;have cw:=hG.put o0.dst (show SR P B pl tb .any undef by simp[SR]);by_cases au:o0.kind=2
   .rw[if_pos au] at h |-;obtain⟨k1,k2⟩:=hD.stay;exact⟨eT hG.leB k1,Qm az r cr hB cw (by rw[QZ];exact k2) hp (snoc hG.leB fun _ h=>h) (by omega) (by omega) h hK⟩
   .rw[if_neg au] at h |-;exact Qm az r cr hB cw (by rw[QZ];exact hD) hp b9 eM aW h hK
  have bS:(I8 s.env o0).kind=(I8 s.env o0).op.kind:=by unfold I8;split<;>exact lY
  have eB:Z8 (Q2 P) (I8 s.env o0::r) env hs σ pend R->Z8 (Q2 P) (o0::r) env hs σ pend R:=fun hv=>by
   unfold I8 at hv;split at hv
   .rename_i bJ;simp only[Z8] at hv |-;rw[Yk hG bJ];exact hv
   .exact hv
  refine eB ?_;clear eB;generalize I8 s.env o0=o at h bS |-
  replace h:=id h
  simp only[Z8];by_cases au:o.kind=2
  .rw[if_pos au] at h
   have fin:∀ {u:Value}{σ':Heap}{ts:List Nat}{v:SV}{s':St}{pl':Nat->Value},(∀ R',R' u σ'->vop (Q2 P) o.op env σ R')->JJ C r (s'.put o.dst v) (hl+1) (bif ts.isEmpty then chg else hl) (ts.map (fun t=>(hl-1,some t))++A) (bif ts.isEmpty then Rd else Rd.map fun r=>(r.1,none)) K->Gam P B F pl' tb s' env σ'->SR P B pl' tb v u->(ts=[]->σ'=σ/\pl'=pl/\s'=s)->σ.Le σ'->Dead σ σ'->FrL ts s s' pl pl' σ σ' ->
     Gc (fun R=>vop (Q2 P) o.op env σ R) fun v σ'=>Jj hs.length σ' pend/\Z8 (Q2 P) r (Jv env o.dst v) (hs++[σ']) σ' pend R:=fun {u σ' ts v s' pl'} bL oh br jm he hle hd cO=>by
    cases ts with
    |nil =>obtain⟨rfl,rfl,rfl⟩:=he rfl;obtain⟨k1,k2⟩:=hD.stay;exact⟨u,σ',bL _ ⟨rfl,rfl⟩,eT br.leB k1,Qm az r cr (Nq hB hd) (br.put o.dst jm) (by rw[QZ];exact k2) hp (snoc br.leB fun _ h=>h) (by simp only[List.isEmpty,_root_.cond_true] at *;omega) (by omega) oh hK⟩
    |cons t ts =>obtain⟨k1,k2⟩:=hD.call hle cO aW;exact⟨u,σ',bL _ ⟨rfl,rfl⟩,eT br.leB k1,Qm az r cr (Nq hB hd) (br.put o.dst jm) (by rw[QZ];exact k2) hp (snoc br.leB fun _ h=>Bp h) (by simp only[List.isEmpty,_root_.cond_false] at *;omega) (by omega) oh hK⟩
   split at h
   .rename_i f args bL;split at h
    .rename_i hg;rw[hg];refine⟨fun _=>?_,fun e=>by cases e⟩;rw[if_pos au]
     have oo:∀ {K':List Nat->SV->St->Prop},NJ C (C.off+o.dst.getD 0) (.fn f [] []) (BP s.own (args.map (gev [] s.env))) s K'->(∀ ts v s',K' ts v s'->JJ C r (s'.put o.dst v) (hl+1) (bif ts.isEmpty then chg else hl) (ts.map (fun t=>(hl-1,some t))++A) (bif ts.isEmpty then Rd else Rd.map fun r=>(r.1,none)) K) ->
       Gc (fun R=>vop (Q2 P) o.op env σ R) fun v σ'=>Jj hs.length σ' pend/\Z8 (Q2 P) r (Jv env o.dst v) (hs++[σ']) σ' pend R:=fun {K'} h qY=>by
      obtain⟨g,a,b,u,σ',e,v,s',pl',h1,h2,h3,h4,h5,h6,h7,h8,h9⟩:=X4 az hG h (show SR P σ Jq ZH (.fn f [] []) (.func (.func f) #[] #[]) by simp only[SR,SRs];exact⟨[],[],rfl,rfl,rfl⟩) (hG.gcall Gds.nil args);obtain⟨rfl,rfl,rfl⟩:=(by simpa using h1:f=g/\#[]=a/\#[]=b);refine fin (u:=u) (σ':=σ') (fun R' hr=>?_) (qY _ _ _ h3) h4 h5 h6 h7 h8 h9;rw[bL];show VCalled P f (args.map (Q4 env)) σ R';have:=h2.mono (R':=R') fun u' aN ⟨e1,e2⟩=>by subst e1;subst e2;exact hr
      simpa using this
     split at h
     .rename_i x hx;split at h
      .rename_i jf vI;split at h
       .rename_i tt qZ;cases gX:(waits o.dst.toList r&&FR false Rd hl [tt]) with
        |false=>rw[gX] at h;exact h.elim
        |true =>rw[gX] at h;simp only[_root_.cond_true] at h;rw[Bool.and_eq_true] at gX;refine .inr ⟨gX.1,?_⟩;rw[bL];show VCalled P f (args.map (Q4 env)) σ _;refine az.xf f jf vI x hx B F pl tb s env σ _ _ _ _ _ tt hG (SRs.map fun x _=>hG.evs Gds.nil x) qZ h fun v s' u σ' k1 k2 k3 k4 k5=>?_;obtain⟨q1,q2⟩:=hD.writeD k5 (mk:=false) (fun h=>by cases h) gX.2 aW;exact⟨eT k3.leB q1,Qm az r cr (Nq hB k2) (k3.put o.dst k4) (by rw[QZ];exact q2) hp (snoc k3.leB fun _ h=>BU h) (by omega) (by omega) k1 hK⟩
       .exact h.elim
      .cases gX:(waits o.dst.toList r&&Rd.all (fun q=>Nat.blt q.1 hl)) with
       |false=>rw[gX] at h;simp only[_root_.cond_false] at h;exact .inl (oo h fun _ _ _ h=>h)
       |true =>
        rw[gX] at h;simp only[_root_.cond_true] at h;rw[Bool.and_eq_true] at gX;refine .inr ⟨gX.1,?_⟩;rw[bL];show VCalled P f (args.map (Q4 env)) σ _;have aB:∀ args:List Operand,SRs P B pl tb (args.map (gev [] s.env)) (args.map (Q4 env)):=fun args=>SRs.map fun x _=>hG.evs Gds.nil x;refine az.xs f x hx B F pl tb s env σ _ _ _ _ _ hG (aB args) h fun v s' B' F' pl' tb' u σ' k1 k2 k3 k4=>?_;have hall:∀ c∈pd,c.1<hl:=fun c hc=>by
         rcases hD.pend c hc with h1|⟨q,h1,h2,_⟩
         .exact h1
         .have:=List.all_eq_true.1 gX.2 q h1;rw[Nat.blt_eq] at this;omega
        have ky:Jj hs.length σ' pd:=W_ fun c hc hle=>by have:=hall c hc;have:=hD.len;omega
        have q8:Jj hs.length σ' pend:=W_ fun c hc hn=>(hp c hc).elim (fun h=>h σ' (k2.b.trans k3.leB)) fun h=>UL ky h hn;refine⟨q8,Qm az r cr (hB.trans k2) (k3.put o.dst k4) (pd:=pd) ⟨by simp[hD.len],fun j τ hj ht=>?_,fun c hc=>.inl (by have:=hall c hc;omega),fun j τ q i ht hu cA hi=>?_⟩ (fun c hc=>(hp c hc).imp (fun h τ hτ=>h τ (k2.b.trans hτ)) id) (fun j τ ht hn=>?_) (by omega) (by omega) k1 hK⟩
        .rcases ZU ht with⟨h1,_⟩|⟨_,h1⟩
         .rw[hD.len] at h1;omega
         .exact h1
        .rcases ZU ht with⟨h1,_⟩|⟨_,h1⟩
         .exfalso;rw[hD.len] at h1;simp only[Z1,List.all_cons,Bool.and_eq_true,Bool.or_eq_true,Nat.blt_eq,Bool.false_eq_true,or_false] at hu;omega
         .rw[h1]
        .rcases ZU ht with⟨h1,_⟩|⟨_,h1⟩
         .exfalso;rw[hD.len] at h1;simp only[Ms,List.all_cons,Bool.and_eq_true,Bool.or_eq_true,Nat.blt_eq,Option.isSome_none,Bool.false_eq_true,or_false] at hn;omega
         .rw[h1];exact k3.leB
     .exact .inl (oo h fun _ _ _ h=>h)
    .rename_i j want hg;rw[hg];split at h
     .exact h.elim
     .rename_i gs s1 ec;obtain⟨tb',br,cR,b,hw,bw,cn⟩:=X3 hG ec;have aT:=Ya ec;rw[hw];split at h
      .rename_i cs v dJ;cases cH:YN v with
       |false=>rw[cH] at h;exact h.elim
       |true =>
       rw[cH] at h;simp only[_root_.cond_true] at h;obtain⟨h1,h2⟩:=Z6 h;obtain⟨k1,k2⟩:=hD.stay;have lT:∀ x,DSt (hs++[σ]) σ pd (hl+1) chg A Rd (s1.put o.dst x).own pl:=fun x=>by rw[QZ,aT];exact k2
       refine⟨fun e=>?_,fun e=>?_⟩
       .rw[if_pos au];have gR:Gds tb' gs:=fun g hg=>⟨bw e g hg,cR g hg⟩;have lZ:∀ {v u},SR P B pl tb' v u->SR P B pl tb' (.grd gs (Gl v)) u:=fun {v u} hs=>by
         simp only[SR];obtain⟨h1,h2⟩:=Bl hs;exact⟨⟨cR,h2⟩,fun _=>h1,fun ⟨g,hg,aC⟩=>absurd (bw e g hg) aC⟩
        simp only[gqc] at dJ;split at dJ
        .rename_i c v' heq;cases dU:v'.ret 0 with
         |false=>rw[dU] at dJ;cases dJ
         |true =>
          rw[dU] at dJ;obtain⟨rfl,rfl⟩:=QD dJ;obtain⟨g,a,b',h3,h4,_⟩:=Zg az.cs (show SR P σ Jq ZH (.fn f [] []) (.func (.func f) #[] #[]) by simp only[SR,SRs];exact⟨[],[],rfl,rfl,rfl⟩) (br.gcall gR args) heq dU rfl (h2 (bw e) _ (by simp));obtain⟨rfl,rfl,rfl⟩:=(by simpa using h3:f=g/\#[]=a/\#[]=b');refine .inl ⟨Kj Jq v',σ,?_,eT hG.leB k1,Qm az r cr hB (br.put o.dst (lZ ?_)) (lT _) hp (snoc hG.leB fun _ h=>h) (by omega) (by omega) (Z3 h1) hK⟩
          .rw[bL];show VCalled P f (args.map (Q4 env)) σ _;have:=h4.mono (R':=fun u σ'=>u=Kj Jq v'/\σ'=σ) fun u σ' hr=>by
            obtain⟨rfl,hu⟩:=hr.flat dU;exact⟨KU v' u dU cH hu,rfl⟩
           simpa using this
          .exact SR.retd (fun j hj=>by omega) _ _ dU (Ru (P:=P) (pl:=Jq) (m:=0) (fun j hj=>by omega) v' dU cH)
        .cases dJ
       .rw[if_pos au];obtain⟨g,dO,aC⟩:=cn e;exact⟨eT hG.leB k1,Qm az r cr hB (br.put o.dst (by simp only[SR];exact⟨⟨cR,Bn v⟩,fun hall=>absurd (hall g dO) aC,fun _=>trivial⟩)) (lT _) hp (snoc hG.leB fun _ h=>h) (by omega) (by omega) (Z3 h1) hK⟩
      .split at h
       .rename_i cs v jl;obtain⟨c,ty,k,xs,nl,heq,rfl,rfl,hk,eo⟩:=Tf jl;obtain⟨h1,h2⟩:=Z6 h;have frz:∀ {B' σ':Heap},B'.Le σ'->∀ j τ',(hs++[σ'])[j]?=some τ'->Ms ((hl-1,none)::A) j=true->B'.Le τ':=fun {B' σ'} hb j τ' hm hn=>by
         rcases ZU hm with⟨h1,_⟩|⟨_,rfl⟩
         .simp only[Ms,List.all_cons,Bool.and_eq_true,Bool.or_eq_true,Nat.blt_eq,Option.isSome_none,Bool.false_eq_true,or_false] at hn;have:=hD.len;omega
         .exact hb
        refine⟨fun e=>?_,fun e=>?_⟩
        .rw[if_pos au];have gR:Gds tb' gs:=fun g hg=>⟨bw e g hg,cR g hg⟩;have dL:=h2 (bw e) c (by simp);have fg:=h2 (bw e) (nl=true->xs=[]) (by simp);have ec:NJ C (C.off+o.dst.getD 0) (.fn f [] []) (BP s1.own (args.map (gev gs s1.env))) s1 (fun ts v' s'=>ts=[C.off+o.dst.getD 0]/\v'=.lst (C.off+o.dst.getD 0)/\s'=s1.make (C.off+o.dst.getD 0) (.lst ty k xs nl)):=by
          unfold NJ;rw[heq];dsimp only;have ai:(SV.ret [OB.lst ty k xs nl].length (.lst 0)&&([OB.lst ty k xs nl].all OB.ret&&(Nat.blt 0 C.nt&&([OB.lst ty k xs nl].all OB.isL&&YN (.lst 0)))))=true:=by simp only[SV.ret,List.length_singleton,List.all_cons,List.all_nil,Bool.and_true,OB.ret,hk,Bool.true_and,OB.isL,YN];rw[Bool.and_eq_true];exact⟨rfl,by rw[Nat.blt_eq];exact eo⟩
          rw[ai];simp only[_root_.cond_true,Od,OB.wf];refine⟨dL,fg,?_,?_,?_⟩
          .simp[List.range_succ]
          .simp[SV.ren]
          .simp[St.makes]
         obtain⟨g,a,b',u,σ',ts,v',s',pl',h3,h4,⟨rfl,rfl,rfl⟩,h5,h6,_,h7,h8,h9⟩:=X4 az br ec (show SR P σ Jq ZH (.fn f [] []) (.func (.func f) #[] #[]) by simp only[SR,SRs];exact⟨[],[],rfl,rfl,rfl⟩) (br.gcall gR args);obtain⟨rfl,rfl,rfl⟩:=(by simpa using h3:f=g/\#[]=a/\#[]=b');obtain⟨B',F',m1,m2,m3⟩:=Rc br.bf hk h5 h6 h8;have cO:FrL [C.off+o.dst.getD 0] s ((s1.make (C.off+o.dst.getD 0) .dead).put o.dst (.grd gs (.val (.list k) xs))) pl pl' σ σ':=fun q hq=>by obtain⟨f1,f2,f3⟩:=h9 q hq;rw[aT] at f3;refine⟨?_,f2,f3⟩;rw[QZ,KH _ _ _ (by simpa using hq),aT]
         obtain⟨k1,k2⟩:=hD.call h7 cO aW;refine .inl ⟨u,σ',?_,eT (m1.b.trans m2.leB) k1,Qm az r cr (hB.trans m1) (m2.put o.dst ?_) k2.frozen (fun c hc=>(hp c hc).imp (fun h τ hτ=>h τ (m1.b.trans hτ)) id) (frz m2.leB) (by omega) (by omega) h1 hK⟩
         .rw[bL];show VCalled P f (args.map (Q4 env)) σ _;simpa using h4
         .simp only[SR];exact⟨⟨cR,trivial⟩,fun _=>m3,fun ⟨g,hg,aC⟩=>absurd (bw e g hg) aC⟩
        .rw[if_pos au];obtain⟨g,dO,aC⟩:=cn e;have cO:FrL [C.off+o.dst.getD 0] s ((s1.make (C.off+o.dst.getD 0) .dead).put o.dst (.grd gs (.val (.list k) xs))) pl (Je pl (C.off+o.dst.getD 0) undef) σ σ:=fun q hq=>by
          have dA:q≠C.off+o.dst.getD 0:=by simpa using hq
          refine⟨?_,by simp[Je,dA],fun _ _ _=>rfl⟩;rw[QZ,KH _ _ _ dA,aT]
         obtain⟨k1,k2⟩:=hD.call (.refl σ) cO aW;refine⟨eT hG.leB k1,Qm az r cr hB ((br.make (C.off+o.dst.getD 0) .dead undef br.le (fun _ _ _ _ _=>rfl) trivial (fun i hl _=>by cases hl)).put o.dst ?_) k2.frozen hp (frz hG.leB) (by omega) (by omega) h1 hK⟩;simp only[SR];exact⟨⟨cR,trivial⟩,fun hall=>absurd (hall g dO) aC,fun _=>trivial⟩
       .exact h.elim
   .rename_i f args bL;split at h
    .rename_i hg;rw[hg];refine⟨fun _=>?_,fun e=>by cases e⟩;rw[if_pos au];refine .inl ?_;obtain⟨g,a,b,u,σ',e,v,s',pl',h1,h2,h3,h4,h5,h6,h7,h8,h9⟩:=X4 az hG h (hG.gfun Gds.nil f) (hG.gcall Gds.nil args);refine fin (u:=u) (σ':=σ') (fun R' hr=>?_) h3 h4 h5 h6 h7 h8 h9;rw[bL];exact UG h1 (h2.mono (R':=R') fun u' aN ⟨e1,e2⟩=>by subst e1;subst e2;exact hr)
    .exact h.elim
   .exact h.elim
   .exact h.elim
   .rename_i oi nj qX n7;split at h
    .rename_i hg;rw[hg];refine⟨fun _=>?_,fun e=>by cases e⟩;rw[if_pos au];have aD:AZ o.op=false:=by
      cases ho:o.op<;>first|rfl|(exact absurd ho (oi _ _))|(exact absurd ho (nj _ _))|skip
      case ext x=>cases x<;>first|rfl|(exact absurd ho (qX _))|(exact absurd ho (n7 _))
     cases kK:Si C (o.dst.getD 0) o.op (gev [] s.env) with
     |true =>
      rw[kK] at h;simp only[_root_.cond_true] at h;cases hm:FR (Hy o.op) Rd hl (LD (C.off+o.dst.getD 0) o.op (gev [] s.env)) with
      |false=>rw[hm] at h;exact h.elim
      |true =>
       rw[hm] at h;simp only[_root_.cond_true] at h;obtain⟨u,σ',pl',v,s',h1,h2,⟨h3,ic⟩,h4⟩:=HL (fun x=>hG.evs (Gds.nil (tb:=tb)) x) hG h;have gv:∀ R',R' u σ'->vop (Q2 P) o.op env σ R':=fun R' hr=>by
        have:vop (Q2 P) o.op env σ R'=QU (Q6 o.op (Q4 env) σ) fun p=>R' p.1 p.2:=by
         cases ho:o.op with
         |callF f a=>rw[ho] at aD;cases aD
         |callV f a=>rw[ho] at aD;cases aD
         |ext x =>
          cases x with
          |nextMap y=>rw[ho] at h1;cases h1
          |_=>rfl
         |_=>rfl
        rw[this,h1];exact hr
       obtain⟨k1,k2⟩:=hD.writeD ic (fun ez=>RM ez h1) hm aW;exact .inl ⟨u,σ',gv _ ⟨rfl,rfl⟩,eT h3.leB k1,Qm az r cr (Nq hB (YE h1)) (h3.put o.dst h4) (by rw[QZ];exact k2) hp (snoc h3.leB fun _ h=>Bp h) (by omega) (by omega) h2 hK⟩
     |false =>
     rw[kK] at h;simp only[_root_.cond_false] at h;cases hm:((Hy o.op&&SD Rd hl (QC (C.off+o.dst.getD 0) o.op (gev [] s.env)))||Tc Rd hl (QC (C.off+o.dst.getD 0) o.op (gev [] s.env))||(Tm o.op&&Q8a Rd hl (QC (C.off+o.dst.getD 0) o.op (gev [] s.env)))) with
     |false=>rw[hm] at h;exact h.elim
     |true =>
      rw[hm] at h;simp only[_root_.cond_true] at h;obtain⟨u,σ',pl',v,s',h1,h2,⟨h3,ic⟩,h4,hE⟩:=Oe hG h aD;have gv:∀ R',R' u σ'->vop (Q2 P) o.op env σ R':=fun R' hr=>by
       have:vop (Q2 P) o.op env σ R'=QU (Q6 o.op (Q4 env) σ) fun p=>R' p.1 p.2:=by
        cases ho:o.op with
        |callF f a=>rw[ho] at aD;cases aD
        |callV f a=>rw[ho] at aD;cases aD
        |ext x =>
         cases x with
         |nextMap y=>rw[ho] at h1;cases h1
         |_=>rfl
        |_=>rfl
       rw[this,h1];exact hr
      obtain⟨k1,k2⟩:=hD.write ic (fun ez=>RM ez h1) hE hm aW;exact .inl ⟨u,σ',gv _ ⟨rfl,rfl⟩,eT h3.leB k1,Qm az r cr (Nq hB (YE h1)) (h3.put o.dst h4) (by rw[QZ];exact k2) hp (snoc h3.leB fun _ h=>BU h) (by omega) (by omega) h2 hK⟩
    .exact h.elim
  .rw[if_neg au] at h;have l4:o.op.kind≠2:=by rw[<-bS];exact au
   by_cases aL:o.kind=1
   .rw[if_pos aL] at h
    have rd:∀ (rq:Option Nat),(∀ q,rq=some q->U7 o.op (gev [] s.env) s.own=some q)->(Nat.ble chg o.kmin||P0 A o.kmin rq)=true->gd1 C o s (fun s'=>JJ C r s' hl chg A ((o.kmax,rq)::Rd) K) ->
      QU (Zo env o.guard) fun b=>vif b (if o.kind=2 then (Gc (fun R=>vop (Q2 P) o.op env σ R) fun v σ'=>Jj hs.length σ' pend/\Z8 (Q2 P) r (Jv env o.dst v) (hs++[σ']) σ' pend R)\/(waits o.dst.toList r=true/\vop (Q2 P) o.op env σ fun v σ'=>Jj hs.length σ' pend/\Z8 (Q2 P) r (Jv env o.dst v) (hs++[σ']) σ' pend R)
       else if o.kind=1 then QU (Q6 o.op (Q4 env) σ) fun p=>(∀ τ∈hs.drop o.kmin,Jh o.op (Q4 env) p.1 τ) /\
        Z8 (Q2 P) r (Jv env o.dst p.1) hs σ (if hs.length<=o.kmax then (o.kmax,Jh o.op (Q4 env) p.1)::pend else pend) R
       else QU (Q6 o.op (Q4 env) σ) fun p=>Z8 (Q2 P) r (Jv env o.dst p.1) hs σ pend R)
      (if o.kind=2 then Jj hs.length σ pend/\Z8 (Q2 P) r (Jv env o.dst undef) (hs++[σ]) σ pend R else Z8 (Q2 P) r (Jv env o.dst undef) hs σ pend R):=fun rq om hc h=>by
     obtain⟨b,hw,h1,h2⟩:=Ko hG h;rw[hw];have l5:DSt hs σ pd hl chg A ((o.kmax,rq)::Rd) s.own pl:=⟨hD.len,hD.same,fun c hc=>(hD.pend c hc).imp id fun ⟨r,k1,k2⟩=>⟨r,List.mem_cons_of_mem _ k1,k2⟩,hD.fr⟩;refine⟨fun e=>?_,fun e=>?_⟩
     .obtain⟨u,s',tb',h3,h4,aT,h5⟩:=h1 e;rw[if_neg au,if_pos aL,h3];refine⟨fun τ hτ=>?_,?_⟩
      .obtain⟨j,hj⟩:=List.mem_iff_getElem?.1 hτ;rw[List.getElem?_drop] at hj;rw[Bool.or_eq_true] at hc;rcases hc with hc|hc
       .have:=hD.same (o.kmin+j) τ (by have:=Nat.le_of_ble_eq_true hc;omega) hj;subst this;exact Zh h3
       .unfold P0 at hc;split at hc
        .rename_i q;obtain⟨k1,i,bl,k2,k3,k4,k5⟩:=WY hG (om q rfl) h3;have hu:Z1 A (o.kmin+j) (q / 2)=true:=by
          simp only[Z1,List.all_eq_true,Bool.or_eq_true,Nat.blt_eq] at hc |-;exact fun a ha=>(hc a ha).imp (fun h=>by omega) id
         have:=hD.fr (o.kmin+j) τ (q / 2) i hj hu k1 k2;exact Zh (k4 τ (by rw[this];exact k3))
        .cases hc
      .by_cases hle:hs.length<=o.kmax
       .rw[if_pos hle];refine Qm az r cr hB h5 (A:=A) (Rd:=(o.kmax,rq)::Rd) (hl:=hl) (chg:=chg) (pd:=(o.kmax,Jh o.op (Q4 env) u)::pd) ?_ (fun c hc=>?_) b9 eM aW h4 hK
        .rw[aT];refine⟨hD.len,hD.same,fun c hc=>?_,hD.fr⟩;rcases List.mem_cons.1 hc with rfl|hc
         .refine .inr ⟨_,List.mem_cons_self,Nat.le_refl _,?_⟩;cases rq with
          |none=>exact fun τ hτ=>Zh (Hi l4 h3 hτ)
          |some q =>obtain⟨k1,i,bl,k2,k3,k4,k5⟩:=WY hG (om q rfl) h3;exact⟨k1,i,bl,k2,k3,fun τ ht=>Zh (k4 τ ht),fun ho=>(let ⟨es,c,wr,x1,x2⟩:=k5 ho;⟨es,c,wr,x1,fun τ bX c' hl ht=>Zh (x2 τ bX c' hl ht)⟩)⟩
         .exact l5.pend c hc
        .rcases List.mem_cons.1 hc with rfl|hc
         .exact .inr List.mem_cons_self
         .exact(hp c hc).imp id fun h=>List.mem_cons_of_mem _ h
       .rw[if_neg hle];exact Qm az r cr hB h5 (A:=A) (Rd:=(o.kmax,rq)::Rd) (hl:=hl) (chg:=chg) (pd:=pd) (by rw[aT];exact l5) hp b9 eM aW h4 hK
     .obtain⟨s',tb',h4,aT,h5⟩:=h2 e;rw[if_neg au];exact Qm az r cr hB h5 (by rw[aT];exact l5) hp b9 eM aW h4 hK
    have ro:Ms A o.kmin=true->(∀ u,Q6 o.op (Q4 env) σ=some (u,σ)->(Zo env o.guard=some true)->∀ τ,B.Le τ->Q6 o.op (Q4 env) τ=some (u,τ))->gd1 C o s (fun s'=>JJ C r s' hl chg A Rd K) ->
      QU (Zo env o.guard) fun b=>vif b (if o.kind=2 then (Gc (fun R=>vop (Q2 P) o.op env σ R) fun v σ'=>Jj hs.length σ' pend/\Z8 (Q2 P) r (Jv env o.dst v) (hs++[σ']) σ' pend R)\/(waits o.dst.toList r=true/\vop (Q2 P) o.op env σ fun v σ'=>Jj hs.length σ' pend/\Z8 (Q2 P) r (Jv env o.dst v) (hs++[σ']) σ' pend R)
       else if o.kind=1 then QU (Q6 o.op (Q4 env) σ) fun p=>(∀ τ∈hs.drop o.kmin,Jh o.op (Q4 env) p.1 τ) /\
        Z8 (Q2 P) r (Jv env o.dst p.1) hs σ (if hs.length<=o.kmax then (o.kmax,Jh o.op (Q4 env) p.1)::pend else pend) R
       else QU (Q6 o.op (Q4 env) σ) fun p=>Z8 (Q2 P) r (Jv env o.dst p.1) hs σ pend R)
      (if o.kind=2 then Jj hs.length σ pend/\Z8 (Q2 P) r (Jv env o.dst undef) (hs++[σ]) σ pend R else Z8 (Q2 P) r (Jv env o.dst undef) hs σ pend R):=fun jT bP h=>by
     obtain⟨b,hw,h1,h2⟩:=Ko hG h;rw[hw];refine⟨fun e=>?_,fun e=>?_⟩
     .obtain⟨u,s',tb',h3,h4,aT,h5⟩:=h1 e;have bP:=bP u h3 (by rw[hw,e]);rw[if_neg au,if_pos aL,h3];refine⟨fun τ hτ=>?_,?_⟩
      .obtain⟨j,hj⟩:=List.mem_iff_getElem?.1 hτ;rw[List.getElem?_drop] at hj;refine Zh (bP τ (b9 _ τ hj ?_));simp only[Ms,List.all_eq_true,Bool.or_eq_true,Nat.blt_eq] at jT |-;exact fun a ha=>(jT a ha).imp (fun h=>by omega) id
      refine Qm az r cr hB h5 (A:=A) (Rd:=Rd) (hl:=hl) (chg:=chg) (pd:=pd) (by rw[aT];exact hD) (fun c hc=>?_) b9 eM aW h4 hK;split at hc
      .rcases List.mem_cons.1 hc with rfl|hc
       .exact .inl fun τ hτ=>Zh (bP τ hτ)
       .exact hp c hc
      .exact hp c hc
     .obtain⟨s',tb',h4,aT,h5⟩:=h2 e;rw[if_neg au];exact Qm az r cr hB h5 (by rw[aT];exact hD) hp b9 eM aW h4 hK
    split at h
    .rename_i hg;cases hr:(Q83 o.op (gev [] s.env)&&Ms A o.kmin) with
     |true =>rw[hr] at h;rw[Bool.and_eq_true] at hr;exact ro hr.2 (fun u hu _=>UN hG Gds.nil hr.1 hu) h
     |false =>
     rw[hr] at h;simp only[_root_.cond_false] at h;cases hb:(Nat.ble chg o.kmin||P0 A o.kmin (U7 o.op (gev [] s.env) s.own)) with
     |false=>rw[hb] at h;exact h.elim
     |true =>rw[hb] at h;exact rd _ (fun q hq=>hq) hb h
    .rename_i j want hg;cases hr:(Q02 s j want o.op&&Ms A o.kmin) with
     |true =>
      rw[hr] at h;rw[Bool.and_eq_true] at hr;obtain⟨hr,jT⟩:=hr;refine ro jT (fun u hu hw=>?_) h;unfold Q02 at hr;split at hr
      .rename_i gs s1 ec;obtain⟨tb',br,cR,b,dg,bw,cn⟩:=X3 hG ec;rw[hg,dg] at hw;have e:=osj hw;exact UN br (fun g hg=>⟨bw e g hg,cR g hg⟩) hr hu
      .cases hr
     |false =>
     rw[hr] at h;simp only[_root_.cond_false] at h;cases hb:Nat.ble chg o.kmin with
     |false=>rw[hb] at h;exact h.elim
     |true =>rw[hb] at h;exact rd none (fun q hq=>by cases hq) (by rw[hb];rfl) h
   .rw[if_neg aL] at h;obtain⟨b,hw,h1,h2⟩:=Ko hG h;rw[hw];refine⟨fun e=>?_,fun e=>?_⟩
    .obtain⟨u,s',tb',h3,h4,aT,h5⟩:=h1 e;rw[if_neg au,if_neg aL,h3];exact Qm az r cr hB h5 (by rw[aT];exact hD) hp b9 eM aW h4 hK
    .obtain⟨s',tb',h4,aT,h5⟩:=h2 e;rw[if_neg au];exact Qm az r cr hB h5 (by rw[aT];exact hD) hp b9 eM aW h4 hK
def Nb (pl:Nat->Value) (mp:List (Nat×Option Nat)):Nat->Value:=fun t=>match Qn mp t with
 |some (some a)=>pl a
 |_=>.slice none 0 0
theorem SE {h:Heap}{k k':Kind}{x:k.T}{y:k'.T}(e:NA x y) {cs:List Value}(hk:KC h k' y cs):KC h k x cs:=by
 unfold NA at e;split at e
 .rename_i z hz;obtain rfl:=T3 hz;obtain rfl:=T9 hz;subst e;exact hk
 .exact e.elim
mutual
theorem Ky {B:Heap}{pl:Nat->Value}{tb:Nat->Option Bool}{mp:List (Nat×Option Nat)}:∀ (p a:SV) (v:Value),Hk mp p a->SR P B pl tb a v->SR P B (Nb pl mp) ZH p v
 |.any,a,v,_,_=>trivial
 |.val k x,a,v,h,hs=>by
  simp only[Hk] at h;split at h
  .simp only[SR] at hs |-;exact SE h hs
  .simp only[SR] at hs |-;exact SE h (by simp[KC,hs.1])
  .split at h
   .subst h;simp only[SR] at hs |-;subst hs;exact⟨_,rfl,.inl ⟨rfl,rfl⟩⟩
   .exact h.elim
  .exact h.elim
 |.lst t,a,v,h,hs=>by
  simp only[Hk] at h;split at h
  .split at h
   .rename_i e;simp only[SR,Nb,e] at hs |-;exact hs
   .exact h.elim
  .split at h
   .rename_i e;simp only[SR,Nb,e] at hs |-;exact⟨hs,_,_,_,hs⟩
   .exact h.elim
  .exact h.elim
 |.box t off,a,v,h,hs=>by
  simp only[Hk] at h;split at h
  .split at h
   .rename_i e;obtain⟨e,rfl⟩:=e;simp only[SR,Nb,e] at hs |-;exact hs
   .exact h.elim
  .exact h.elim
 |.map t,a,v,h,hs=>by
  simp only[Hk] at h;split at h
  .split at h
   .rename_i e;simp only[SR,Nb,e] at hs |-;exact hs
   .exact h.elim
  .exact h.elim
 |.dd t w,a,v,h,hs=>by
  simp only[Hk] at h;split at h
  .split at h
   .simp only[SR] at hs |-;simp only[DR];exact .inl ⟨h,hs⟩
   .split at h
    .rename_i e;obtain⟨e,rfl⟩:=e;simp only[SR,DR,Nb,e] at hs |-;obtain⟨b,h1,h2⟩:=hs;exact .inr ⟨h,b,by rw[h1];rfl,h2⟩
    .exact h.elim
   .split at h
    .split at h
     .rename_i e;subst h;simp only[SR,DR,Nb,e] at hs |-;exact hs
     .exact h.elim
    .exact h.elim
   .exact h.elim
  .split at h
   .split at h
    .split at h
     .rename_i e;simp only[SR,Nb,e] at hs |-;exact hs
     .exact h.elim
    .exact h.elim
   .exact h.elim
  .split at h
   .split at h
    .split at h
     .rename_i e;simp only[SR,Nb,e] at hs |-;exact hs
     .exact h.elim
    .exact h.elim
   .split at h
    .rename_i e;simp only[SR,Nb,e] at hs |-;exact⟨hs,_,_,_,hs⟩
    .exact h.elim
   .exact h.elim
  .exact h.elim
 |.agg l,a,v,h,hs=>by
  simp only[Hk] at h;split at h
  .rename_i l';simp only[SR] at hs |-;obtain⟨cs,h1,h2⟩:=hs;exact⟨cs,h1,Z9 l l' cs h h2⟩
  .exact h.elim
 |.tup l,a,v,h,hs=>by
  simp only[Hk] at h;split at h
  .rename_i l';simp only[SR] at hs |-;obtain⟨cs,h1,h2⟩:=hs;exact⟨cs,h1,Z9 l l' cs h h2⟩
  .exact h.elim
 |.fn f x y,a,v,h,hs=>by
  simp only[Hk] at h;split at h
  .split at h
   .rename_i e;subst e;simp only[SR] at hs |-;obtain⟨cs,ds,h1,h2,h3⟩:=hs;exact⟨cs,ds,h1,Z9 x _ cs h.1 h2,Z9 y _ ds h.2 h3⟩
   .exact h.elim
  .exact h.elim
 |.nilS,a,v,h,hs=>by
  simp only[Hk] at h;split at h
  .simp only[SR] at hs |-;exact hs
  .exact h.elim
 |.nilP,a,v,h,hs=>by
  simp only[Hk] at h;split at h
  .simp only[SR] at hs |-;exact hs
  .exact h.elim
 |.nilM,a,v,h,hs=>by
  simp only[Hk] at h;split at h
  .simp only[SR] at hs |-;exact hs
  .exact h.elim
 |.nilF,a,v,h,hs=>by
  simp only[Hk] at h;split at h
  .simp only[SR] at hs |-;exact hs
  .exact h.elim
 |.cp l off,a,v,h,hs=>by
  simp only[Hk] at h;cases q_:SVs.pure l with
  |true =>rw[q_] at h;simp only[_root_.cond_true] at h;obtain⟨rfl,_⟩:=h;simp only[SR] at hs |-;obtain⟨b,c,e,wr,t,h1,h2,h3⟩:=hs;exact⟨b,c,e,wr,t,h1,h2,Za l c q_ h3⟩
  |false =>
   rw[q_] at h;simp only[_root_.cond_false] at h;split at h
   .split at h
    .rename_i l' dH he;subst he;simp only[SR] at hs |-;obtain⟨b,c,e,wr,t,h1,h2,h3⟩:=hs;exact⟨b,c,e,wr,t,h1,h2,Z9 l l' c h h3⟩
    .exact h.elim
   .exact h.elim
 |.pf ks r cQ p,a,v,h,hs=>by simp only[Hk] at h;subst h;simp only[SR] at hs |-;exact hs
 |.sub t lo n sz,a,v,h,hs=>by
  simp only[Hk] at h;split at h
  .split at h
   .rename_i e;obtain⟨rfl,rfl,rfl⟩:=h;simp only[SR,Nb,e] at hs |-;exact hs
   .exact h.elim
  .exact h.elim
 |.elp _ _ _ _,_,_,h,_|.grd _ _,_,_,h,_|.bid _ _,_,_,h,_|.rop _ _ _ _,_,_,h,_=>by simp only[Hk] at h
theorem Z9 {B:Heap}{pl:Nat->Value}{tb:Nat->Option Bool}{mp:List (Nat×Option Nat)}:∀ (p a:List SV) (v:List Value),Nd mp p a->SRs P B pl tb a v->SRs P B (Nb pl mp) ZH p v
 |[],a,v,h,hs=>by simp only[Nd] at h;subst h;exact hs
 |s::ss,[],v,h,hs=>by simp only[Nd] at h
 |s::ss,a::bR,v,h,hs=>by simp only[Nd] at h;simp only[SRs] at hs |-;obtain⟨x,y,h1,h2,h3⟩:=hs;exact⟨x,y,h1,Ky s a x h.1 h2,Z9 ss bR y h.2 h3⟩
theorem Tt {B:Heap}{pl pl':Nat->Value}{tb tb':Nat->Option Bool}:∀ (s:SV) (v:Value),s.pure=true->SR P B pl tb s v->SR P B pl' tb' s v
 |.any,v,_,_=>trivial
 |.val k x,v,_,h=>by simp only[SR] at h |-;exact h
 |.nilS,v,_,h|.nilP,v,_,h|.nilM,v,_,h|.nilF,v,_,h=>by simp only[SR] at h |-;exact h
 |.rop k l i off,v,_,h=>by simp only[SR] at h |-;exact h
 |.pf ks r cQ p,v,_,h=>by simp only[SR] at h |-;exact h
 |.agg l,v,hp,h=>by simp only[SR] at h |-;obtain⟨cs,h1,h2⟩:=h;exact⟨cs,h1,Za l cs hp h2⟩
 |.tup l,v,hp,h=>by simp only[SR] at h |-;obtain⟨cs,h1,h2⟩:=h;exact⟨cs,h1,Za l cs hp h2⟩
 |.cp l off,v,hp,h=>by simp only[SR] at h |-;obtain⟨b,c,e,wr,t,h1,h2,h3⟩:=h;exact⟨b,c,e,wr,t,h1,h2,Za l c hp h3⟩
 |.fn f a b,v,hp,h=>by simp only[SV.pure,Bool.and_eq_true] at hp;simp only[SR] at h |-;obtain⟨x,y,h1,h2,h3⟩:=h;exact⟨x,y,h1,Za a x hp.1 h2,Za b y hp.2 h3⟩
 |.lst _,_,h,_|.sub _ _ _ _,_,h,_|.elp _ _ _ _,_,h,_|.box _ _,_,h,_|.map _,_,h,_|.grd _ _,_,h,_|.bid _ _,_,h,_=>by cases h
theorem Za {B:Heap}{pl pl':Nat->Value}{tb tb':Nat->Option Bool}:∀ (s:List SV) (v:List Value),SVs.pure s=true->SRs P B pl tb s v->SRs P B pl' tb' s v
 |[],v,_,h=>by simp only[SRs] at h |-;exact h
 |s::ss,v,hp,h=>by simp only[SVs.pure,Bool.and_eq_true] at hp;simp only[SRs] at h |-;obtain⟨x,y,h1,h2,h3⟩:=h;exact⟨x,y,h1,Tt s x hp.1 h2,Za ss y hp.2 h3⟩
end
end
end Go.V
namespace Go.V
open Go
section
variable {P:Program}{B F:Heap}{pl:Nat->Value}{tb:Nat->Option Bool}{s:St}{env:Env}{σ:Heap}
theorem Vc {k k':Kind}{xs:List k.T}{ys:List k'.T}(h:NA (k:=.list k) xs (k':=.list k') ys):∃ e:k'=k,e▸ys=xs:=by
 unfold NA at h;split at h
 .rename_i z hz;have e:=T3 hz;obtain rfl:=Kind.list.inj e;obtain rfl:=T9 hz;exact⟨rfl,h⟩
 .exact h.elim
theorem QN (hG:Gam P B F pl tb s env σ) {mp:List (Nat×Option Nat)}{t:Nat}{b:OB}(h:Q2g s mp t b) :
  OR P B (Nb pl mp) ZH σ (Nb pl mp t) b/\(b.live=true->∀ i,Oid (Nb pl mp t) i->∃ a,Qn mp t=some (some a)/\(Qd s.own a).live=true/\Oid (pl a) i):=by
 unfold Q2g at h;split at h
 .rename_i a ha;have aR:Nb pl mp t=pl a:=by simp[Nb,ha]
  rw[aR];have ao:=hG.obj a;split at h
  .exact⟨trivial,fun h=>by cases h⟩
  .rename_i ty k xs nl mK k' cI lQ ho;split at h
   .rename_i e;subst e;obtain⟨h1,rfl⟩:=h;obtain⟨rfl,rfl⟩:=Vc h1;rw[ho] at ao;exact⟨ao,fun _ i hi=>⟨a,ha,by rw[ho];rfl,hi⟩⟩
   .exact h.elim
  .rename_i l u l' u' ho;split at h
   .rename_i e0;subst e0;rw[ho] at ao;obtain⟨i,c,e,t',h1,h2,h3,h4⟩:=ao;exact⟨⟨i,c,e,t',h1,h2,Z9 l l' c h h3,h4⟩,fun _ i hi=>⟨a,ha,by rw[ho];rfl,hi⟩⟩
   .exact h.elim
  .rename_i kk vk m jR lR m' ho;split at h
   .obtain⟨e,h1⟩:=Vc h;obtain⟨rfl,rfl⟩:=Kind.pair.inj e;subst h1;rw[ho] at ao;exact⟨ao,fun _ i hi=>⟨a,ha,by rw[ho];rfl,hi⟩⟩
   .exact h.elim
  .rename_i l vals l' kH ho;rw[ho] at ao;obtain⟨rfl,h⟩:=h;exact⟨Z9 l l' vals h ao,fun h=>by cases h⟩
  .rename_i l q u l' q' u' ho;rw[ho] at ao;split at h
   .obtain⟨rfl,h⟩:=h;exact⟨⟨ao.1,Z9 l l' q.vals h ao.2.1,ao.2.2⟩,fun _ i hi=>⟨a,ha,by rw[ho];rfl,hi⟩⟩
   .obtain⟨rfl,h⟩:=h;exact⟨⟨ao.1,Z9 l l' q.vals h ao.2.1,ao.2.2⟩,fun h=>by cases h⟩
   .exact h.elim
  .rename_i kk vk m dn jR lR m' sI ho;split at h
   .obtain⟨h,rfl⟩:=h;obtain⟨e,h1⟩:=Vc h;obtain⟨rfl,rfl⟩:=Kind.pair.inj e;subst h1;rw[ho] at ao;exact⟨ao,fun _ i hi=>⟨a,ha,by rw[ho];rfl,hi⟩⟩
   .exact h.elim
  .rename_i ty q k xs nl h0 mK q' k' cI lQ sq ho;split at h
   .rename_i e;obtain⟨rfl,rfl⟩:=e;split at h
    .obtain⟨h1,rfl⟩:=h;obtain⟨rfl,rfl⟩:=Vc h1;rw[ho] at ao;exact⟨ao,fun _ i hi=>⟨a,ha,by rw[ho];rfl,hi⟩⟩
    .exact h.elim
   .exact h.elim
  .exact h.elim
 .rename_i ha;have aR:Nb pl mp t=.slice none 0 0:=by simp[Nb,ha]
  rw[aR];split at h
  .exact⟨.inl ⟨h.2,h.1,rfl⟩,fun _ i hi=>by cases hi⟩
  .split at h
   .obtain⟨rfl,rfl⟩:=h;refine⟨⟨[],fun i=>⟨fun h=>(by cases h),fun ⟨b,h⟩=>(by cases h)⟩,List.nodup_nil,.inl ⟨rfl,rfl,rfl⟩,fun i=>⟨fun ⟨b,h⟩=>(by cases h),fun h=>(by cases h)⟩,(fun i b h=>by cases h),by simp[phd]⟩,fun _ i hi=>by cases hi⟩
   .exact h.elim
  .exact h.elim
 .exact h.elim
theorem YQ {α:Type _}(l:List (Nat×α)) (t:Nat) (x:α) (d:Nat):Qn (l++[(t,x)]) d=match Qn l d with|some y=>some y|none=>if t=d then some x else none:=by
 induction l with
 |nil =>
  simp only[List.nil_append,Qn];by_cases h:t=d
  .subst h;simp
  .rw[Z_ h];simp[h]
 |cons p l ih =>obtain⟨k,y⟩:=p;simp only[List.cons_append,Qn,ih];cases Nat.beq k d<;>rfl
theorem Se {α:Type _}{l:List (Nat×α)}{d:Nat}{x:α}(h:Qn l d=some x):∃ p∈l,p.1=d/\p.2=x:=by
 induction l with
 |nil=>cases h
 |cons p l ih =>
  obtain⟨k,y⟩:=p;simp only[Qn] at h;cases hb:Nat.beq k d with
  |true=>rw[hb] at h;obtain rfl:=osj h;exact⟨_,List.mem_cons_self,Nat.eq_of_beq_eq_true hb,rfl⟩
  |false =>rw[hb] at h;obtain⟨p,h1,h2⟩:=ih h;exact⟨p,List.mem_cons_of_mem _ h1,h2⟩
def Inj (mp:List (Nat×Option Nat)):Prop:=∀ t t' a,Qn mp t=some (some a)->Qn mp t'=some (some a)->t=t'
theorem Bs:∀ (l:List (Nat×Src)) (mp cg:List (Nat×Option Nat)),Z02 s l mp=some cg->Inj mp->Inj cg
 |[],mp,cg,h,hi=>by obtain rfl:=osj h;exact hi
 |(t,src)::r,mp,cg,h,hi=>by
  simp only[Z02] at h;split at h
  .rename_i a _;split at h
   .cases h
   .rename_i hc;refine Bs r _ _ h ?_;have cO:∀ d,Qn mp d≠some (some a):=fun d hd=>by
     obtain⟨p,h1,h2,h3⟩:=Se hd;apply hc;simp only[Bool.or_eq_true];exact .inl (List.any_eq_true.2 ⟨p,h1,by rw[h3];simp⟩)
    intro t1 t2 a' h1 h2;rw[YQ] at h1 h2;split at h1
    .rename_i y1 e1;split at h2
     .rename_i y2 e2;obtain rfl:=osj h1;obtain rfl:=osj h2;exact hi t1 t2 a' e1 e2
     .split at h2
      .obtain rfl:=osj (osj h2);obtain rfl:=osj h1;exact absurd e1 (cO t1)
      .cases h2
    .split at h1
     .rename_i e1;obtain rfl:=osj (osj h1);split at h2
      .rename_i y2 e2;obtain rfl:=osj h2;exact absurd e2 (cO t2)
      .split at h2
       .rename_i e2;omega
       .cases h2
     .cases h1
  .split at h
   .cases h
   .refine Bs r _ _ h ?_;intro t1 t2 a' h1 h2;rw[YQ] at h1 h2;split at h1
    .rename_i y1 e1;split at h2
     .rename_i y2 e2;obtain rfl:=osj h1;obtain rfl:=osj h2;exact hi t1 t2 a' e1 e2
     .split at h2<;>cases h2
    .split at h1<;>cases h1
  .cases h
theorem TT {mp:List (Nat×Option Nat)}:∀ {ow:List (Nat×Src×OB)},gmatch.obs s mp ow->∀ p∈ow,Q2g s mp p.1 p.2.2
 |[],_,p,hp=>by cases hp
 |(t,src,b)::r,h,p,hp=>by
  simp only[gmatch.obs] at h;rcases List.mem_cons.1 hp with rfl|hp
  .exact h.1
  .exact TT h.2 p hp
theorem KE {f:List (Nat×Src×OB)}:∀ (own:Own) (t:Nat),(∃ p∈f,p.1=t/\Qd (f.foldl (fun o p=>oset o p.1 p.2.2) own) t=p.2.2)\/Qd (f.foldl (fun o p=>oset o p.1 p.2.2) own) t=Qd own t:=by
 induction f with
 |nil=>intro own t;exact .inr rfl
 |cons p f ih =>
  intro own t;simp only[List.foldl_cons];rcases ih (oset own p.1 p.2.2) t with⟨q,h1,h2⟩|h
  .exact .inl ⟨q,List.mem_cons_of_mem _ h1,h2⟩
  .rw[h,Qp];by_cases e:t=p.1
   .rw[if_pos e];exact .inl ⟨p,List.mem_cons_self,e.symm,rfl⟩
   .rw[if_neg e];exact .inr rfl
theorem H8 (hG:Gam P B F pl tb s env σ) {mp:List (Nat×Option Nat)}:∀ (st:List (Nat×SV)) {e:List SV}{eV:Env},gmatch.slots s mp st->SRs P B (Nb pl mp) ZH e eV->SRs P B (Nb pl mp) ZH (st.foldl (fun e p=>e.set p.1 p.2) e) (JY (st.map (·.1)) (Bh (st.map (·.1)) env) eV)
 |[],e,eV,_,h=>h
 |(j,v)::r,e,eV,hs,h=>by simp only[gmatch.slots] at hs;simp only[List.foldl_cons,List.map_cons,Bh,JY];exact H8 hG r hs.2 (h.set j (Ky v _ _ hs.1 (hG.env.getD j poison)))
theorem Ij {B:Heap}{pl:Nat->Value}{tb:Nat->Option Bool}:∀ n,SRs P B pl tb (List.replicate n .any) (List.replicate n poison)
 |0=>by simp[SRs]
 |n+1=>by simp only[List.replicate_succ,SRs];exact⟨_,_,rfl,by simp[SR],Ij n⟩
theorem Dq {B0 F0 D0:Heap}(hR:GRel P B0 F0 D0 s env σ) {st:List (Nat×SV)}{ow:List (Nat×Src×OB)}(h:gmatch s st ow) (len:Nat):GRel P B0 F0 D0 (QY len st ow) (JY (st.map (·.1)) (Bh (st.map (·.1)) env) (List.replicate len poison)) σ:=by
 obtain⟨B,F,pl,tb,hB,hG⟩:=hR;unfold gmatch at h;split at h
 .rename_i mp oq;obtain⟨h1,h2⟩:=h;have fe:=Bs _ _ _ oq (fun t t' a h=>by cases h);have aS:=TT h2;have ao:∀ t,(Qd (QY len st ow).own t).live=true->Q2g s mp t (Qd (QY len st ow).own t):=fun t hl=>by
   rcases KE (f:=ow) [] t with⟨p,h3,h4,h5⟩|h3
   .have:=aS p h3;rw[h4,<-h5] at this;exact this
   .simp only[QY] at hl;rw[h3] at hl;cases hl
  refine⟨B,F,Nb pl mp,ZH,hB,hG.bf,hG.le,H8 hG st h1 (Ij len),fun t=>?_,fun t i hl hi=>?_,fun t t' i aC hl cA hi cG=>?_,fun _ _=>rfl⟩
  .cases hl:(Qd (QY len st ow).own t).live with
   |true=>exact(QN hG (ao t hl)).1
   |false =>
    cases ho:Qd (QY len st ow).own t with
    |dead=>trivial
    |stk l vals =>
     rcases KE (f:=ow) [] t with⟨p,h3,h4,h5⟩|h3
     .have:=aS p h3;simp only[QY] at ho;rw[<-h5,ho] at this;have h6:=(QN hG this).1;rw[h4] at h6;exact h6
     .simp only[QY] at ho;rw[h3] at ho;cases ho
    |lpf l q u =>
     rcases KE (f:=ow) [] t with⟨p,h3,h4,h5⟩|h3
     .have:=aS p h3;simp only[QY] at ho;rw[<-h5,ho] at this;have h6:=(QN hG this).1;rw[h4] at h6;exact h6
     .simp only[QY] at ho;rw[h3] at ho;cases ho
    |_=>rw[ho] at hl;cases hl
  .obtain⟨a,_,h4,h5⟩:=(QN hG (ao t hl)).2 hl i hi;exact hG.fresh a i h4 h5
  .obtain⟨a,e1,h4,h5⟩:=(QN hG (ao t hl)).2 hl i hi;obtain⟨a',e2,g_,ra⟩:=(QN hG (ao t' cA)).2 cA i cG;by_cases e:a=a'
   .subst e;exact aC (fe t t' a e1 e2)
   .exact hG.sep a a' i e h4 g_ h5 ra
 .exact h.elim
theorem GK:∀ {dG cL:List SV}{vs:List Value}{B F:Heap}{s s':St},Gam P B F pl tb s env σ->SRs P B pl tb dG vs->Q74 s dG=some (s',cL) ->
  ∃ B' F',GBase B F σ B' F' σ/\Gam P B' F' pl tb s' env σ/\SRs P B' Jq ZH cL vs/\s'.env=s.env
 |[],cL,vs,B,F,s,s',hG,hs,h=>by simp only[Q74,Option.some.injEq,Prod.mk.injEq] at h;obtain⟨rfl,rfl⟩:=h;exact⟨B,F,.of hG.bf (.refl _),hG,hs,rfl⟩
 |v::dG,cL,vs,B,F,s,s',hG,hs,h=>by
  simp only[SRs] at hs;obtain⟨u,us,rfl,h1,h2⟩:=hs
  have ot:∀ w:SV,SR P B pl tb w u->(bif w.pure then (match Q74 s dG with|some (s',r)=>some (s',w::r)|none=>none) else none)=some (s',cL) ->
    ∃ B' F',GBase B F σ B' F' σ/\Gam P B' F' pl tb s' env σ/\SRs P B' Jq ZH cL (u::us)/\s'.env=s.env:=fun w hw h=>by
   cases hp:w.pure with
   |false=>rw[hp] at h;cases h
   |true =>
    rw[hp] at h;simp only[_root_.cond_true] at h;split at h
    .rename_i s1 r heq;simp only[Option.some.injEq,Prod.mk.injEq] at h;obtain⟨rfl,rfl⟩:=h;obtain⟨B',F',k1,k2,k3,k4⟩:=GK hG h2 heq;exact⟨B',F',k1,k2,by simp only[SRs];exact⟨u,us,rfl,SR.mono k1.b (fun _ _ h=>h) _ _ (Tt w u hp hw),k3⟩,k4⟩
    .cases h
  simp only[Q74] at h;split at h
  .rename_i o;split at h
   .rename_i l _ ho;cases hp:SVs.pure l with
    |false=>rw[hp] at h;cases h
    |true =>
     rw[hp] at h;simp only[_root_.cond_true] at h;split at h
     .rename_i s1 r heq;simp only[Option.some.injEq,Prod.mk.injEq] at h;obtain⟨rfl,rfl⟩:=h;have ao:=hG.obj o;rw[ho] at ao;obtain⟨i,c,e,t,e1,e2,e3,_⟩:=ao;obtain⟨k1,k2⟩:=hG.freeze (o:=o) (i:=i) (by rw[ho];rfl) (by rw[e1];rfl);obtain⟨B',F',j1,j2,j3,j4⟩:=GK k2 (SRs.mono k1.b (fun _ _ h=>h) _ _ h2) heq;refine⟨B',F',k1.trans j1,j2,?_,j4⟩;simp only[SRs];refine⟨u,us,rfl,?_,j3⟩;simp only[SR] at h1 |-;obtain⟨b,q1,q2⟩:=h1;rw[e1] at q1;obtain rfl:i=b:=by simpa using q1
      refine⟨i,c,e,true,t,j1.b.2 _ _ ?_,q2,SRs.mono (k1.trans j1).b (fun _ _ h=>h) _ _ (Za l c hp e3)⟩;rw[Heap.ins_self];exact e2
     .cases h
   .cases h
  .exact ot _ h1 h
theorem Gam.lpUpd (hG:Gam P B F pl tb s env σ) {n:Nat}{b b0:Blk}(hF:F.get n=some b0) (hB:B.get n=none):Gam P B (F.upd n b) pl tb s env (σ.upd n b):=by
 have aC:∀ {d i},(Qd s.own d).live=true->Oid (pl d) i->i≠n:=fun h1 h2 e=>by have:=hG.fresh _ _ h1 h2;subst e;rw[hF] at this;cases this
 refine⟨⟨hG.bf.1,fun i c hc=>?_⟩,⟨hG.le.1,fun i c hc=>?_⟩,hG.env,fun d=>(hG.obj d).mono (.refl _) (fun _ _ h=>h) fun h1 i h2=>Heap.get_upd_ne _ _ (aC h1 h2),fun d i h1 h2=>?_,hG.sep,hG.free⟩
 .have:i≠n:=by rintro rfl;rw[hB] at hc;cases hc
  rw[Heap.get_upd_ne _ _ this];exact hG.bf.2 _ _ hc
 .by_cases e:i=n
  .subst e;rw[Heap.get_upd_self _ _ (F.lt hF)] at hc;rw[Heap.get_upd_self _ _ (Nat.lt_of_lt_of_le (F.lt hF) hG.le.1)];exact hc
  .rw[Heap.get_upd_ne _ _ e] at hc |-;exact hG.le.2 _ _ hc
 .rw[Heap.get_upd_ne _ _ (aC h1 h2)];exact hG.fresh _ _ h1 h2
theorem Gam.lpKill (hG:Gam P B F pl tb s env σ) {n:Nat}{b0:Blk}(hF:F.get n=some b0) (hB:B.get n=none):Gam P B (F.kill n) pl tb s env (σ.kill n):=by
 have aC:∀ {d i},(Qd s.own d).live=true->Oid (pl d) i->i≠n:=fun h1 h2 e=>by have:=hG.fresh _ _ h1 h2;subst e;rw[hF] at this;cases this
 refine⟨⟨hG.bf.1,fun i c hc=>?_⟩,⟨hG.le.1,fun i c hc=>?_⟩,hG.env,fun d=>(hG.obj d).mono (.refl _) (fun _ _ h=>h) fun h1 i h2=>Heap.get_kill_ne _ (aC h1 h2),fun d i h1 h2=>?_,hG.sep,hG.free⟩
 .have:i≠n:=by rintro rfl;rw[hB] at hc;cases hc
  rw[Heap.get_kill_ne _ this];exact hG.bf.2 _ _ hc
 .by_cases e:i=n
  .subst e;rw[Heap.get_kill_self] at hc;cases hc
  .rw[Heap.get_kill_ne _ e] at hc |-;exact hG.le.2 _ _ hc
 .rw[Heap.get_kill_ne _ (aC h1 h2)];exact hG.fresh _ _ h1 h2
theorem GRel.lpUpd {B1 F1 D0:Heap}(h:GRel P B1 F1 D0 s env σ) {n:Nat}{b b0:Blk}(hF:F1.get n=some b0) (hB:B1.get n=none):GRel P B1 (F1.upd n b) D0 s env (σ.upd n b):=by
 obtain⟨B,F,pl,tb,dK,hG⟩:=h;have ou:=dK.f.2 _ _ hF;have l6:=dK.x _ _ hF hB;refine⟨B,F.upd n b,pl,tb,⟨dK.b,⟨dK.f.1,fun i c hc=>?_⟩,fun i c h1 h2=>?_,⟨dK.d.1,fun i h1 h2=>?_⟩⟩,hG.lpUpd ou l6⟩
 .by_cases e:i=n
  .subst e;rw[Heap.get_upd_self _ _ (F1.lt hF)] at hc;rw[Heap.get_upd_self _ _ (F.lt ou)];exact hc
  .rw[Heap.get_upd_ne _ _ e] at hc |-;exact dK.f.2 _ _ hc
 .by_cases e:i=n
  .subst e;exact l6
  .rw[Heap.get_upd_ne _ _ e] at h1;exact dK.x _ _ h1 h2
 .have hd:=dK.d.2 i h1 h2;have:i≠n:=by rintro rfl;rw[hG.le.2 _ _ ou] at hd;cases hd
  rw[Heap.get_upd_ne _ _ this];exact hd
theorem GRel.lpKill {B1 F1 D0:Heap}(h:GRel P B1 F1 D0 s env σ) {n:Nat}{b0:Blk}(hF:F1.get n=some b0) (hB:B1.get n=none):GRel P B1 (F1.kill n) D0 s env (σ.kill n):=by
 obtain⟨B,F,pl,tb,dK,hG⟩:=h;have ou:=dK.f.2 _ _ hF;have l6:=dK.x _ _ hF hB;refine⟨B,F.kill n,pl,tb,⟨dK.b,⟨dK.f.1,fun i c hc=>?_⟩,fun i c h1 h2=>?_,⟨dK.d.1,fun i h1 h2=>?_⟩⟩,hG.lpKill ou l6⟩
 .by_cases e:i=n
  .subst e;rw[Heap.get_kill_self] at hc;cases hc
  .rw[Heap.get_kill_ne _ e] at hc |-;exact dK.f.2 _ _ hc
 .by_cases e:i=n
  .subst e;exact l6
  .rw[Heap.get_kill_ne _ e] at h1;exact dK.x _ _ h1 h2
 .have hd:=dK.d.2 i h1 h2;by_cases e:i=n
  .subst e;exact Heap.get_kill_self _ _
  .rw[Heap.get_kill_ne _ e];exact hd
theorem GRel.base {B0 F0 B1 F1 D0:Heap}(h:GRel P B1 F1 D0 s env σ) (hb:B0.Le B1) (hf:F0.Le F1) (hx:∀ i b,F0.get i=some b->B0.get i=none->B1.get i=none):GRel P B0 F0 D0 s env σ:=by obtain⟨B,F,pl,tb,dK,hG⟩:=h;exact⟨B,F,pl,tb,⟨hb.trans dK.b,hf.trans dK.f,fun i b h1 h2=>dK.x i b (hf.2 _ _ h1) (hx i b h1 h2),dK.d⟩,hG⟩
theorem DH (hG:Gam P B F pl tb s env σ) {mp:List (Nat×Option Nat)}:∀ (st:List (Nat×SV)) {e:List SV},gmatch.slots s mp st->SRs P B (Nb pl mp) ZH e env->SRs P B (Nb pl mp) ZH (st.foldl (fun e p=>e.set p.1 p.2) e) env
 |[],e,_,h=>h
 |(j,v)::r,e,hs,h=>by
  simp only[gmatch.slots] at hs;simp only[List.foldl_cons];refine DH hG r hs.2 ?_;have:=h.set j (Ky v _ _ hs.1 (hG.env.getD j poison));by_cases hj:j<env.length
  .rwa [List.getD_eq_getElem?_getD,List.getElem?_eq_getElem hj,Option.getD_some,List.set_getElem_self] at this
  .rw[List.set_eq_of_length_le (by rw[h.length];omega)];exact h
theorem Am {B:Heap}{pl:Nat->Value}{tb:Nat->Option Bool}:∀ (env:Env),SRs P B pl tb (List.replicate (List.length env) .any) env
 |[]=>by simp[SRs]
 |v::env=>by simp only[List.length_cons,List.replicate_succ,SRs];exact⟨_,_,rfl,by simp[SR],Am env⟩
theorem Vo {B0 F0 D0:Heap}(hR:GRel P B0 F0 D0 s env σ) {st:List (Nat×SV)}{ow:List (Nat×Src×OB)}(h:gmatch s st ow):GRel P B0 F0 D0 (QY (List.length env) st ow) env σ:=by
 obtain⟨B,F,pl,tb,hB,hG⟩:=hR;unfold gmatch at h;split at h
 .rename_i mp oq;obtain⟨h1,h2⟩:=h;have fe:=Bs _ _ _ oq (fun t t' a h=>by cases h);have aS:=TT h2;have ao:∀ t,(Qd (QY (List.length env) st ow).own t).live=true->Q2g s mp t (Qd (QY (List.length env) st ow).own t):=fun t hl=>by
   rcases KE (f:=ow) [] t with⟨p,h3,h4,h5⟩|h3
   .have:=aS p h3;rw[h4,<-h5] at this;exact this
   .simp only[QY] at hl;rw[h3] at hl;cases hl
  refine⟨B,F,Nb pl mp,ZH,hB,hG.bf,hG.le,DH hG st h1 (Am env),fun t=>?_,fun t i hl hi=>?_,fun t t' i aC hl cA hi cG=>?_,fun _ _=>rfl⟩
  .cases hl:(Qd (QY (List.length env) st ow).own t).live with
   |true=>exact(QN hG (ao t hl)).1
   |false =>
    cases ho:Qd (QY (List.length env) st ow).own t with
    |dead=>trivial
    |stk l vals =>
     rcases KE (f:=ow) [] t with⟨p,h3,h4,h5⟩|h3
     .have:=aS p h3;simp only[QY] at ho;rw[<-h5,ho] at this;have h6:=(QN hG this).1;rw[h4] at h6;exact h6
     .simp only[QY] at ho;rw[h3] at ho;cases ho
    |lpf l q u =>
     rcases KE (f:=ow) [] t with⟨p,h3,h4,h5⟩|h3
     .have:=aS p h3;simp only[QY] at ho;rw[<-h5,ho] at this;have h6:=(QN hG this).1;rw[h4] at h6;exact h6
     .simp only[QY] at ho;rw[h3] at ho;cases ho
    |_=>rw[ho] at hl;cases hl
  .obtain⟨a,_,h4,h5⟩:=(QN hG (ao t hl)).2 hl i hi;exact hG.fresh a i h4 h5
  .obtain⟨a,e1,h4,h5⟩:=(QN hG (ao t hl)).2 hl i hi;obtain⟨a',e2,g_,ra⟩:=(QN hG (ao t' cA)).2 cA i cG;by_cases e:a=a'
   .subst e;exact aC (fe t t' a e1 e2)
   .exact hG.sep a a' i e h4 g_ h5 ra
 .exact h.elim
theorem TV {α:Type}{o:Option α}{f:α->Prop}(h:QU o f):∃ a,f a:=by
 cases o with
 |none=>exact h.elim
 |some a=>exact⟨a,h⟩
theorem COk.nx {C:Cx}(h:COk P C):COk P C.nx:=⟨h.cs,fun f x hx=>(by cases hx),h.it,h.yl,h.iy,fun f j _ x hx=>(by cases hx)⟩
theorem XH {S:VSpecs}{Q:Prop}:∀ {ops:List DOper}{env:Env}{hs:List Heap}{σ:Heap}{pend:List (Nat×(Heap->Prop))},Zy S ops env hs σ pend (fun _ _=>Q)->Q
 |[],_,_,_,_,h=>h
 |o::r,env,hs,σ,pend,h=>by
  simp only[Zy] at h;obtain⟨b,h⟩:=TV h;cases b with
  |true =>
   have h:=h.1 rfl;split at h
   .obtain⟨v,σ',_,_,h⟩:=h;exact XH h
   .split at h
    .obtain⟨p,_,h⟩:=TV h;exact XH h
    .obtain⟨p,h⟩:=TV h;exact XH h
  |false =>
   have h:=h.2 rfl;split at h
   .exact XH h.2
   .exact XH h
theorem Hq {C:Cx}{s:St}{st:List (Nat×SV)}{ow:List (Nat×Src×OB)}{Q:Prop}:∀ (ls:List (List DOper)),Q7c C ls s st ow Q->(∀ l∈ls,JJ C.nx l s 1 0 [] [] fun s'=>G_ s.env.length s' st ow)/\Q
 |[],h=>⟨fun l hl=>(by cases hl),h⟩
 |l::ls,h=>by obtain⟨h1,h2⟩:=h;obtain⟨h3,h4⟩:=Hq ls h2;exact⟨fun l' cA=>(List.mem_cons.1 cA).elim (fun e=>e▸h1) (h3 l'),h4⟩
theorem Vd {B0 F0 D0:Heap}{s:St}{env:Env}{σ:Heap}{n:Nat}(hR:GRel P B0 F0 D0 s env σ) {st:List (Nat×SV)}{ow:List (Nat×Src×OB)}(h:G_ n s st ow):GRel P B0 F0 D0 (QY n st ow) env σ:=by
 unfold G_ at h;cases hb:Nat.beq s.env.length n with
 |false=>rw[hb] at h;exact h.elim
 |true =>
  rw[hb] at h;have hl:env.length=n:=by rw[<-Nat.eq_of_beq_eq_true hb];obtain⟨_,_,_,_,_,hG⟩:=hR;exact hG.env.length.symm
  rw[<-hl];exact Vo hR h
theorem XP {C:Cx}(az:COk P C) {B0 F0 D0:Heap}:∀ (aU:List DSeg) {s:St}{env:Env}{σ:Heap},GRel P B0 F0 D0 s env σ->∀ {K:St->Prop},RN C aU s K->∀ {R:Env->Heap->Prop},(∀ s' af σ',K s'->GRel P B0 F0 D0 s' af σ'->R af σ')->Nm (Q2 P) aU env σ R
 |[],s,env,σ,hR,K,h,R,hK=>hK s env σ h hR
 |.one o::r,s,env,σ,hR,K,h,R,hK=>by refine US az [o] hR (K:=fun s'=>RN C r s' K) h fun s' af σ' h1 h2=>?_;exact XP az r h2 h1 hK
 |.alts [l]::r,s,env,σ,hR,K,h,R,hK=>by
  simp only[RN] at h;cases hd:Q3v l with
  |false =>
   rw[hd] at h;simp only[_root_.cond_false] at h;cases hk:l.all (fun o=>o.kind==o.op.kind) with
   |false=>rw[hk] at h;exact h.elim
   |true =>
    rw[hk] at h;simp only[_root_.cond_true] at h;intro ops ho;obtain rfl:=List.mem_singleton.1 ho;obtain⟨B,F,pl,tb,hB,hG⟩:=hR;have one:∀ (j:Nat) (τ:Heap),([σ]:List Heap)[j]?=some τ->τ=σ:=fun j τ ht=>by
     cases j with
     |zero=>simpa using ht.symm
     |succ j=>simp at ht
    exact Qm az ops (fun o ho=>by simpa using List.all_eq_true.1 hk o ho) hB hG (hl:=1) (chg:=0) (A:=[]) (Rd:=[]) ⟨rfl,fun j τ _ ht=>one j τ ht,(fun c hc=>absurd hc (by simp)),fun j τ q i ht _ _ _=>by rw[one j τ ht]⟩ (pend:=[]) (pd:=[]) (fun c hc=>absurd hc (by simp)) (fun j τ ht _=>by rw[one j τ ht];exact hG.leB) (Nat.zero_le _) (Nat.succ_pos _) h fun s' af σ' h1 h2=>⟨af,σ',.refl _ _ _,XP az r h2 h1 hK⟩
  |true =>rw[hd] at h;refine Q0k (l:=l) hd ?_;exact US az _ hR h fun s' af σ' h1 h2=>XP az r h2 h1 hK
 |.alts []::r,s,env,σ,hR,K,h,R,hK=>h.elim
 |.alts (l::l2::ls)::r,s,env,σ,hR,K,h,R,hK=>by
  simp only[RN] at h;cases hk:(l::l2::ls).all (fun l=>l.all fun o=>o.kind==o.op.kind) with
  |false=>rw[hk] at h;exact h.elim
  |true =>
   rw[hk] at h;simp only[_root_.cond_true] at h;obtain⟨B,F,pl,tb,hB,hG⟩:=hR;have one:∀ (j:Nat) (τ:Heap),([σ]:List Heap)[j]?=some τ->τ=σ:=fun j τ ht=>by
    cases j with
    |zero=>simpa using ht.symm
    |succ j=>simp at ht
   have run:∀ l'∈l::l2::ls,∀ {K':St->Prop},JJ C.nx l' s 1 0 [] [] K'->∀ {R':Env->Heap->Prop},(∀ s' af σ',K' s'->GRel P B0 F0 D0 s' af σ'->R' af σ')->Zy (Q2 P) l' env [σ] σ [] R':=fun l' cA K' h' R' qY =>
    Qk az.nx rfl l' (fun o ho=>by simpa using List.all_eq_true.1 (List.all_eq_true.1 hk l' cA) o ho) hB hG (hl:=1) (chg:=0) (A:=[]) (Rd:=[]) ⟨rfl,fun j τ _ ht=>one j τ ht,(fun c hc=>absurd hc (by simp)),fun j τ q i ht _ _ _=>by rw[one j τ ht]⟩ (pend:=[]) (pd:=[]) (fun c hc=>absurd hc (by simp)) (fun j τ ht _=>by rw[one j τ ht];exact hG.leB) (Nat.zero_le _) (Nat.succ_pos _) h' qY
   obtain⟨s0,h0,h1⟩:=XH (run l List.mem_cons_self h (R':=fun _ _=>∃ s0:St,_) fun s' _ _ h' _=>⟨s',h'⟩);obtain⟨h2,h3⟩:=Hq _ h1;intro ops ho;rcases List.mem_cons.1 ho with rfl|dQ
   .refine XG ?_;exact run ops ho h fun s' af σ' h' rb=>⟨af,σ',.refl _ _ _,by
     obtain⟨k1,k2⟩:=h';exact XP az r (Vd rb k1) (Hq _ k2).2 hK⟩
   .refine XG ?_;exact run ops ho (h2 ops dQ) fun s' af σ' h' rb=>⟨af,σ',.refl _ _ _,XP az r (Vd rb h') h3 hK⟩
theorem BO:∀ (l:List Nat) (vs:List SV),(Q81 l vs).map (·.1)=l
 |[],_=>rfl
 |j::js,[]=>by simp[Q81,BO js []]
 |j::js,v::vs=>by simp[Q81,BO js vs]
theorem Ua {B:Heap}{pl:Nat->Value}{tb:Nat->Option Bool}:∀ {ps:List Nat}{xs:List SV}{us:List Value}{e:List SV}{env:Env},SRs P B pl tb xs us->SRs P B pl tb e env->SRs P B pl tb (MM e ps xs) (BZ env ps us)
 |[],xs,us,e,env,_,h=>by simpa [MM,BZ] using h
 |p::ps,[],us,e,env,hx,h=>by simp only[SRs] at hx;subst hx;simpa [MM,BZ] using h
 |p::ps,x::xs,us,e,env,hx,h=>by simp only[SRs] at hx;obtain⟨u,lJ,rfl,h1,h2⟩:=hx;simp only[MM,BZ];exact Ua h2 (h.set p h1)
def Z2t (F0:Heap):Option Nat->Prop
 |none=>True
 |some i=>∃ env r st pend,F0.get i=some (.obj (.lp env r st pend) true)
theorem Gam.dropLp {B F:Heap}{pl:Nat->Value}{tb:Nat->Option Bool}{s:St}{env:Env}{σ:Heap}(hG:Gam P B F pl tb s env σ) {o:Nat}{l:List SV}{q:LpD}{u:LpS}(ho:Qd s.own o=.lpf l q u) (hl:u.live=true) :
  Gam P B F pl tb ⟨l,oset s.own o .dead,s.nx⟩ q.vals (σ.kill q.i)/\σ.get q.i=some (.obj (.lp q.vals q.r u.st u.pend) true):=by
 have ao:=hG.obj o;rw[ho] at ao;obtain⟨h1,h2,h3⟩:=ao;have jB:(Qd s.own o).live=true:=by rw[ho];exact hl
 have jU:Oid (pl o) q.i:=by rw[h1];rfl
 have hF:=hG.fresh o q.i jB jU;have lv:∀ d,(Qd (oset s.own o .dead) d).live=true->d≠o/\(Qd s.own d).live=true:=fun d h=>by
  rw[Qp] at h;by_cases e:d=o
  .rw[if_pos e] at h;cases h
  .rw[if_neg e] at h;exact⟨e,h⟩
 refine⟨⟨hG.bf,⟨hG.le.1,fun j b hb=>?_⟩,h2,fun d=>?_,fun d i hd hi=>hG.fresh d i (lv d hd).2 hi,fun d d' i e h h'=>hG.sep d d' i e (lv d h).2 (lv d' h').2,hG.free⟩,h3 hl⟩
 .have e:j≠q.i:=by rintro rfl;rw[hF] at hb;cases hb
  rw[Heap.get_kill_ne _ e];exact hG.le.2 _ _ hb
 .rw[Qp];by_cases e:d=o
  .rw[if_pos e];trivial
  .rw[if_neg e];refine (hG.obj d).mono (.refl _) (fun _ _ h=>h) fun hd i hi=>?_;have:i≠q.i:=by rintro rfl;exact hG.sep d o q.i e hd jB hi jU
   exact Heap.get_kill_ne _ this
theorem Oz (s:St) (o:Nat) (b:OB) (j:Nat):Qd (s.make o b).own j=if j=o then b else (Qd s.own j).kill o:=by
 simp only[St.make,Qp];by_cases h:j=o
 .subst h;simp
 .simp only[h,if_false,St.kill,KI]
theorem Gam.enterLp {B F:Heap}{pl:Nat->Value}{tb:Nat->Option Bool}{s:St}{env:Env}{σ:Heap}(hG:Gam P B F pl tb s env σ) {o aM:Nat}{l:List SV}{q:LpD}(ho:Qd s.own o=.lpf l q .rdy) (aC:o≠aM)
  {args:List SV}{us:List Value}(aB:SRs P B pl tb args us) (ps:List Nat) :
  Gam P B (F.ins σ q.i hG.le.1) (Je pl aM poison) tb ⟨MM (SVs.kill aM l) ps (SVs.kill aM args),oset (LX aM env s).own o (.lpf (SVs.kill aM l) q .busy),s.nx⟩ (BZ q.vals ps us) σ:=by
 have q3:Gam P B F (Je pl aM poison) tb (LX aM env s) env σ:=by refine hG.make aM _ poison hG.le (fun _ _ _ _ _=>rfl) ?_ (fun i hl _=>by cases hl);exact SRs.upd (.refl _) (fun _ _ h=>h) (fun j hj=>by simp[Je,hj]) _ _ hG.env
 have ao:=hG.obj o;rw[ho] at ao;obtain⟨h1,h2,h3⟩:=ao;have jB:(Qd s.own o).live=true:=by rw[ho];rfl
 have ie:Je pl aM poison o=.pointer (some ⟨q.i,0,none⟩):=by simp[Je,aC,h1]
 have vJ:Qd (LX aM env s).own o=.lpf (SVs.kill aM l) q .rdy:=by have:=Oz s aM (.stk (SVs.kill aM s.env) env) o;unfold LX;rw[this,if_neg aC,ho];rfl
 have ov:(Qd (LX aM env s).own o).live=true:=by rw[vJ];rfl
 have jU:Oid (Je pl aM poison o) q.i:=by rw[ie];rfl
 have hF:=q3.fresh o q.i ov jU;have cF:SRs P B (Je pl aM poison) tb (SVs.kill aM l) q.vals:=SRs.upd (.refl _) (fun _ _ h=>h) (fun j hj=>by simp[Je,hj]) _ _ h2;have vK:SRs P B (Je pl aM poison) tb (SVs.kill aM args) us:=SRs.upd (.refl _) (fun _ _ h=>h) (fun j hj=>by simp[Je,hj]) _ _ aB;have lv:∀ d,(Qd (oset (LX aM env s).own o (.lpf (SVs.kill aM l) q .busy)) d).live=true->d≠o/\(Qd (LX aM env s).own d).live=true:=fun d h=>by
  rw[Qp] at h;by_cases e:d=o
  .rw[if_pos e] at h;cases h
  .rw[if_neg e] at h;exact⟨e,h⟩
 refine⟨q3.bf.trans (hG.le.ins _),hG.le.ins_le _,Ua vK cF,fun d=>?_,fun d i hd hi=>?_,fun d d' i e h h'=>q3.sep d d' i e (lv d h).2 (lv d' h').2,q3.free⟩
 .show OR P B _ tb σ _ (Qd (oset _ o _) d);rw[Qp];by_cases e:d=o
  .subst e;rw[if_pos rfl];exact⟨ie,cF,fun h=>by cases h⟩
  .rw[if_neg e];exact q3.obj d
 .obtain⟨e,sP⟩:=lv d hd;have:i≠q.i:=by rintro rfl;exact q3.sep d o q.i e sP ov hi jU
  rw[Heap.ins_ne _ _ _ this];exact q3.fresh d i sP hi
theorem Gam.leaveLp {B F:Heap}{pl:Nat->Value}{tb:Nat->Option Bool}{s:St}{env:Env}{σ:Heap}(hG:Gam P B F pl tb s env σ) {o aM:Nat}{l l2:List SV}{jS:List Value}{q:LpD}{b0:Blk}(hF:F.get q.i=some b0) (hB:B.get q.i=none)
  (h2:Qd s.own aM=.stk l2 jS) (ho:Qd s.own o=.lpf l q .busy) (u:LpS) :
  Gam P B (F.kill q.i) pl tb ⟨l2,oset (oset s.own aM .dead) o (.lpf l q u),s.nx⟩ jS (σ.upd q.i (.obj (.lp q.vals q.r u.st u.pend) true)):=by
 have ao:=hG.obj o;rw[ho] at ao;obtain⟨k1,k2,_⟩:=ao;have hk:=hG.obj aM;rw[h2] at hk;have hi:q.i<σ.n:=σ.lt (hG.le.2 _ _ hF);have aC:∀ {d i},(Qd s.own d).live=true->Oid (pl d) i->i≠q.i:=fun h1 h2 e=>by have:=hG.fresh _ _ h1 h2;subst e;rw[hF] at this;cases this
 have jU:∀ i,Oid (pl o) i->i=q.i:=fun i h=>by rw[k1] at h;exact(osj h).symm
 have hg:∀ d,Qd (oset (oset s.own aM .dead) o (.lpf l q u)) d=if d=o then .lpf l q u else if d=aM then .dead else Qd s.own d:=fun d=>by rw[Qp,Qp]
 have lv:∀ d,d≠o->(Qd (oset (oset s.own aM .dead) o (.lpf l q u)) d).live=true->(Qd s.own d).live=true:=fun d e h=>by
  rw[hg,if_neg e] at h;split at h
  .cases h
  .exact h
 refine⟨⟨hG.bf.1,fun j b hb=>?_⟩,⟨hG.le.1,fun j b hb=>?_⟩,hk,fun d=>?_,fun d i hd cG=>?_,fun d d' i e h h' h1 ia=>?_,hG.free⟩
 .have e:j≠q.i:=by rintro rfl;rw[hB] at hb;cases hb
  rw[Heap.get_kill_ne _ e];exact hG.bf.2 _ _ hb
 .by_cases e:j=q.i
  .subst e;rw[Heap.get_kill_self] at hb;cases hb
  .rw[Heap.get_kill_ne _ e] at hb;rw[Heap.get_upd_ne _ _ e];exact hG.le.2 _ _ hb
 .show OR P B pl tb _ _ (Qd (oset _ o _) d);rw[hg];by_cases e:d=o
  .subst e;rw[if_pos rfl];exact⟨k1,k2,fun _=>Heap.get_upd_self _ _ hi⟩
  .rw[if_neg e];split
   .trivial
   .exact(hG.obj d).mono (.refl _) (fun _ _ h=>h) fun hd i hi=>Heap.get_upd_ne _ _ (aC hd hi)
 .by_cases e:d=o
  .subst e;rw[jU i cG];exact Heap.get_kill_self _ _
  .rw[Heap.get_kill_ne _ (aC (lv d e hd) cG)];exact hG.fresh d i (lv d e hd) cG
 .by_cases e1:d=o
  .subst e1;have e2:d'≠d:=fun h=>e h.symm;exact aC (lv d' e2 h') ia (jU i h1)
  .by_cases e2:d'=o
   .subst e2;exact aC (lv d e1 h) h1 (jU i ia)
   .exact hG.sep d d' i e (lv d e1 h) (lv d' e2 h') h1 ia
theorem ML {C:Cx}(az:COk P C) {L:List (Nat×LoopAnn)}(vc:VCode):∀ {B0 F0 D0:Heap}(n:Nat) (K:Exit->St->Prop) (s:St) (env:Env) (σ:Heap) (ro:Option Nat) (Q:Exit->Env->Heap->Prop),Z2t F0 ro->GRel P B0 F0 D0 s env σ->gwp C L vc n K s->(∀ e s' af σ',K e s'->GRel P B0 F0 D0 s' af σ'->Q e af σ')->vwp (Q2 P) vc ro Q env σ:=by
 induction vc with
 |skip=>intro B0 F0 D0 n K s env σ ro Q bP hR h hK;exact hK _ _ _ _ h hR
 |region ops=>intro B0 F0 D0 n K s env σ ro Q bP hR h hK;exact US az ops hR h fun s' af σ' h1 h2=>hK _ _ _ _ h1 h2
 |regionD aU=>intro B0 F0 D0 n K s env σ ro Q bP hR h hK;exact XP az aU hR h fun s' af σ' h1 h2=>hK _ _ _ _ h1 h2
 |rangeF g ps a b fF fj =>
  intro B0 F0 D0 n K s env σ ro Q bP hR h hK;simp only[gwp] at h;split at h
  .rename_i f first dG hg
   split at h
   .
    rename_i x hx;obtain⟨B,F,pl,tb,hB,hG⟩:=hR;have gW:=hG.evs (Gds.nil (tb:=tb)) g;rw[hg] at gW;simp only[SR] at gW;obtain⟨x',y',bj,l7,ox⟩:=gW;obtain⟨iC,mJ⟩:=az.iy f x hx;show vwp (Q2 P) (.rangeF g ps a b) ro Q env σ;simp only[vwp,Ls,bj];have l8:(Q2 P).it f=some fun i Y args σ K=>Kc P i Y->VCallsTo P f args σ K:=by simp only[Q2];rw[if_pos iC]
    rw[l8];refine⟨?_,fun r hY=>?_⟩
    .cases ro with
     |none=>trivial
     |some i =>obtain⟨e1,r1,st1,rf,hi⟩:=bP;exact⟨e1,r1,st1,rf,hG.le.2 _ _ (hB.f.2 _ _ hi)⟩
    generalize j9:C.off+2000000+n=o at h;generalize fO:100000*(o+1)-1=aM at h;have aj:o≠aM:=by omega
    let q:LpD:=⟨σ.n,env,r⟩;let rdy:Blk:=.obj (.lp env r .ready none) true;let fy:Blk:=.obj (.lp env r .busy none) true;let p0:Value:=.pointer (some ⟨σ.n,0,none⟩);have oy:Gam P B F (Je pl o p0) tb (Z3g o q s) env (σ.push rdy):=by refine hG.push o (.lpf (SVs.kill o s.env) q .rdy) p0 rdy rfl ⟨rfl,SRs.upd (.refl _) (fun _ _ h=>h) (fun j hj=>by simp[Je,hj]) _ _ hG.env,fun _=>Heap.get_push_self _ _⟩
    have kl:∀ {xs us},SRs P B pl tb xs us->SRs P B (Je pl o p0) tb (SVs.kill o xs) us:=fun h=>SRs.upd (.refl _) (fun _ _ h=>h) (fun j hj=>by simp[Je,hj]) _ _ h;have aB:SRs P B (Je pl o p0) tb (SVs.kill o first++(.dd o .yv::SVs.kill o dG)) (x'++(.func (.yield σ.n) #[] #[]::y')):=by refine (kl l7).append ?_;simp only[SRs,SR,DR];exact⟨_,_,rfl,⟨σ.n,by simp[Je,p0],rfl⟩,kl ox⟩
    have vL:Q2a P o (Q0s o aM ps.length q (fun K' s'=>gwp C L a n (Q1u (fun s3=>gwp C L b n K' s3) fun _ _=>False) s') ps):=by
     intro B F pl tb s af σ args us K R i hG ha hy ie hK;unfold Q0s at hy;split at hy
     .rename_i l q' u ho;split at hy
      .cases hlen:Nat.beq args.length ps.length with
       |false=>rw[hlen] at hy;exact hy.elim
       |true =>
       rw[hlen] at hy;simp only[_root_.cond_true] at hy;obtain⟨rfl,hy⟩:=hy;have ao:=hG.obj o;rw[ho] at ao;have hi:i=q.i:=by have h1:=ao.1;rw[ie] at h1;have:=osj (Value.pointer.inj h1);exact(Addr.mk.inj this).1
       subst hi;have l9:σ.get q.i=some rdy:=ao.2.2 rfl;have jB:(Qd s.own o).live=true:=by rw[ho];rfl
       have mM:F.get q.i=none:=hG.fresh o q.i jB (by rw[ao.1];rfl);have sQ:B.get q.i=none:=by
        cases hb:B.get q.i with
        |none=>rfl
        |some b=>rw[hG.bf.2 _ _ hb] at mM;cases mM
       have kL:=hG.enterLp ho aj ha ps;have iS:(F.ins σ q.i hG.le.1).get q.i=some rdy:=by rw[Heap.ins_self];exact l9
       have fK:(F.ins σ q.i hG.le.1).n=σ.n:=rfl;have aQ:q.i<σ.n:=σ.lt l9;refine hY us σ R ⟨l9,by rw[<-ha.length];exact(Nat.eq_of_beq_eq_true hlen),?_⟩;refine fF (B0:=B) (F0:=F.ins σ q.i hG.le.1) (D0:=σ) n _ _ _ σ (some q.i) _ ⟨env,r,_,_,iS⟩ ⟨B,_,_,tb,.of kL.bf (Dead.refl _),kL⟩ (hy af) fun e s3 rh σ3 h7 h8=>?_;cases e with
       |normal =>
        have jI:σ3.get q.i=some rdy:=by obtain⟨B',F',pl',tb',q1,q2⟩:=h8;exact q2.le.2 _ _ (q1.f.2 _ _ iS)
        refine⟨jI,?_⟩;have h9:=h8.lpUpd (b:=fy) iS sQ;have mN:((F.ins σ q.i hG.le.1).upd q.i fy).get q.i=some fy:=Heap.get_upd_self _ _ (by rw[fK];exact aQ);refine fj (B0:=B) (F0:=(F.ins σ q.i hG.le.1).upd q.i fy) (D0:=σ) n _ _ _ _ (some q.i) _ ⟨env,r,_,_,mN⟩ h9 h7 fun e s4 ri σ4 cf gP=>?_;obtain⟨B',F',pl',tb',q1,q2⟩:=gP;have pM:=q1.f.2 _ _ mN;have rj:=q1.x _ _ mN sQ;have kM:σ4.get q.i=some fy:=q2.le.2 _ _ pM;unfold gyK at cf;split at cf
        .rename_i l2 jS l3 q3 u3 au rn;split at cf
         .obtain⟨rfl,rfl,cf⟩:=cf;have base:∀ b,GBase B F σ B' (F'.kill q.i) (σ4.upd q.i b):=fun b=>by
           refine⟨q1.b,⟨?_,fun j c hc=>?_⟩,fun j c h1 h2=>?_,q1.d.trans (Dead.upd _ _ _ (by rw[kM];rfl))⟩
           .have h1:=q1.f.1;have h2:=hG.le.1;show F.n<=F'.n;have h3:((F.ins σ q.i hG.le.1).upd q.i fy).n=σ.n:=rfl;omega
           .have e:j≠q.i:=by rintro rfl;rw[mM] at hc;cases hc
            rw[Heap.get_kill_ne _ e];refine q1.f.2 _ _ ?_;rw[Heap.get_upd_ne _ _ e,Heap.ins_ne _ _ _ e];exact hc
           .have e:j≠q.i:=by rintro rfl;rw[mM] at h1;cases h1
            refine q1.x j c ?_ h2;rw[Heap.get_upd_ne _ _ e,Heap.ins_ne _ _ _ e];exact h1
          refine⟨kM,?_⟩;cases e with
          |normal=>exact hK _ _ B' _ pl' tb' _ _ cf (base _) (q2.leaveLp pM rj au rn .rdy) (by simp[SR,KC])
          |ret=>exact hK _ _ B' _ pl' tb' _ _ cf (base _) (q2.leaveLp pM rj au rn .ret) (by simp[SR,KC])
          |exit id=>exact hK _ _ B' _ pl' tb' _ _ cf (base _) (q2.leaveLp pM rj au rn (.exit id)) (by simp[SR,KC])
          |_=>exact cf.elim
         .exact cf.elim
        .exact cf.elim
       |_=>exact h7.elim
      .exact hy.elim
     .exact hy.elim
    have aZ:=mJ B F _ tb _ env (σ.push rdy) o _ _ _ (Q5t o q K) (fun τ=>Q1b Q env σ.n poison τ) oy aB vL (h q) fun s' B' F' pl' tb' af σ' hk hb dO=>by
     unfold Q5t at hk;split at hk
     .rename_i l q' u ho;have fin:∀ {e:Exit},u.live=true->q'=q->K e ⟨l,oset s'.own o .dead,s'.nx⟩->Q e env (σ'.kill σ.n)/\σ'.get σ.n=some (.obj (.lp env r u.st u.pend) true):=fun {e} hu hq vM=>by
       subst hq;obtain⟨g1,g2⟩:=dO.dropLp ho hu;refine⟨hK _ _ _ _ vM ⟨B',F',pl',tb',⟨hB.b.trans hb.b,hB.f.trans hb.f,fun j c h1 h2=>hb.x j c (hB.f.2 _ _ h1) (hB.x j c h1 h2),hB.d.trans ((Dead.push _ _).trans (hb.d.trans (Dead.kill _ _)))⟩,g1⟩,g2⟩
      cases u with
      |busy=>exact hk.elim
      |rdy =>obtain⟨hq,hk⟩:=hk;obtain⟨k1,k2⟩:=fin rfl hq hk;unfold Q1b;rw[k2];exact⟨(by intro h;cases h),k1⟩
      |ret =>obtain⟨hq,hk⟩:=hk;obtain⟨k1,k2⟩:=fin rfl hq hk;unfold Q1b;rw[k2];exact⟨(by intro h;cases h),k1⟩
      |exit id =>obtain⟨hq,hk⟩:=hk;obtain⟨k1,k2⟩:=fin rfl hq hk;unfold Q1b;rw[k2];exact⟨(by intro h;cases h),k1⟩
     .exact hk.elim
    refine VCallsTo.mono (R:=fun _ τ=>Q1b Q env σ.n poison τ) (by simpa using aZ) fun v τ h=>h
   split at h
   rotate_left
   .exact h.elim
   split at h
   .rename_i it s1 cL A nq rp hA;split at h
    .rename_i c m ar xs hc;cases fq:Nat.beq ps.length ar with
     |false=>rw[fq] at h;exact h.elim
     |true =>
     rw[fq] at h;simp only[_root_.cond_true] at h;obtain⟨dM,p,d0,fC,I,vN,sR,sS⟩:=h;have fq:=Nat.eq_of_beq_eq_true fq;have hlen:s.env.length=env.length:=by obtain⟨B,F,pl,tb,_,hG⟩:=hR;exact hG.env.length
     rw[hlen] at sR sS;have oc:=hR;obtain⟨B,F,pl,tb,hB,hG⟩:=hR;have gW:=hG.evs Gds.nil g;rw[hg] at gW;simp only[SR] at gW;obtain⟨x,y,bj,hx,hy⟩:=gW;simp only[SRs] at hx;subst hx;obtain⟨B1,F1,oz,oA,vO,ke⟩:=GK hG hy rp;obtain⟨iC,rr⟩:=az.it f it nq;obtain⟨oB,ru⟩:=rr B1 cL y c m ar xs vO hc dM;have vQ:GRel P B1 F1 D0 (QY (List.length env) (A.st p d0) (A.own p d0)) env σ:=Vo ⟨B1,F1,pl,tb,⟨.refl _,.refl _,fun _ _ _ h=>h,(hB.trans oz).d⟩,oA⟩ fC;have mO:B1.get σ.n=none:=B1.wf _ oA.leB.1;have vR:F1.get σ.n=none:=F1.wf _ oA.le.1;show vwp (Q2 P) (.rangeF g ps a b) ro Q env σ;simp only[vwp,Ls,bj];have l8:(Q2 P).it f=some fun i Y args σ K=>Kc P i Y->VCallsTo P f args σ K:=by simp only[Q2];rw[if_pos iC]
     rw[l8];refine⟨?_,fun r hY=>?_⟩
     .cases ro with
      |none=>trivial
      |some i =>obtain⟨e1,r1,st1,rf,hi⟩:=bP;exact⟨e1,r1,st1,rf,hG.le.2 _ _ (hB.f.2 _ _ hi)⟩
     .let rdy:Blk:=.obj (.lp env r .ready none) true;let fy:Blk:=.obj (.lp env r .busy none) true;have kN:F1.Le (σ.push rdy):=oA.le.push rdy;let Fr:=F1.ins (σ.push rdy) σ.n kN.1;have iS:Fr.get σ.n=some rdy:=by
       show (F1.ins _ _ _).get σ.n=_;rw[Heap.ins_self,Heap.get_push_self]
      have fK:Fr.n=σ.n+1:=rfl;have vS:F1.Le Fr:=kN.ins σ.n;let J:Nat->Heap->Prop:=fun k τ=>∃ d,I k d/\GRel P B1 Fr D0 (QY (List.length env) (A.st p d) (A.own p d)) env τ;let E:Heap->Prop:=fun τ=>∃ cd e,τ.get σ.n=some (.obj (.lp env r .done (some cd)) true)/\((cd=.ret/\e=Exit.ret)\/∃ id,cd=.exit id/\e=Exit.exit id)/\Q e env (τ.kill σ.n);have back:∀ {s':St}{τ:Heap},GRel P B1 (Fr.upd σ.n fy) D0 s' env τ->∀ b,GRel P B1 ((Fr.upd σ.n fy).upd σ.n b) D0 s' env (τ.upd σ.n b):=fun h b =>
       h.lpUpd (b0:=fy) (Heap.get_upd_self _ _ (by rw[fK];omega)) mO
      have iT:∀ {Fx:Heap}{b0:Blk}{s':St}{τ:Heap},Fx.get σ.n=some b0->(∀ i,i≠σ.n->Fx.get i=F1.get i)->Fx.n=σ.n+1->GRel P B1 Fx D0 s' env τ->GRel P B0 F0 D0 s' env (τ.kill σ.n):=fun {Fx b0 s' τ} h1 h2 h3 h4=>by
       refine (h4.lpKill h1 mO).base (hB.b.trans oz.b) ⟨?_,fun i b hb=>?_⟩ fun i b k1 k2=>(hB.trans oz).x i b k1 k2
       .show F0.n<=Fx.n;rw[h3];have:=(hB.trans oz).f.1;have:=oA.le.1;omega
       .have bw:=(hB.trans oz).f.2 _ _ hb;have e:i≠σ.n:=by rintro rfl;rw[vR] at bw;cases bw
        rw[Heap.get_kill_ne _ e,h2 i e];exact bw
      have jV:∀ i,i≠σ.n->Fr.get i=F1.get i:=fun i e=>Heap.ins_ne _ _ _ e;have aZ:=ru σ.n _ J E (σ.push rdy) hY (fun k τ ⟨d,_,hd⟩=>?_) (fun k us τ hk ⟨d,rv,hd⟩ er=>?_) ⟨d0,vN,?_⟩
      .refine VCallsTo.mono (R:=fun _ τ=>J m τ\/E τ) (by simpa using aZ) fun v τ qD=>?_;unfold Q1b;rcases qD with⟨d,rv,hd⟩|⟨cd,e,h1,h2,h3⟩
       .have l9:τ.get σ.n=some rdy:=by
         obtain⟨B',F',pl',tb',q1,q2⟩:=hd;exact q2.le.2 _ _ (q1.f.2 _ _ iS)
        rw[l9];exact⟨(by intro h;cases h),hK _ _ _ _ (sS d rv) (iT iS jV fK hd)⟩
       .rw[h1];refine⟨(by intro h;cases h),?_⟩;rcases h2 with⟨rfl,rfl⟩|⟨id,rfl,rfl⟩<;>exact h3
      .obtain⟨B',F',pl',tb',q1,q2⟩:=hd;exact q1.b.trans q2.leB
      .
       have l9:τ.get σ.n=some rdy:=by obtain⟨B',F',pl',tb',q1,q2⟩:=hd;exact q2.le.2 _ _ (q1.f.2 _ _ iS)
       refine⟨l9,by rw[fq,<-(oB k).1,er.length],?_⟩;have hF:=sR k d hk rv env;have bJ:GRel P B1 Fr D0 ⟨MM (LX (2000000+n) env (QY (List.length env) (A.st p d) (A.own p d))).env ps (xs k),(LX (2000000+n) env (QY (List.length env) (A.st p d) (A.own p d))).own,0⟩ (BZ env ps us) τ:=by
        obtain⟨B',F',pl',tb',q1,q2⟩:=hd;have q3:Gam P B' F' (Je pl' (2000000+n) poison) tb' (LX (2000000+n) env (QY (List.length env) (A.st p d) (A.own p d))) env τ:=by refine q2.make (2000000+n) _ poison q2.le (fun _ _ _ _ _=>rfl) ?_ (fun i hl _=>by cases hl);exact SRs.upd (.refl _) (fun _ _ h=>h) (fun j hj=>by simp[Je,hj]) _ _ q2.env
        refine⟨B',F',Je pl' (2000000+n) poison,tb',q1,⟨q3.bf,q3.le,Ua ?_ q3.env,q3.obj,q3.fresh,q3.sep,?_⟩⟩
        .exact SRs.mono q1.b (fun _ _ h=>h) _ _ (Za _ _ (oB k).2 er)
        .exact q3.free
       refine fF (B0:=B1) (F0:=Fr) n _ _ _ τ (some σ.n) _ ⟨env,r,_,_,iS⟩ bJ hF fun e s3 rh σ3 h7 h8=>?_;cases e with
       |normal =>
        have jI:σ3.get σ.n=some rdy:=by obtain⟨B',F',pl',tb',q1,q2⟩:=h8;exact q2.le.2 _ _ (q1.f.2 _ _ iS)
        refine⟨jI,?_⟩;have h9:=h8.lpUpd (b:=fy) iS mO;have mN:(Fr.upd σ.n fy).get σ.n=some fy:=Heap.get_upd_self _ _ (by rw[fK];omega);refine fj (B0:=B1) (F0:=Fr.upd σ.n fy) n _ _ _ _ (some σ.n) _ ⟨env,r,_,_,mN⟩ h9 h7 fun e s4 ri σ4 cf gP=>?_;have kM:σ4.get σ.n=some fy:=by obtain⟨B',F',pl',tb',q1,q2⟩:=gP;exact q2.le.2 _ _ (q1.f.2 _ _ mN)
        have sU:σ.n<σ4.n:=σ4.lt kM;unfold Iu at cf;split at cf
        .rename_i l vs iU;obtain⟨rfl,cf⟩:=cf;have cO:GRel P B1 (Fr.upd σ.n fy) D0 ⟨l,s4.own,s4.nx⟩ vs σ4:=by
          obtain⟨B',F',pl',tb',q1,q2⟩:=gP;have:=q2.obj (2000000+n);rw[iU] at this;exact⟨B',F',pl',tb',q1,q2.bf,q2.le,this,q2.obj,q2.fresh,q2.sep,q2.free⟩
         have l_:∀ b,((Fr.upd σ.n fy).upd σ.n b).get σ.n=some b:=fun b=>Heap.get_upd_self _ _ (by show σ.n<Fr.n;rw[fK];omega);have ry:∀ b i,i≠σ.n->((Fr.upd σ.n fy).upd σ.n b).get i=F1.get i:=fun b i e=>by rw[Heap.get_upd_ne _ _ e,Heap.get_upd_ne _ _ e,jV i e]
         refine⟨kM,?_⟩;cases e with
         |normal =>
          obtain⟨d',nW,pK⟩:=cf;refine .inl ⟨rfl,d',pK,?_⟩;have:=(back (Vo cO nW) rdy).base (B0:=B1) (F0:=Fr) (.refl _) ⟨Nat.le_refl _,fun i b hb=>?_⟩ fun i b k1 k2=>k2
          .exact this
          .by_cases e:i=σ.n
           .subst e;rw[iS] at hb;rw[l_];exact hb
           .rw[ry _ _ e,<-jV i e];exact hb
         |ret =>refine .inr ⟨rfl,_,_,Heap.get_upd_self _ _ sU,.inl ⟨rfl,rfl⟩,hK _ _ _ _ cf (iT (l_ _) (ry _) (by show Fr.n=_;exact fK) (back cO _))⟩
         |exit id =>refine .inr ⟨rfl,_,_,Heap.get_upd_self _ _ sU,.inr ⟨id,rfl,rfl⟩,hK _ _ _ _ cf (iT (l_ _) (ry _) (by show Fr.n=_;exact fK) (back cO _))⟩
         |_=>exact cf.elim
        .exact cf.elim
       |_=>exact h7.elim
      .
       obtain⟨B',F',pl',tb',q1,q2⟩:=vQ;have hle:F'.Le (σ.push rdy):=q2.le.push rdy;have vT:F'.get σ.n=none:=F'.wf _ q2.le.1;have ao:∀ d i,(Qd (QY (List.length env) (A.st p d0) (A.own p d0)).own d).live=true->Oid (pl' d) i->i<σ.n:=fun d i h1 h2=>(q2.obj d).id_lt h1 h2;refine⟨B',F'.ins (σ.push rdy) σ.n hle.1,pl',tb',⟨q1.b,Heap.ins_ins q1.f _ _ _,fun i b k1 k2=>?_,q1.d.trans (Dead.push _ _)⟩,⟨q2.bf.trans (hle.ins _),hle.ins_le _,q2.env,fun d=>(q2.obj d).mono (.refl _) (fun _ _ h=>h) fun h1 i h2=>Heap.get_push_lt _ _ (ao d i h1 h2),fun d i h1 h2=>?_,q2.sep,q2.free⟩⟩
       .by_cases e:i=σ.n
        .subst e;exact B'.wf _ q2.leB.1
        .rw[jV i e] at k1;exact q1.x i b k1 k2
       .rw[Heap.ins_ne _ _ _ (Nat.ne_of_lt (ao d i h1 h2))];exact q2.fresh d i h1 h2
    .exact h.elim
   .exact h.elim
  .exact h.elim
 |bad=>intro B0 F0 D0 n K s env σ ro Q bP hR h hK;exact h.elim
 |ret=>intro B0 F0 D0 n K s env σ ro Q bP hR h hK;exact hK _ _ _ _ h hR
 |exit id=>intro B0 F0 D0 n K s env σ ro Q bP hR h hK;exact hK _ _ _ _ h hR
 |seq a b fF fj =>
  intro B0 F0 D0 n K s env σ ro Q bP hR h hK;refine fF n _ s env σ ro _ bP hR h fun e s' af σ' h1 h2=>?_;cases e with
  |normal=>exact fj n K s' af σ' ro Q bP h2 h1 hK
  |_=>exact hK _ _ _ _ h1 h2
 |cond c a b fF fj =>
  intro B0 F0 D0 n K s env σ ro Q bP hR h hK;simp only[gwp] at h;split at h
  .rename_i t ht;have oc:=hR;obtain⟨B,F,pl,tb,hB,hG⟩:=hR;have:=UA hG ht;simp only[vwp,this,IN];cases t with
   |true=>exact⟨fun _=>fF n K s env σ ro Q bP oc h hK,fun e=>by cases e⟩
   |false=>exact⟨(fun e=>by cases e),fun _=>fj n K s env σ ro Q bP oc h hK⟩
  split at h
  .rename_i t ht;obtain⟨B,F,pl,tb,hB,hG⟩:=hR;have:=X1 ht (hG.evs Gds.nil c);simp only[vwp,this,IN];split at h
   .rename_i A hA;obtain⟨p,I,hF,hI⟩:=h;have fin:∀ e s' af σ',Q51 s.env.length A p I K e s'->GRel P B0 F0 D0 s' af σ'->Q e af σ':=fun e s' af σ' h1 h2=>by
     cases e with
     |normal =>obtain⟨d,h3,h4⟩:=h1;exact hK _ _ _ _ (hI d h4) (Vd h2 h3)
     |_=>exact hK _ _ _ _ h1 h2
    exact⟨fun e=>fF n _ s env σ ro Q bP ⟨B,F,pl,tb,hB,hG⟩ (hF.1 e) fin,fun e=>fj n _ s env σ ro Q bP ⟨B,F,pl,tb,hB,hG⟩ (hF.2 e) fin⟩
   exact⟨fun e=>fF n K s env σ ro Q bP ⟨B,F,pl,tb,hB,hG⟩ (h.1 e) hK,fun e=>fj n K s env σ ro Q bP ⟨B,F,pl,tb,hB,hG⟩ (h.2 e) hK⟩
  .exact h.elim
 |block id b ih =>
  intro B0 F0 D0 n K s env σ ro Q bP hR h hK;refine ih id _ s env σ ro _ bP hR h fun e s' af σ' h1 h2=>?_;cases e with
  |exit il =>
   simp only[Q0b] at h1;simp only[E0];split
   .rename_i e;rw[if_pos e] at h1;exact hK _ _ _ _ h1 h2
   .rename_i e;rw[if_neg e] at h1;exact hK _ _ _ _ h1 h2
  |_=>exact hK _ _ _ _ h1 h2
 |loop b ih =>
  intro B0 F0 D0 n K s env σ ro Q bP hR h hK;simp only[gwp] at h;split at h
  .rename_i A hA;obtain⟨p,d0,h1,I,μ,h2,h3⟩:=h;have hlen:s.env.length=env.length:=by obtain⟨B,F,pl,tb,_,hG⟩:=hR;exact hG.env.length
   have hk:∀ d,(A.st p d).map (·.1)=A.sl:=fun d=>BO _ _;refine⟨A.sl,fun m vs σ'=>∃ d,I d/\μ d=m/\GRel P B0 F0 D0 (QY s.env.length (A.st p d) (A.own p d)) (JY A.sl vs (List.replicate env.length poison)) σ',μ d0,⟨d0,h2,rfl,?_⟩,fun m vs σ' ⟨d,h4,h5,h6⟩=>?_⟩
   .have:=Dq hR h1 s.env.length;rw[hk d0,hlen] at this;rw[hlen];exact this
   .refine ih n _ _ _ σ' ro _ bP h6 (h3 d h4) fun e s' af aN h7 h8=>?_;cases e with
    |normal =>
     simp only[Q45] at h7;cases nP:Z28 s'.own with
     |false=>rw[nP] at h7;exact h7.elim
     |true =>
     rw[nP] at h7;obtain⟨d',h9,cf,gP⟩:=h7;refine⟨μ d',by omega,d',cf,rfl,?_⟩;have:=Dq h8 h9 s.env.length;rw[hk d',hlen] at this;rw[hlen];exact this
    |_=>exact hK _ _ _ _ h7 h8
  .exact h.elim
end
end Go.V