/- A framework for walks, contracts of functions, and their proofs: part 4. -/
import Derived.Test.YtfblnfcecfjbpaaGreatM3
namespace Go.V
open Go
theorem J13 {α:Type}{l:List α}(h:¬ l=[]) (b:Bool):(l.isEmpty&&b)=false:=by cases l with|nil=>exact absurd rfl h|cons _ _=>rfl
theorem Z8u {α:Type}{l:List α}(h:¬ l=[]):l.isEmpty=false:=by cases l with|nil=>exact absurd rfl h|cons _ _=>rfl
theorem HE {c vs:List Value}{o:Nat}(h:o+vs.length<=c.length):KJ c o vs=c.take o++vs++c.drop (o+vs.length):=by
 apply zZ;intro k;rcases zk k o with hk|hk
 .rw[YT vs c o k (.inl hk),zY,xr (by simp;omega),zO,z3 hk]
 .rcases zk k (o+vs.length) with al|al
  .have:=A0 vs c o (k-o) h (by omega);rw[show o+(k-o)=k by omega] at this;rw[this,zY,xE (by simp;omega),xr (by simp;omega)];congr 1;simp;omega
  .rw[YT vs c o k (.inr al),xE (by simp;omega),zC];congr 1;simp;omega
theorem Q70 (us c:List Value) {m p n off:Nat}(h1:off+us.length<=n) (h2:p+n<=m) (h3:m<=c.length) :
  (KJ c (p+off) us).take m=(c.take m).take p++KJ (((c.take m).drop p).take n) off us++(c.take m).drop (p+n):=by
 have l1:(((c.take m).drop p).take n).length=n:=by simp;omega
 have cY:∀ q,q<n->(((c.take m).drop p).take n)[q]?=c[p+q]?:=λq hq=>by rw[zO,z3 hq,zC,zO,z3 (by omega)]
 generalize ((c.take m).drop p).take n=row at l1 cY;have l2:((c.take m).take p).length=p:=by simp;omega
 have l3:(KJ row off us).length=n:=by rw[YA,l1]
 have g2:∀ q,q<p->((c.take m).take p)[q]?=c[q]?:=λq hq=>by rw[zO,z3 hq,zO,z3 (by omega)]
 generalize (c.take m).take p=pre at l2 g2;apply zZ;intro j;rw[zO,zY];by_cases hj:j<m
 .rw[z3 hj];rcases zk j p with a1|a1
  .rw[YT us c _ j (.inl (by omega)),xr (by omega),g2 j a1]
  .rw[xE (by omega),l2];rcases zk j (p+n) with a2|a2
   .rw[xr (by omega)];rcases zk (j-p) off with a3|a3
    .rw[YT us c _ j (.inl (by omega)),YT us _ _ _ (.inl a3),cY _ (by omega)];congr 1;omega
    .rcases zk (j-p) (off+us.length) with a4|a4
     .have b1:=A0 us c (p+off) (j-(p+off)) (by omega) (by omega);have b2:=A0 us row off (j-(p+off)) (by omega) (by omega);rw[show p+off+(j-(p+off))=j by omega] at b1;rw[show off+(j-(p+off))=j-p by omega] at b2;rw[b1,b2]
     .rw[YT us c _ j (.inr (by omega)),YT us _ _ _ (.inr a4),cY _ (by omega)];congr 1;omega
   .rw[YT us c _ j (.inr (by omega)),xE (by omega),zC,zO,l3,z3 (by omega)];congr 1;omega
 .rw[z0 hj,xE (by omega),xE (by omega),zC,zO,z0 (by omega)]
theorem Heap.Le.push {B M:Heap}(h:B.Le M) (b:Blk):B.Le (M.push b) :=
 ⟨by have:=h.1;simp;omega,λi b' hb=>by rw[Heap.q0i _ _ (M.lt (h.2 i b' hb))];exact h.2 i b' hb⟩
theorem Heap.Le.upd {B M:Heap}(h:B.Le M) {i:Nat}(hi:B.get i=none) (b:Blk):B.Le (M.upd i b) :=
 ⟨by simpa using h.1,λj b' hb=>by
  have:j≠i:=λe=>by subst e;rw[hi] at hb;cases hb
  rw[Heap.q0b _ _ this];exact h.2 j b' hb⟩
theorem Heap.Le.kill {B M:Heap}(h:B.Le M) {i:Nat}(hi:B.get i=none):B.Le (M.kill i) :=
 ⟨by simpa using h.1,λj b' hb=>by
  have:j≠i:=λe=>by subst e;rw[hi] at hb;cases hb
  rw[Heap.q0c _ this];exact h.2 j b' hb⟩
theorem Heap.Le.fresh {B M:Heap}(h:B.Le M):B.get M.n=none:=B.wf _ h.1
section
variable {P:Program}{B F:Heap}{pl:Nat->Value}{tb:Nat->Option Bool}{s:St}{env:Env}{M:Heap}
theorem OR.q1a {p:Value}{b:OB}(h:OR P B pl tb M p b) (hl:b.live=true) {i:Nat}(hi:Oid p i):i<M.n:=by
 cases b with
 |dead=>cases hl
 |lst ty k xs nl =>
  rcases h with⟨_,_,rfl⟩|⟨_,i',cap,c,t,rfl,_,h3,_⟩
  .cases hi
  .obtain rfl:=osj hi;exact M.lt h3
 |cells l u=>obtain⟨i',c,e,t,rfl,h2,_⟩:=h;obtain rfl:=osj hi;exact M.lt h2
 |map kk vk m=>obtain⟨i',es,clock,rfl,h2,_⟩:=h;obtain rfl:=osj hi;exact M.lt h2
 |mapE kk vk m key n=>obtain⟨i',es,clock,r,e,rfl,h2,_⟩:=h;obtain rfl:=osj hi;exact M.lt h2
 |iter kk vk m dn=>obtain⟨j,i',es,clock,wr,seen,rfl,h2,_⟩:=h;obtain rfl:=osj hi;exact M.lt h2
 |lpf l q s=>obtain⟨rfl,_,h2⟩:=h;obtain rfl:=osj hi;exact M.lt (h2 hl)
 |deep ty q k xs nl hh =>obtain⟨is,hO,_,_,_,h4,_⟩:=h;obtain⟨b',cf⟩:=(hO i).1 hi;exact M.lt (h4 i b' cf)
 |stk l vals=>cases hl
theorem Gam.push (h:Gam P B F pl tb s env M) (d:Nat) (b:OB) (p:Value) (blk:Blk) (hp:oid p=some M.n) (hb:OR P B (X8 pl d p) tb (M.push blk) p b):Gam P B F (X8 pl d p) tb (s.make d b) env (M.push blk):=by
 refine h.make d b p (h.le.push blk) (λj i hj hl hi=>?_) hb (λi _ hi=>?_)
 .exact Heap.q0i _ _ ((h.obj j).q1a hl hi)
 .obtain rfl:=Q2f hp hi;exact⟨h.le.fresh,λj _ hl e=>by have:=(h.obj j).q1a hl e;omega⟩
theorem Rows.cellOk {k:Kind}{xs:List k.T}{cs:List Value}(h:Rows (KC B k) xs cs):cs.all Go.V.cellOk=true:=by
 induction h with
 |nil=>rfl
 |cons h _ ih=>rw[List.all_append,KC.cellOk h,ih];rfl
theorem HD {pl:Nat->Value}:∀ {k:Kind}{off:Nat}{v:SV}{u:Value}{x y:k.T}{row:List Value},Z3h k off v x=some y->KC B k x row->SR P B pl tb v u->off<k.size->KC B k y (KJ row off [u])
 |.pair a b,off,v,u,x,y,row,h,hr,hv,ho=>by
  obtain⟨c1,c2,rfl,h1,h2⟩:=hr;have l1:=KC.length h1;have l2:=KC.length h2;simp only[Z3h] at h;simp only[KJ];cases hb:Nat.blt off a.size with
  |true =>
   rw[hb] at h;simp only[zl,zq] at h;obtain⟨z,h3,rfl⟩:=h;have a8:off<a.size:=by simpa [zJ] using hb
   have:=HD h3 h1 hv a8;exact⟨c1.set off u,c2,by rw[List.set_append_left _ _ (by omega)],this,h2⟩
  |false =>
   rw[hb] at h;simp only[zQ,zq] at h;obtain⟨z,h3,rfl⟩:=h;have a8:¬ off<a.size:=by intro af;rw[show Nat.blt off a.size=true by rw[zJ];exact af] at hb;cases hb
   simp only[Kind.size] at ho;have:=HD h3 h2 hv (by omega);refine⟨c1,c2.set (off-a.size) u,?_,h1,this⟩;rw[List.set_append_right _ _ (by omega),l1]
 |.i ik,off,v,u,x,y,row,h,hr,hv,ho=>by
  have:=QJ (k:=.i ik) h (show SRs P B pl tb [v] [u] by simp only[SRs];exact⟨_,[],rfl,hv,rfl⟩);have hl:=KC.length hr;simp only[Kind.size] at hl ho;obtain⟨c,rfl⟩:=xj.1 hl;obtain rfl:off=0:=by omega
  exact this
 |.bo,off,v,u,x,y,row,h,hr,hv,ho=>by
  have:=QJ (k:=.bo) h (show SRs P B pl tb [v] [u] by simp only[SRs];exact⟨_,[],rfl,hv,rfl⟩);have hl:=KC.length hr;simp only[Kind.size] at hl ho;obtain⟨c,rfl⟩:=xj.1 hl;obtain rfl:off=0:=by omega
  exact this
 |.st,off,v,u,x,y,row,h,hr,hv,ho=>by
  have:=QJ (k:=.st) h (show SRs P B pl tb [v] [u] by simp only[SRs];exact⟨_,[],rfl,hv,rfl⟩);have hl:=KC.length hr;simp only[Kind.size] at hl ho;obtain⟨c,rfl⟩:=xj.1 hl;obtain rfl:off=0:=by omega
  exact this
 |.list k,off,v,u,x,y,row,h,hr,hv,ho=>by
  have:=QJ (k:=.list k) h (show SRs P B pl tb [v] [u] by simp only[SRs];exact⟨_,[],rfl,hv,rfl⟩);have hl:=KC.length hr;simp only[Kind.size] at hl ho;obtain⟨c,rfl⟩:=xj.1 hl;obtain rfl:off=0:=by omega
  exact this
theorem GA {mk:MK}{kk vk:Kind}(hk:gq.mkOk mk kk=true) {key:kk.T}{x:vk.T}{kv xv:Value}{clock:Nat}(aP:KV B kk key kv) (hx:KV B vk x xv):∀ {m:List (kk.T×vk.T)}{es:List X1},MR B kk vk m es->MR B kk vk (Nf kk m key x) (QD kv xv clock es).1
 |[],es,h=>by simp only[MR] at h;subst h;exact⟨_,[],rfl,aP,hx,rfl⟩
 |m::ms,es,h=>by
  obtain⟨e,bS,rfl,h2,h3,h4⟩:=h;have hq:=Hv hk aP h2;simp only[QD,Nf,hq];cases gq.keq kk key m.1 with
  |true=>exact⟨_,bS,rfl,aP,hx,h4⟩
  |false=>exact⟨e,_,rfl,h2,h3,GA hk aP hx h4⟩
theorem BM (k v:Value) (clock:Nat):∀ es:List X1,((QD k v clock es).2=clock/\(QD k v clock es).1.map (λe=>e.2.2)=es.map λe=>e.2.2)\/((QD k v clock es).2=clock+1/\(QD k v clock es).1.map (λe=>e.2.2)=(es.map λe=>e.2.2)++[clock])
 |[]=>.inr ⟨rfl,rfl⟩
 |e::es=>by
  simp only[QD];split
  .exact .inl ⟨rfl,rfl⟩
  .rcases BM k v clock es with⟨h1,h2⟩|⟨h1,h2⟩
   .exact .inl ⟨h1,by simp[h2]⟩
   .exact .inr ⟨h1,by simp[h2]⟩
theorem SOk.put {es:List X1}{clock:Nat}(h:SOk es clock) {k v:Value}:SOk (QD k v clock es).1 (QD k v clock es).2:=by
 obtain⟨h1,h2⟩:=h;have mem:∀ (l:List X1) (x:Nat),x∈l.map (λe=>e.2.2)<->∃ e∈l,e.2.2=x:=λl x=>by simp
 rcases BM k v clock es with⟨e1,e2⟩|⟨e1,e2⟩
 .refine⟨by rw[e2];exact h1,λe he=>?_⟩;have:e.2.2∈es.map λe=>e.2.2:=by rw[<-e2];exact(mem _ _).2 ⟨e,he,rfl⟩
  obtain⟨e',k1,k2⟩:=(mem _ _).1 this;rw[e1,<-k2];exact h2 e' k1
 .refine⟨?_,λe he=>?_⟩
  .rw[e2,List.nodup_append];refine⟨h1,by simp,λa ha b hb=>?_⟩;obtain rfl:=zd.1 hb;obtain⟨e',k1,k2⟩:=(mem _ _).1 ha;have:=h2 e' k1;omega
  .have:e.2.2∈(es.map λe=>e.2.2)++[clock]:=by rw[<-e2];exact(mem _ _).2 ⟨e,he,rfl⟩
   rw[e1];rcases zz.1 this with h3|h3
   .obtain⟨e',k1,k2⟩:=(mem _ _).1 h3;have:=h2 e' k1;omega
   .have:=zd.1 h3;omega
theorem La {mk:MK}{kk vk:Kind}(hk:gq.mkOk mk kk=true) {key:kk.T}{kv:Value}(aP:KV B kk key kv):∀ {m:List (kk.T×vk.T)}{es:List X1},MR B kk vk m es->MR B kk vk (Q5q kk m key) (VM kv es)
 |[],es,h=>by simp only[MR] at h;subst h;rfl
 |m::ms,es,h=>by
  obtain⟨e,bS,rfl,h2,h3,h4⟩:=h;have hq:=Hv hk aP h2;simp only[VM,Q5q,hq];cases gq.keq kk key m.1 with
  |true=>exact h4
  |false=>exact⟨e,_,rfl,h2,h3,La hk aP h4⟩
theorem P0 (k:Value):∀ es:List X1,(VM k es).Sublist es
 |[]=>.slnil
 |e::es=>by
  simp only[VM];split
  .exact List.sublist_cons_self _ _
  .exact(P0 k es).cons_cons _
theorem SOk.del {es:List X1}{clock:Nat}(h:SOk es clock) {k:Value}:SOk (VM k es) clock :=
 ⟨h.1.sublist ((P0 k es).map _),λe he=>h.2 e ((P0 k es).subset he)⟩
def Fr (T:Nat) (s s':St) (pl pl':Nat->Value) (M M':Heap):Prop :=
 ∀ q,q≠T->(Qe s'.own q).live=(Qe s.own q).live/\pl' q=pl q/\((Qe s.own q).live=true->∀ i,Oid (pl q) i->M'.get i=M.get i)
theorem Ur (s:St) (d:Nat) (b:OB) {q:Nat}(hq:q≠d):(Qe (s.make d b).own q).live=(Qe s.own q).live:=by simp only[St.make,St.kill,Qr,Uu,z0 hq,OB.q0t]
theorem Gam.makeF {s:St}{env:Env}{M M':Heap}{pl:Nat->Value}(h:Gam P B F pl tb s env M) (d:Nat) (b:OB) (p:Value) (hle:F.Le M') (ho:∀ j i,j≠d->(Qe s.own j).live=true->Oid (pl j) i->M'.get i=M.get i)
  (hb:OR P B (X8 pl d p) tb M' p b) (hf:∀ i,b.live=true->Oid p i->F.get i=none/\∀ j,j≠d->(Qe s.own j).live=true->¬ Oid (pl j) i):Gam P B F (X8 pl d p) tb (s.make d b) env M'/\Fr d s (s.make d b) pl (X8 pl d p) M M' :=
 ⟨h.make d b p hle ho hb hf,λq hq=>⟨Ur s d b hq,by simp[X8,hq],λhl i hi=>ho q i hq hl hi⟩⟩
theorem Gam.writeF {s:St}{env:Env}{M M':Heap}{pl:Nat->Value}(h:Gam P B F pl tb s env M) (d:Nat) (b:OB) (hle:F.Le M') (aq:(Qe s.own d).live=true)
  (cP:∀ j i,j≠d->(Qe s.own j).live=true->Oid (pl j) i->M'.get i=M.get i) (hb:OR P B pl tb M' (pl d) b):Gam P B F pl tb ⟨s.env,oset s.own d b,s.nx⟩ env M'/\Fr d s ⟨s.env,oset s.own d b,s.nx⟩ pl pl M M' :=
 ⟨h.write d b hle aq cP hb,λq hq=>⟨by simp only[Qr,z0 hq],rfl,λhl i hi=>cP q i hq hl hi⟩⟩
theorem Gam.pushF {s:St}{env:Env}{M:Heap}{pl:Nat->Value}(h:Gam P B F pl tb s env M) (d:Nat) (b:OB) (p:Value) (blk:Blk) (hp:oid p=some M.n) (hb:OR P B (X8 pl d p) tb (M.push blk) p b):Gam P B F (X8 pl d p) tb (s.make d b) env (M.push blk)/\Fr d s (s.make d b) pl (X8 pl d p) M (M.push blk) :=
 ⟨h.push d b p blk hp hb,λq hq=>⟨Ur s d b hq,by simp[X8,hq],λhl i hi=>Heap.q0i _ _ ((h.obj q).q1a hl hi)⟩⟩
def NOk (P:Program) (B F:Heap) (tb:Nat->Option Bool) (o:VOp) (evV:Operand->Value) (env:Env) (M:Heap) (K:SV->St->Prop) (T:Nat) (s:St) (pl:Nat->Value):Prop :=
 ∃ u M' pl' v s',Qa o evV M=some (u,M')/\K v s'/\(Gam P B F pl' tb s' env M'/\Fr T s s' pl pl' M M')/\SR P B pl' tb v u
theorem WM (pl:Nat->Value) (d:Nat) (p:Value):X8 pl d p d=p:=by simp[X8]
section
variable {C:Cx}{d:Nat}{ev:Operand->SV}{evV:Operand->Value}{K:SV->St->Prop}
theorem Q2u (aj:∀ x,SR P B pl tb (ev x) (evV x)) (hG:Gam P B F pl tb s env M) {t:Nat}{z:List Value}(h:gn C d (.alloc t z) ev s K):NOk P B F tb (.alloc t z) evV env M K (QY d (.alloc t z) ev) s pl:=by
 have _hev:=aj;simp only[gn] at h;refine⟨.pointer (some ⟨M.n,0,none⟩),_,X8 pl d (.pointer (some ⟨M.n,0,none⟩)),_,_,rfl,h,hG.pushF d _ _ _ rfl ?_,?_⟩
 .refine⟨M.n,z,_,_,rfl,Heap.q0a _ _,?_,λy hy=>⟨osj hy,rfl⟩⟩;have hz:SRs P B (X8 pl d (.pointer (some ⟨M.n,0,none⟩))) tb (z.map cvp) (z.map id):=SRs.map λx _=>Hu x
  rwa [List.map_id] at hz
 .simp only[SR,WM];exact⟨_,rfl,rfl⟩
theorem Z44 (aj:∀ x,SR P B pl tb (ev x) (evV x)) (hG:Gam P B F pl tb s env M) {t:Nat}{x:Operand}(h:gn C d (.box t x) ev s K):NOk P B F tb (.box t x) evV env M K (QY d (.box t x) ev) s pl:=by
 simp only[gn] at h;split at h
 .rename_i l hl;obtain⟨c,h1,h2,_⟩:=K1 hl (aj x);refine⟨.pointer (some ⟨M.n,0,none⟩),M.push (.cells c ⟨c.length,t⟩ true true),X8 pl d (.pointer (some ⟨M.n,0,none⟩)),_,_,by simp only[Qa,h1],h,hG.pushF d _ _ _ rfl ?_,?_⟩
  .exact⟨M.n,c,_,_,rfl,Heap.q0a _ _,SRs.upd (Heap.Le.refl B) (λ_ _ h=>h) (λj hj=>by simp[X8,hj]) _ _ h2,λy hy=>⟨osj hy,rfl⟩⟩
  .simp only[SR,WM];exact⟨_,rfl,rfl⟩
 .cases h
theorem Pn (aj:∀ x,SR P B pl tb (ev x) (evV x)) {k:Kind}:∀ {ps:List (Nat×Operand)}{xs ys:List k.T}{c:List Value},A_ k ev ps xs=some ys->Rows (KC B k) xs c ->
  ys.length=xs.length/\∃ c',Mq c (ps.map λp=>(p.1*k.size,k.size,evV p.2))=some c'/\Rows (KC B k) ys c'
 |[],xs,ys,c,h,hr=>by obtain rfl:=osj h;exact⟨rfl,c,rfl,hr⟩
 |(j,x)::r,xs,ys,c,h,hr=>by
  simp only[A_] at h;split at h
  .rename_i l hl;split at h
   .rename_i y hy;split at h
    .rename_i hj;obtain⟨vs,h1,h2,_⟩:=K1 hl (aj x);have hk:=QJ hy h2;have hlen:=KC.length hk;have cz:=hr.length KC.q0h;have cj:(j+1)*k.size<=xs.length*k.size:=zD _ hj;rw[zN,xR] at cj;have aO:=hr.set KC.q0h hj hk;have e:KJ c (j*k.size) vs=c.take (j*k.size)++vs++c.drop (j*k.size+k.size):=by
      rw[HE (by omega),hlen]
     rw[<-e] at aO;obtain⟨h3,c',h4,h5⟩:=Pn aj h aO;refine⟨by rw[h3,xU],c',?_,h5⟩;simp only[zE,Mq,h1];rw[z3 ⟨hlen,by omega⟩];exact h4
    .cases h
   .cases h
  .cases h
theorem MP (aj:∀ x,SR P B pl tb (ev x) (evV x)) (hG:Gam P B F pl tb s env M) {e:El}{z:List Value}{n:Nat}{ps:List (Nat×Operand)}(h:gn C d (.buildSlice e z n ps) ev s K):NOk P B F tb (.buildSlice e z n ps) evV env M K (QY d (.buildSlice e z n ps) ev) s pl:=by
 simp only[gn] at h;split at h
 .rename_i k _;split at h
  .rename_i hc;obtain⟨aL,hz⟩:=hc;split at h
   .rename_i xs hx;have qH:KC B k k.dflt z:=K5 hz;have cY:Rows (KC B k) (List.replicate n k.dflt) (Ta n z):=by rw[UA];exact Rows.replicate qH n
    obtain⟨h3,c',h4,h5⟩:=Pn (B:=B) aj hx cY;rw[x_] at h3;have cz:=h5.length KC.q0h;refine⟨.slice (some ⟨M.n,0,none⟩) n n,M.push (.cells c' e true true),X8 pl d (.slice (some ⟨M.n,0,none⟩) n n),_,_,?_,h,hG.pushF d _ _ _ rfl ?_,?_⟩
    .simp only[Qa];rw[<-aL,h4]
    .refine .inr ⟨rfl,M.n,n,c',true,by rw[h3],by omega,?_,by rw[cz,h3];exact z7 _,?_⟩
     .rw[Heap.q0a,aL]
     .rw[zM (by omega)];exact h5
    .simp only[SR,WM];exact⟨trivial,_,_,_,rfl⟩
   .cases h
  .cases h
 .cases h
theorem Tv (aj:∀ x,SR P B pl tb (ev x) (evV x)) (hG:Gam P B F pl tb s env M) {e:El}{bytes:Nat}{z:List Value}{l c:Operand}(h:gn C d (.makeSlice e bytes z l c) ev s K):NOk P B F tb (.makeSlice e bytes z l c) evV env M K (QY d (.makeSlice e bytes z l c) ev) s pl:=by
 simp only[gn] at h;split at h
 .rename_i k k1 a k2 b _ h1 h2;have e1:=JE h1 (aj l);have e2:=JE h2 (aj c);split at h
  .rename_i hc;obtain⟨aL,hz⟩:=hc;simp only[Fk,Z2q] at h;obtain⟨k3,k4,k5,k6,h⟩:=h;have qH:KC B k k.dflt z:=K5 hz;have cY:Rows (KC B k) (List.replicate b.toNat k.dflt) (Ta b.toNat z):=by rw[UA];exact Rows.replicate qH _
   have cz:=cY.length KC.q0h;rw[x_] at cz;have ht:=cY.take KC.q0h a.toNat;rw[List.take_replicate,xX (by omega)] at ht;refine⟨.slice (some ⟨M.n,0,none⟩) a.toNat b.toNat,M.push (.cells (Ta b.toNat z) e true true),X8 pl d (.slice (some ⟨M.n,0,none⟩) a.toNat b.toNat),_,_,?_,h,hG.pushF d _ _ _ rfl ?_,?_⟩
   .simp only[Qa,e1,e2];rw[z3 ⟨k3,k4,by simpa using k5,by simpa using k6⟩]
   .refine .inr ⟨rfl,M.n,b.toNat,_,true,by rw[x_],by simp;omega,?_,by rw[cz];exact z7 _,?_⟩
    .rw[Heap.q0a,aL]
    .rw[x_];exact ht
   .simp only[SR,WM];exact⟨trivial,_,_,_,rfl⟩
  .cases h
 .cases h
theorem O1 (aj:∀ x,SR P B pl tb (ev x) (evV x)) (hG:Gam P B F pl tb s env M) {e:El}{bytes:Nat}{x y:Operand}(h:gn C d (.append e bytes x y) ev s K):NOk P B F tb (.append e bytes x y) evV env M K (QY d (.append e bytes x y) ev) s pl:=by
 have ha:=aj x;simp only[gn] at h;split at h
 .rename_i k _;split at h
  .rename_i ys hy;obtain⟨cs,ay,ud,aB,cZ,rX⟩:=(Us hG.leB hG.obj hy (aj y)).sl;have ai:cs.all cellOk=true:=cZ.cellOk;have cz:=cZ.length KC.q0h;split at h
   .rename_i hx;have hT:QY d (.append e bytes x y) ev=d:=by simp only[QY,hx]
    rw[hT];rw[hx] at ha;simp only[SR] at ha;split at h
    .rename_i aL;simp only[Fk,Z2q] at h;obtain⟨h1,h⟩:=h;rw[aL] at aB;have base:Qa (.append e bytes x y) evV M=Ke e bytes M (.slice none 0 0) ys.length cs:=by
      simp only[Qa,rX] at aB |-;simp only[aB,ai,zB,ha]
     by_cases hm:ys=[]
     .subst hm;refine⟨.slice none 0 0,M,X8 pl d (.slice none 0 0),_,_,by rw[base];rfl,h,?_,?_⟩
      .refine hG.makeF d _ _ hG.le (λj i _ _ _=>rfl) (.inl ⟨rfl,rfl,rfl⟩) λi _ hi=>by cases hi
      .simp only[SR,WM];exact⟨trivial,_,_,_,rfl⟩
     .have fl:ys.length≠0:=λe=>hm (zW.1 e);refine⟨.slice (some ⟨M.n,0,none⟩) ys.length ys.length,M.push (.cells cs e true false),X8 pl d (.slice (some ⟨M.n,0,none⟩) ys.length ys.length),_,_,?_,h,hG.pushF d _ _ _ rfl ?_,?_⟩
      .rw[base];simp only[Ke];rw[z0 fl,z3 (by simpa using h1)]
      .refine .inr ⟨Z8u hm,M.n,ys.length,cs,false,rfl,z7 _,?_,by omega,?_⟩
       .rw[Heap.q0a,aL]
       .rw[zM (by omega)];exact cZ
      .simp only[SR,WM];exact⟨trivial,_,_,_,rfl⟩
    .cases h
   .rename_i o hx;have hT:QY d (.append e bytes x y) ev=o:=by simp only[QY,hx]
    rw[hT];rw[hx] at ha;simp only[SR] at ha;have ao:=hG.obj o;split at h
    .rename_i ty k' xs nl ho;rw[ho] at ao;have aq:(Qe s.own o).live=true:=by rw[ho];rfl
     split at h
     .rename_i aL;obtain⟨j5,aL⟩:=aL;split at h
      .rename_i cG kF;obtain rfl:=Wy kF;obtain rfl:=Wu kF;simp only[Fk,Z2q] at h;obtain⟨h1,h⟩:=h;rw[aL] at aB;have base:Qa (.append e bytes x y) evV M=Ke e bytes M (pl o) ys.length cs:=by
        simp only[Qa,rX] at aB |-;simp only[aB,ai,zB,ha.1]
       have he:e=⟨k'.size,ty⟩:=by cases e;simp only at j5 aL;rw[j5,aL]
       rcases ao with⟨rfl,rfl,h3⟩|⟨rfl,i,cap,c,t,h3,h4,h5,h6,h7⟩
       .
        rw[h3] at base;by_cases hm:ys=[]
        .subst hm;refine⟨.slice none 0 0,M,X8 pl o (.slice none 0 0),_,_,by rw[base];rfl,h,?_,?_⟩
         .refine hG.makeF o _ _ hG.le (λj i _ _ _=>rfl) (.inl ⟨rfl,rfl,rfl⟩) λi _ hi=>by cases hi
         .simp only[SR,WM];exact⟨trivial,_,_,_,rfl⟩
        .have fl:ys.length≠0:=λe=>hm (zW.1 e);refine⟨.slice (some ⟨M.n,0,none⟩) ys.length ys.length,M.push (.cells cs e true false),X8 pl o (.slice (some ⟨M.n,0,none⟩) ys.length ys.length),_,_,?_,h,hG.pushF o _ _ _ rfl ?_,?_⟩
         .rw[base];simp only[Ke];rw[z0 fl,z3 (by simpa using h1)]
         .rw[xt];refine .inr ⟨J13 hm _,M.n,ys.length,cs,false,rfl,z7 _,?_,by omega,?_⟩
          .rw[Heap.q0a,he]
          .rw[zM (by omega)];exact cZ
         .simp only[SR,WM];exact⟨trivial,_,_,_,rfl⟩
       .rw[h3] at base;have k1:cG.length*k'.size<=cap*k'.size:=zD _ h4;have bh:F.get i=none:=hG.fresh o i aq (by rw[h3];rfl);have bj:∀ j i',j≠o->(Qe s.own j).live=true->Oid (pl j) i'->i'≠i:=λj i' hj hl hi e=>by
         subst e;exact hG.sep j o i' hj hl aq hi (by rw[h3];rfl)
        have ak:e=e/\cG.length<=cap/\0+cG.length*e.sz<=c.length:=⟨rfl,h4,by rw[<-aL];omega⟩;simp only[Ke,h5] at base;rw[<-he,z3 ak] at base;by_cases hm:ys=[]
        .subst hm;simp only[List.length_nil,zB] at base;refine⟨_,M,X8 pl o (pl o),_,_,base,h,?_,?_⟩
         .refine hG.makeF o _ _ hG.le (λj i _ _ _=>rfl) (.inr ⟨rfl,i,cap,c,t,?_,?_,h5,h6,?_⟩) λi' _ hi=>?_
          .rw[h3];simp
          .simpa using h4
          .simpa using h7
          .rw[h3] at hi;obtain rfl:=osj hi;exact⟨bh,λj hj hl e=>bj j _ hj hl e rfl⟩
         .simp only[SR,WM,h3];exact⟨trivial,_,_,_,rfl⟩
        .have fl:ys.length≠0:=λe=>hm (zW.1 e);have j_:(ys.isEmpty&&false)=false:=by simp
         have pz:Rows (KC B k') (cG++ys) (c.take (cG.length*k'.size)++cs):=h7.append cZ;have df:=pz.length KC.q0h;rw[z0 fl] at base;by_cases aY:cG.length+ys.length<=cap
         .have fI:(cG.length+ys.length)*k'.size<=cap*k'.size:=zD _ aY;have dR:cG.length*k'.size+ys.length*k'.size<=cap*k'.size:=by rw[<-zN];exact fI
          rw[z3 aY,z3 ⟨trivial,by rw[<-aL];omega⟩] at base;refine⟨_,_,X8 pl o (.slice (some ⟨i,0,none⟩) (cG.length+ys.length) cap),_,_,base,h,?_,?_⟩
          .refine hG.makeF o _ _ (hG.le.upd bh _) (λj i' hj hl hi=>Heap.q0b _ _ (bj j i' hj hl hi)) (.inr ⟨j_,i,cap,KJ c (0+cG.length*e.sz) cs,t,by rw[zH],by rw[zH];exact aY,?_,?_,?_⟩) λi' _ hi=>?_
           .rw[Heap.q0d _ _ (M.lt h5),he]
           .rw[YA];exact h6
           .have eR:0+cG.length*e.sz+cs.length<=c.length:=by rw[<-aL];omega
            rw[HE eR,<-aL,xh,List.take_left' (by rw[df])];exact pz
           .obtain rfl:=osj hi;exact⟨bh,λj hj hl e=>bj j _ hj hl e rfl⟩
          .simp only[SR,WM];exact⟨trivial,_,_,_,rfl⟩
         .rw[z0 aY,z3 (by simpa using h1)] at base;have jG:((c.drop 0).take (cG.length*e.sz)++cs)=c.take (cG.length*k'.size)++cs:=by rw[xg,aL]
          cases t with
          |true =>
           simp only[zB] at base;rw[jG] at base;refine⟨_,_,X8 pl o (.slice (some ⟨M.n,0,none⟩) (cG.length+ys.length) (cG.length+ys.length)),_,_,base,h,hG.pushF o _ _ _ rfl (.inr ⟨j_,M.n,cG.length+ys.length,c.take (cG.length*k'.size)++cs,false,by rw[zH],by rw[zH];exact z7 _,?_,?_,?_⟩),?_⟩
           .rw[Heap.q0a,he]
           .rw[df,zH];exact z7 _
           .rw[zM (by rw[df];exact z7 _)];exact pz
           .simp only[SR,WM];exact⟨trivial,_,_,_,rfl⟩
          |false =>
           simp only[zy,if_false,zB] at base;rw[jG] at base;have hn:(M.kill i).n=M.n:=rfl;refine⟨_,_,X8 pl o (.slice (some ⟨M.n,0,none⟩) (cG.length+ys.length) (cG.length+ys.length)),_,_,base,h,?_,?_⟩
           .refine hG.makeF o _ _ ((hG.le.kill bh).push _) (λj i' hj hl hi=>?_) (.inr ⟨j_,M.n,cG.length+ys.length,c.take (cG.length*k'.size)++cs,false,by rw[zH],by rw[zH];exact z7 _,?_,?_,?_⟩) λi' _ hi=>?_
            .rw[Heap.q0i _ _ (by rw[hn];exact(hG.obj j).q1a hl hi)];exact Heap.q0c _ (bj j i' hj hl hi)
            .rw[<-hn,Heap.q0a,he]
            .rw[df,zH];exact z7 _
            .rw[zM (by rw[df];exact z7 _)];exact pz
            .obtain rfl:=osj hi;exact⟨hG.le.fresh,λj _ hl e=>wz M.n ((hG.obj j).q1a hl e)⟩
           .simp only[SR,WM];exact⟨trivial,_,_,_,rfl⟩
      .cases h
     .cases h
    .cases h
   .cases h
  .cases h
 .cases h
theorem Q41 (aj:∀ x,SR P B pl tb (ev x) (evV x)) (hG:Gam P B F pl tb s env M) {size:Nat}{a x:Operand}(h:gn C d (.store size a x) ev s K):NOk P B F tb (.store size a x) evV env M K (QY d (.store size a x) ev) s pl:=by
 have ha:=aj a;simp only[gn] at h;split at h
 .rename_i o off vs h1 h2;have hT:QY d (.store size a x) ev=o:=by simp only[QY,h1]
  rw[hT];obtain⟨us,h3,h4,h5⟩:=K1 h2 (aj x);rw[h1] at ha;simp only[SR] at ha;obtain⟨b,h6,h7⟩:=ha;have ao:=hG.obj o;split at h
  .rename_i l u ho;rw[ho] at ao;have aq:(Qe s.own o).live=true:=by rw[ho];rfl
   obtain⟨i,c,e,t,h8,h9,b7,gK⟩:=ao;rw[h6] at h8;obtain rfl:=(by simpa using h8:b=i);split at h
   .rename_i hc;have bh:F.get b=none:=hG.fresh o b aq (by rw[h6];rfl);have bj:∀ j i',j≠o->(Qe s.own j).live=true->Oid (pl j) i'->i'≠b:=λj i' hj hl hi e=>by
     subst e;exact hG.sep j o i' hj hl aq hi (by rw[h6];rfl)
    refine⟨undef,M.upd b (.cells (KJ c off us) e true t),pl,_,_,?_,h,hG.writeF o _ (hG.le.upd bh _) aq (λj i' hj hl hi=>Heap.q0b _ _ (bj j i' hj hl hi)) ?_,by simp[SR]⟩
    .simp only[Qa,h7,h3,h9];rw[z3 ⟨trivial,by rw[<-h4.length];exact hc.1,by rw[<-b7.length];exact hc.2,h5⟩]
    .exact⟨b,_,e,t,h6,Heap.q0d _ _ (M.lt h9),HX b7 h4,gK⟩
   .cases h
  .cases h
 .rename_i o i off sz vs h1 h2;have hT:QY d (.store size a x) ev=o:=by simp only[QY,h1]
  rw[hT];obtain⟨us,h3,h4,h5⟩:=K1 h2 (aj x);rw[h1] at ha;simp only[SR] at ha;obtain⟨b,len,cap,h6,h7,h8,h9⟩:=ha;have ao:=hG.obj o;split at h
  .rename_i ty k xs nl ho;rw[ho] at ao;have aq:(Qe s.own o).live=true:=by rw[ho];rfl
   rcases ao with⟨_,_,k3⟩|⟨rfl,i',av,c,t,k3,k4,k5,k6,k7⟩
   .rw[h6] at k3;cases k3
   .rw[h6] at k3;obtain⟨rfl,rfl,rfl⟩:=(by simpa using k3:b=i'/\len=xs.length/\cap=av);have bh:F.get b=none:=hG.fresh o b aq (by rw[h6];rfl);have bj:∀ j i',j≠o->(Qe s.own j).live=true->Oid (pl j) i'->i'≠b:=λj i' hj hl hi e=>by
     subst e;exact hG.sep j o i' hj hl aq hi (by rw[h6];rfl)
    have hi:i.toNat<xs.length:=by omega
    have aL:(i.toNat+1)*k.size<=xs.length*k.size:=zD _ hi;rw[zN,xR] at aL;have k8:=zD k.size k4
    have fin:∀ (y:k.T) (us:List Value) (dE:Nat),dE+us.length<=k.size->KC B k y (KJ (((c.take (xs.length*k.size)).drop (i.toNat*k.size)).take k.size) dE us) ->
      Gam P B F pl tb ⟨s.env,oset s.own o (.lst ty k (xs.set i.toNat y) false),s.nx⟩ env (M.upd b (.cells (KJ c (i.toNat*k.size+dE) us) ⟨k.size,ty⟩ true t))/\Fr o s ⟨s.env,oset s.own o (.lst ty k (xs.set i.toNat y) false),s.nx⟩ pl pl M (M.upd b (.cells (KJ c (i.toNat*k.size+dE) us) ⟨k.size,ty⟩ true t)):=by
     intro y us dE n_ hk;refine hG.writeF o _ (hG.le.upd bh _) aq (λj i' hj hl hi=>Heap.q0b _ _ (bj j i' hj hl hi)) (.inr ⟨rfl,b,cap,KJ c (i.toNat*k.size+dE) us,t,by rw[h6];simp,by simpa using k4,Heap.q0d _ _ (M.lt k5),by rw[YA];exact k6,?_⟩);have aO:=k7.set KC.q0h hi hk;rw[xU];rw[Q70 us c (m:=xs.length*k.size) (p:=i.toNat*k.size) (n:=k.size) (off:=dE) n_ aL (by omega)];exact aO
    have cY:=k7.at KC.q0h hi;have df:=KC.length cY;split at h
    .rename_i hc;obtain⟨rfl,rfl,rfl⟩:=hc;split at h
     .rename_i y hy;have hk:=QJ hy h4;have hl:=KC.length hk;refine⟨undef,M.upd b (.cells (KJ c (i.toNat*k.size+0) us) ⟨k.size,ty⟩ true t),pl,_,_,?_,h,fin y us 0 (by omega) ?_,by simp[SR]⟩
      .simp only[Qa,h9,h3,k5];rw[z3 ⟨trivial,hl,by omega,h5⟩]
      .rw[HE (by omega),xh,wx,xt,List.drop_of_length_le (by omega),xy];exact hk
     .cases h
    .split at h
     .rename_i hc;obtain⟨rfl,rY,rfl,a8⟩:=hc;split at h
      .rename_i y hy;obtain⟨v0,rfl⟩:∃ v0,vs=[v0]:=by
        cases vs with
        |nil=>cases rY
        |cons a r=>cases r with
         |nil=>exact⟨a,rfl⟩
         |cons _ _=>simp at rY
       obtain⟨u0,rfl,uf⟩:=h4.one;have hx:xs.getD i.toNat k.dflt=xs[i.toNat]:=by simp[z6,z5 hi]
       rw[hx] at hy;refine⟨undef,M.upd b (.cells (KJ c (i.toNat*k.size+off) [u0]) ⟨k.size,ty⟩ true t),pl,_,_,?_,h,fin y [u0] off (by simp;omega) (HD hy cY uf a8),by simp[SR]⟩;simp only[Qa,h9,h3,k5];rw[z3 ⟨trivial,rfl,by omega,h5⟩]
      .cases h
     .cases h
  .cases h
 .cases h
theorem Tx (aj:∀ x,SR P B pl tb (ev x) (evV x)) (hG:Gam P B F pl tb s env M) {mk:MK}{m kx vx:Operand}(h:gn C d (.ext (.mapUpdate mk m kx vx)) ev s K):NOk P B F tb (.ext (.mapUpdate mk m kx vx)) evV env M K (QY d (.ext (.mapUpdate mk m kx vx)) ev) s pl:=by
 have ha:=aj m;simp only[gn] at h;split at h
 .rename_i o h1;have hT:QY d (.ext (.mapUpdate mk m kx vx)) ev=o:=by simp only[QY,h1]
  rw[hT];rw[h1] at ha;simp only[SR] at ha;have ao:=hG.obj o;split at h
  .rename_i kk vk l ho;rw[ho] at ao;have aq:(Qe s.own o).live=true:=by rw[ho];rfl
   obtain⟨id,es,clock,h2,h3,h4⟩:=ao;split at h
   .rename_i hc;have b6:=hc;split at h
    .rename_i key x aP hx;have hk:=UP aP (aj kx) QJ;have hv:=UP hx (aj vx) QJ;have bh:F.get id=none:=hG.fresh o id aq (by rw[h2];rfl);have bj:∀ j i',j≠o->(Qe s.own j).live=true->Oid (pl j) i'->i'≠id:=λj i' hj hl hi e=>by
      subst e;exact hG.sep j o i' hj hl aq hi (by rw[h2];rfl)
     have aG:M.mapAt id=some (es,clock,true):=by simp[Heap.mapAt,h3]
     refine⟨undef,M.upd id (.obj (.map (QD (evV kx) (evV vx) clock es).1 (QD (evV kx) (evV vx) clock es).2) true),pl,_,_,?_,h,hG.writeF o _ (hG.le.upd bh _) aq (λj i' hj hl hi=>Heap.q0b _ _ (bj j i' hj hl hi)) ?_,by simp[SR]⟩
     .simp only[Qa,ZL,ha.1,h2,aG];rw[z3 (by rw[Nt b6 hk,h4.1.keys b6];rfl)]
     .exact⟨id,_,_,h2,Heap.q0d _ _ (M.lt h3),GA b6 hk hv h4.1,h4.2.put⟩
    .cases h
   .cases h
  .cases h
 .cases h
theorem Oj (aj:∀ x,SR P B pl tb (ev x) (evV x)) (hG:Gam P B F pl tb s env M) {mk:MK}{m kx:Operand}(h:gn C d (.ext (.delete mk m kx)) ev s K):NOk P B F tb (.ext (.delete mk m kx)) evV env M K (QY d (.ext (.delete mk m kx)) ev) s pl:=by
 have ha:=aj m;simp only[gn] at h;split at h
 .rename_i o h1;have hT:QY d (.ext (.delete mk m kx)) ev=o:=by simp only[QY,h1]
  rw[hT];rw[h1] at ha;simp only[SR] at ha;have ao:=hG.obj o;split at h
  .rename_i kk vk l ho;rw[ho] at ao;have aq:(Qe s.own o).live=true:=by rw[ho];rfl
   obtain⟨id,es,clock,h2,h3,h4⟩:=ao;split at h
   .rename_i b6;split at h
    .rename_i key aP;have hk:=UP aP (aj kx) QJ;have bh:F.get id=none:=hG.fresh o id aq (by rw[h2];rfl);have bj:∀ j i',j≠o->(Qe s.own j).live=true->Oid (pl j) i'->i'≠id:=λj i' hj hl hi e=>by
      subst e;exact hG.sep j o i' hj hl aq hi (by rw[h2];rfl)
     have aG:M.mapAt id=some (es,clock,true):=by simp[Heap.mapAt,h3]
     refine⟨.tuple #[],M.upd id (.obj (.map (VM (evV kx) es) clock) true),pl,_,_,?_,h,hG.writeF o _ (hG.le.upd bh _) aq (λj i' hj hl hi=>Heap.q0b _ _ (bj j i' hj hl hi)) ?_,by simp[SR]⟩
     .simp only[Qa,ZL,ha.1,h2,aG];rw[z3 (by rw[Nt b6 hk,h4.1.keys b6];rfl)]
     .exact⟨id,_,_,h2,Heap.q0d _ _ (M.lt h3),La b6 hk h4.1,h4.2.del⟩
    .cases h
   .cases h
  .cases h
 .cases h
theorem Iq {mk:MK}{kk:Kind}(hk:gq.mkP mk kk=true) (x:kk.T):gq.keq kk x x=true:=by
 unfold gq.mkP at hk;split at hk
 .simp[gq.keq]
 .simp[gq.keq]
 .simp[gq.keq]
 .cases hk
theorem Rl:∀ {k:Kind}{l r:List MK},gq.mkAt k l=some r->∀ x:k.T,gq.keq k x x=true
 |.pair a b,l,r,hk,x=>by
  simp only[gq.mkAt] at hk;split at hk
  .rename_i q hq;simp only[gq.keq,Rl hq,Rl hk,Bool.and_self]
  .cases hk
 |.i _,m::l,r,hk,x|.bo,m::l,r,hk,x|.st,m::l,r,hk,x|.list _,m::l,r,hk,x=>by
  simp only[gq.mkAt] at hk;cases hp:gq.mkP m _ with
  |false=>rw[hp] at hk;cases hk
  |true=>exact Iq hp x
 |.i _,[],r,hk,x|.bo,[],r,hk,x|.st,[],r,hk,x|.list _,[],r,hk,x=>by cases hk
theorem Q36 {mk:MK}{kk:Kind}(hk:gq.mkOk mk kk=true) (x:kk.T):gq.keq kk x x=true:=by
 unfold gq.mkOk at hk;cases ho:kk.one with
 |true=>rw[ho] at hk;exact Iq hk x
 |false =>
  rw[ho] at hk;simp only[zQ] at hk;split at hk
  .split at hk
   .rename_i hr;exact Rl hr x
   .cases hk
  .cases hk
theorem Ca {k v:Value}(hk:Wf k k=true) (clock:Nat):∀ es:List X1,Qo k (QD k v clock es).1=some (k,v,match Qo k es with|some e=>e.2.2|none=>clock)
 |[]=>by simp[QD,Qo,hk]
 |e::es=>by
  simp only[QD,Qo];cases he:Wf k e.1 with
  |true=>simp[Qo,hk]
  |false =>simp only[zy,if_false,Qo,he];exact Ca hk clock es
theorem Ac {k v:Value}{clock:Nat}:∀ {es:List X1}{e:X1},Qo k es=some e->∃ j:Nat,es[j]?=some e/\QD k v clock es=(es.set j (k,v,e.2.2),clock)
 |[],e,h=>by cases h
 |a::es,e,h=>by
  simp only[Qo] at h;split at h
  .rename_i he;obtain rfl:=osj h;exact⟨0,rfl,by simp[QD,he]⟩
  .rename_i he;obtain⟨j,h1,h2⟩:=Ac (v:=v) (clock:=clock) h;exact⟨j+1,by simpa using h1,by simp[QD,he,h2]⟩
theorem R9 (aj:∀ x,SR P B pl tb (ev x) (evV x)) (hG:Gam P B F pl tb s env M) {mk:MK}{z:Value}{m kx:Operand}(h:gn C d (.ext (.mapEntry mk z m kx)) ev s K):∃ u M' v s' T kv aV i es c,T=QY d (.ext (.mapEntry mk z m kx)) ev/\Qa (.ext (.mapEntry mk z m kx)) evV M=some (u,M')/\K v s'/\(Gam P B F pl tb s' env M'/\Fr T s s' pl pl M M')/\SR P B pl tb v u /\
  (Qe s'.own T).live=true/\pl T=.map (some i)/\M.get i=some (.obj (.map es c) true)/\M'.get i=some (.obj (.map (QD kv aV c es).1 (QD kv aV c es).2) true)/\ZO mk kv=true/\es.all (λe=>ZO mk e.1)=true/\aV=(match Qo kv es with|some e=>e.2.1|none=>z):=by
 have ha:=aj m;simp only[gn] at h;split at h
 .rename_i o h1;have hT:QY d (.ext (.mapEntry mk z m kx)) ev=o:=by simp only[QY,h1]
  rw[h1] at ha;simp only[SR] at ha;have ao:=hG.obj o;split at h
  .rename_i kk vk l ho;rw[ho] at ao;have aq:(Qe s.own o).live=true:=by rw[ho];rfl
   obtain⟨id,es,clock,h2,h3,h4⟩:=ao;split at h
   .rename_i hc;obtain⟨b6,qI⟩:=hc;split at h
    .rename_i key aP;have hk:=UP aP (aj kx) QJ;have hz:KV B vk vk.dflt z:=Ph qI;have bh:F.get id=none:=hG.fresh o id aq (by rw[h2];rfl);have bj:∀ j i',j≠o->(Qe s.own j).live=true->Oid (pl j) i'->i'≠id:=λj i' hj hl hi e=>by
      subst e;exact hG.sep j o i' hj hl aq hi (by rw[h2];rfl)
     have aG:M.mapAt id=some (es,clock,true):=by simp[Heap.mapAt,h3]
     have rZ:Wf (evV kx) (evV kx)=true:=by rw[Hv b6 hk hk];exact Q36 b6 key
     obtain⟨aV,n,hold,fT⟩:∃ (aV:Value) (n:Nat),KV B vk (gq.aget kk l key vk.dflt) aV/\Qa (.ext (.mapEntry mk z m kx)) evV M=some (.tuple #[aV,.int .i64 n],M.upd id (.obj (.map (QD (evV kx) aV clock es).1 (QD (evV kx) aV clock es).2) true))/\Qo (evV kx) (QD (evV kx) aV clock es).1=some (evV kx,aV,n)/\aV=(match Qo (evV kx) es with|some e=>e.2.1|none=>z):=by
      rcases MR.find b6 hk hz h4.1 with⟨e,k1,_,k3⟩|⟨k1,_,k3⟩
      .refine⟨e.2.1,e.2.2,k3,?_,?_,by rw[k1]⟩
       .simp only[Qa,ZL,ha.1,h2,aG];rw[z3 (by rw[Nt b6 hk,h4.1.keys b6];rfl),k1]
       .rw[Ca rZ,k1]
      .refine⟨z,clock,by rw[k3];exact hz,?_,?_,by rw[k1]⟩
       .simp only[Qa,ZL,ha.1,h2,aG];rw[z3 (by rw[Nt b6 hk,h4.1.keys b6];rfl),k1]
       .rw[Ca rZ,k1]
     obtain⟨fT,cU,oa⟩:=fT;obtain⟨r,hr,_⟩:=Ac (v:=aV) (clock:=clock) cU;refine⟨_,_,_,_,o,evV kx,aV,id,es,clock,hT.symm,fT,h n,hG.writeF o _ (hG.le.upd bh _) aq (λj i' hj hl hi=>Heap.q0b _ _ (bj j i' hj hl hi)) ?_,?_,by simp[Qr,OB.live],h2,h3,Heap.q0d _ _ (M.lt h3),Nt b6 hk,h4.1.keys b6,oa⟩
     .exact⟨id,_,_,r,_,h2,Heap.q0d _ _ (M.lt h3),⟨GA b6 hk hold h4.1,h4.2.put⟩,hr,hk,cU,rfl,mk,b6⟩
     .simp only[SR,SRs];exact⟨_,rfl,_,_,rfl,XL hold,_,_,rfl,by simp[KC],rfl⟩
    .cases h
   .cases h
  .cases h
 .cases h
theorem Lp (aj:∀ x,SR P B pl tb (ev x) (evV x)) (hG:Gam P B F pl tb s env M) {mk:MK}{z:Value}{m kx:Operand}(h:gn C d (.ext (.mapEntry mk z m kx)) ev s K):NOk P B F tb (.ext (.mapEntry mk z m kx)) evV env M K (QY d (.ext (.mapEntry mk z m kx)) ev) s pl:=by obtain⟨u,M',v,s',T,kv,aV,i,es,c,rfl,h1,h2,h3,h4,_⟩:=R9 aj hG h;exact⟨u,M',pl,v,s',h1,h2,h3,h4⟩
theorem Pj (aj:∀ x,SR P B pl tb (ev x) (evV x)) (hG:Gam P B F pl tb s env M) {m st vx:Operand}(h:gn C d (.ext (.entryStore m st vx)) ev s K):NOk P B F tb (.ext (.entryStore m st vx)) evV env M K (QY d (.ext (.entryStore m st vx)) ev) s pl:=by
 have ha:=aj m;simp only[gn] at h;split at h
 .rename_i o h1;have hT:QY d (.ext (.entryStore m st vx)) ev=o:=by simp only[QY,h1]
  rw[hT];rw[h1] at ha;simp only[SR] at ha;have ao:=hG.obj o;split at h
  .rename_i kk vk l key n ho;rw[ho] at ao;have aq:(Qe s.own o).live=true:=by rw[ho];rfl
   obtain⟨id,es,clock,r,e,h2,h3,h4,h5,h6,h7,h8,mk,b6⟩:=ao;split at h
   .rename_i n' x a_ hx;obtain⟨rfl,h⟩:=h;have ug:=JE a_ (aj st);have hv:=UP hx (aj vx) QJ;have bh:F.get id=none:=hG.fresh o id aq (by rw[h2];rfl);have bj:∀ j i',j≠o->(Qe s.own j).live=true->Oid (pl j) i'->i'≠id:=λj i' hj hl hi e=>by
     subst e;exact hG.sep j o i' hj hl aq hi (by rw[h2];rfl)
    have aG:M.mapAt id=some (es,clock,true):=by simp[Heap.mapAt,h3]
    obtain⟨q,hq,bT⟩:=Ac (v:=evV vx) (clock:=clock) h7;obtain rfl:q=r:=Br h4.2 hq h5 rfl;have jj:es.findIdx? (λa=>(a.2.2:Int)==n')=some q:=by
     obtain⟨mK,heq⟩:=z9.1 hq;rw[List.findIdx?_eq_some_iff_getElem];refine⟨mK,by rw[heq,h8];simp,λj hj=>?_⟩;have cj:j<es.length:=by omega
     cases hb:((es[j].2.2:Int)==n') with
     |false=>simp
     |true =>
      have:es[j].2.2=e.2.2:=by have:=eq_of_beq hb;omega
      have:=Br h4.2 (z5 cj) hq this;omega
    refine⟨undef,M.upd id (.obj (.map (es.set q (e.1,evV vx,e.2.2)) clock) true),pl,_,_,?_,h,hG.writeF o _ (hG.le.upd bh _) aq (λj i' hj hl hi=>Heap.q0b _ _ (bj j i' hj hl hi)) ?_,by simp[SR]⟩
    .simp only[Qa,ZL,ha.1,h2,ug,aG,jj,hq]
    .refine⟨id,_,_,h2,Heap.q0d _ _ (M.lt h3),?_⟩;have e1:=congrArg (λx:List X1×Nat=>x.1) bT;have e2:=congrArg (λx:List X1×Nat=>x.2) bT;simp only at e1 e2;have k1:=GA (clock:=clock) b6 h6 hv h4.1;have k2:=h4.2.put (k:=e.1) (v:=evV vx);rw[e1] at k1 k2;rw[e2] at k2;exact⟨k1,k2⟩
   .cases h
  .cases h
 .cases h
end
theorem Q4w (hG:Gam P B F pl tb s env M) (d:Nat) (kk vk:Kind):Gam P B F (X8 pl d (.map (some M.n))) tb (s.make d (.map kk vk [])) env (M.push (.obj (.map [] 0) true))/\SR P B (X8 pl d (.map (some M.n))) tb (.map d) (.map (some M.n)):=by refine⟨hG.push d _ _ _ rfl ⟨M.n,[],0,rfl,Heap.q0a _ _,rfl,List.nodup_nil,λ_ h=>by cases h⟩,?_⟩;simp only[SR,WM];exact⟨trivial,_,rfl⟩
end
end Go.V
namespace Go.V
open Go
def Q6v (ρ1 ρ2:Plc):Prop:=∀ i p2,ρ2 i=some p2->∃ p1,ρ1 i=some p1/\p2.blk=p1.blk/\p2.shift=p1.shift/\p2.ext=p1.ext/\p2.esz=p1.esz/\(p2.tight=true->p1.tight=true)
theorem VRel.loose {ρ1 ρ2:Plc}{n:Nat}(hl:Q6v ρ1 ρ2) {v c:Value}(h:VRel ρ1 n v c):VRel ρ2 n v c:=by
 induction h with
 |poison c=>exact .poison c
 |bool b=>exact .bool b
 |int k x=>exact .int k x
 |string s=>exact .string s
 |nilPtr=>exact .nilPtr
 |nilSl=>exact .nilSl
 |nilMap=>exact .nilMap
 |nilFunc=>exact .nilFunc
 |nilIface=>exact .nilIface
 |glob g o s=>exact .glob g o s
 |ptr i o a hi h =>refine .ptr i o a hi λp hp=>?_;obtain⟨p1,h1,h2,h3,_⟩:=hl i p hp;rw[h2,h3];exact h p1 h1
 |sl i o len cap a av hi h =>refine .sl i o len cap a av hi λp hp=>?_;obtain⟨p1,h1,h2,h3,h4,h5,h6⟩:=hl i p hp;obtain⟨k1,k2,k3⟩:=h p1 h1;rw[h2,h3,h4,h5];exact⟨k1,λht=>k2 (h6 ht),k3⟩
 |slx i o len cap a hi h =>refine .slx i o len cap a hi λp hp=>?_;obtain⟨p1,h1,h2,h3,h4,h5,h6⟩:=hl i p hp;rw[h2,h3,h4,h5];exact h p1 h1
 |map i r hi h =>refine .map i r hi λp hp=>?_;obtain⟨p1,h1,h2,_⟩:=hl i p hp;rw[h2];exact h p1 h1
 |yield i r hi h =>refine .yield i r hi λp hp=>?_;obtain⟨p1,h1,h2,_⟩:=hl i p hp;rw[h2];exact h p1 h1
 |iface t v c _ ih=>exact .iface t v c ih
 |func fn fs gs cs ds hf hc _ _ kW kX=>exact .func fn fs gs cs ds hf hc kW kX
 |agg cs ds hc _ ih=>exact .agg cs ds hc ih
 |tuple cs ds hc _ ih=>exact .tuple cs ds hc ih
theorem LRel.loose {ρ1 ρ2:Plc}{n:Nat}(hl:Q6v ρ1 ρ2) {v c:List Value}(h:LRel ρ1 n v c):LRel ρ2 n v c:=⟨h.1,λi a b h1 h2=>(h.2 i a b h1 h2).loose hl⟩
theorem ORel.loose {ρ1 ρ2:Plc}{n:Nat}(hl:Q6v ρ1 ρ2) {o:VObj}{O:Obj}(h:ORel ρ1 n o O):ORel ρ2 n o O:=by
 cases o with
 |map es clock =>obtain⟨entries,h1,h2,h3⟩:=h;exact⟨entries,h1,h2,λk kv hk=>let ⟨e,he,h4,h5,hv⟩:=h3 k kv hk;⟨e,he,h4,h5,hv.loose hl⟩⟩
 |iter m since seen last=>obtain⟨rm,h1,h2⟩:=h;exact⟨rm,h1,h2.loose hl⟩
 |lp env r st pend=>exact⟨h.1,h.2.loose hl⟩
inductive Weak (n0:Nat->Prop):Value->Value->Prop
 |refl (v:Value):Weak n0 v v
 |sl (i len cap:Nat) (hi:n0 i) (hc:len<=cap):Weak n0 (.slice (some ⟨i,0,none⟩) len cap) (.slice (some ⟨i,0,none⟩) len len)
 |agg (cs ds:List Value) (hc:cs.length=ds.length) (h:∀ (i:Nat) (a b:Value),cs[i]?=some a->ds[i]?=some b->Weak n0 a b):Weak n0 (.agg cs.toArray) (.agg ds.toArray)
 |tuple (cs ds:List Value) (hc:cs.length=ds.length) (h:∀ (i:Nat) (a b:Value),cs[i]?=some a->ds[i]?=some b->Weak n0 a b):Weak n0 (.tuple cs.toArray) (.tuple ds.toArray)
theorem Weak.rel {ρ:Plc}{n:Nat}{n0:Nat->Prop}(hρ:∀ i p,n0 i->ρ i=some p->p.tight=false) {v v':Value}(h:Weak n0 v v'):∀ {c:Value},VRel ρ n v c->VRel ρ n v' c:=by
 induction h with
 |refl v=>exactλh=>h
 |sl i len cap hi hc =>
  intro c h;cases h with
  |sl _ _ _ _ a av cD h =>
   refine .sl _ _ _ _ _ _ cD λp hp=>?_;obtain⟨k1,k2,o',k3,k4,k5⟩:=h p hp;refine⟨by omega,(λht=>by rw[hρ i p hi hp] at ht;cases ht),o',k3,k4,?_⟩;rcases k5 with k5|k5
   .exact .inl k5
   .exact .inr ⟨k5.1,k5.1⟩
 |agg cs ds hc h ih =>
  intro c hr;cases hr with
  |agg _ es cM hr =>
   refine .agg _ _ (by simpa [hc] using cM) λi h1 h2=>?_;have l1:i<cs.length:=by simpa [hc] using h1
   have l2:i<ds.length:=by simpa using h1
   have:=ih i cs[i] ds[i] (z5 l1) (z5 l2) (hr i (by simpa using l1) h2);simpa using this
 |tuple cs ds hc h ih =>
  intro c hr;cases hr with
  |tuple _ es cM hr =>
   refine .tuple _ _ (by simpa [hc] using cM) λi h1 h2=>?_;have l1:i<cs.length:=by simpa [hc] using h1
   have l2:i<ds.length:=by simpa using h1
   have:=ih i cs[i] ds[i] (z5 l1) (z5 l2) (hr i (by simpa using l1) h2);simpa using this
theorem DropTo.trans {σ0 σ1 M2 σ3:Heap}{v1 v2 v3:Value}(h:DropTo σ0 v1 σ1 v2 M2) (k:DropTo σ0 v2 M2 v3 σ3):DropTo σ0 v1 σ1 v3 σ3:=by intro ρ0 w0 ρ w c fU hE hH hv;obtain⟨ρ',gi,gu,bX⟩:=h ρ0 w0 ρ w c fU hE hH hv;exact k ρ0 w0 ρ' w c fU bX gu gi
theorem DropTo.weaken {σ0 σ1 M2:Heap}{v v':Value}(S:Nat->Bool) (hS:∀ i,S i=true->σ0.n<=i) (hn:M2.n=σ1.n) (h0:σ0.n<=σ1.n) (h1:∀ i,S i=false->M2.get i=σ1.get i)
  (h2:∀ i,S i=true->∃ c e wr t m,σ1.get i=some (.cells c e wr t)/\M2.get i=some (.cells (c.take m) e wr false)) (hv:Weak (λi=>S i=true) v v'):DropTo σ0 v σ1 v' M2:=by
 intro ρ0 w0 ρ w c fU hE hH eF;let ρ':Plc:=λi=>if S i=false then ρ i else (ρ i).map λp=>{p with tight:=false}
 have hl:Q6v ρ ρ':=λi p2 hp=>by
  change (if S i=false then ρ i else (ρ i).map λp=>{p with tight:=false})=some p2 at hp;by_cases hi:S i=false
  .rw[z3 hi] at hp;exact⟨p2,hp,rfl,rfl,rfl,rfl,λh=>h⟩
  .rw[z0 hi,zq] at hp;obtain⟨p1,jz,rfl⟩:=hp;exact⟨p1,jz,rfl,rfl,rfl,rfl,λh=>by cases h⟩
 have eJ:∀ i p2,ρ' i=some p2->∃ p1,ρ i=some p1/\p2.blk=p1.blk/\p2.ext=p1.ext:=λi p2 hp=>by obtain⟨p1,k1,k2,k3,k4,_⟩:=hl i p2 hp;exact⟨p1,k1,k2,k4⟩
 have gM:∀ i b,M2.get i=some b->∃ b1,σ1.get i=some b1/\b.wr=b1.wr:=λi b hb=>by
  by_cases hi:S i=false
  .rw[h1 i hi] at hb;exact⟨b,hb,rfl⟩
  .obtain⟨c,e,wr,t,m,k1,k2⟩:=h2 i (by simpa using hi);rw[k2] at hb;obtain rfl:=osj hb;exact⟨_,k1,rfl⟩
 have hX:Ext ρ0 σ0 w0 ρ' M2 w:=by
  refine⟨hE.os,hE.tape,hE.output,hE.size,hE.keep,?_,by omega,λi hi p hp=>?_⟩
  .rintro B hB ⟨i,p,b,hp,hb,hw,rfl⟩;obtain⟨p1,k1,k2,_⟩:=eJ i p hp;obtain⟨b1,k7,k8⟩:=gM i b hb;exact hE.wr _ hB ⟨i,p1,b1,k1,k7,by rw[<-k8];exact hw,k2.symm⟩
  .have:S i=false:=by
    cases hs:S i with
    |false=>rfl
    |true=>have:=hS i hs;omega
   simp only[ρ',this,zB] at hp;exact hE.pl i hi p hp
 refine⟨ρ',?_,fU.ext ⟨λi b hb=>?_,λi hi=>?_,λi p hp=>?_,λi j p q b bQ hp hq hb hw hx=>?_⟩ hX,hX⟩
 .rw[hn];refine hv.rel (λi p hi hp=>?_) (eF.loose hl);have:¬ S i=false:=by simp[hi]
  change (if S i=false then ρ i else (ρ i).map λp=>{p with tight:=false})=some p at hp;rw[z0 this,zq] at hp;obtain⟨p1,_,rfl⟩:=hp;rfl
 .by_cases hi:S i=false
  .rw[h1 i hi] at hb;obtain⟨p,hp,hB⟩:=hH.live i b hb;refine⟨p,by simp only[ρ',hi,zB];exact hp,?_⟩;rw[hn];cases b with
   |cells c e wr t =>obtain⟨k1,k2,k3,k4,k5,k6⟩:=hB;exact⟨k1,k2,k3,k4,λk v hk=>let ⟨u,a1,a2⟩:=k5 k v hk;⟨u,a1,a2.loose hl⟩,k6⟩
   |obj o wr =>obtain⟨k1,O,k2,k3⟩:=hB;exact⟨k1,O,k2,k3.loose hl⟩
  .obtain⟨c,e,wr,t,m,k1,k2⟩:=h2 i (by simpa using hi);rw[k2] at hb;obtain rfl:=osj hb;obtain⟨p,hp,hB⟩:=hH.live i _ k1;obtain⟨a1,a2,a3,a4,a5,a6⟩:=hB;refine⟨{p with tight:=false},by simp[ρ',hi,hp],a1,rfl,by simp;omega,a4,λk v hk=>?_,λgM=>⟨(λh=>by cases h),(a6 gM).2⟩⟩;rw[zO] at hk;split at hk
   .obtain⟨u,b1,b2⟩:=a5 k v hk;rw[hn];exact⟨u,b1,b2.loose hl⟩
   .cases hk
 .have hd:σ1.get i=none:=by
   by_cases cD:S i=false
   .rw[<-h1 i cD];exact hi
   .obtain⟨c,e,wr,t,m,k1,k2⟩:=h2 i (by simpa using cD);rw[k2] at hi;cases hi
  have:=hH.dead i hd;simp only[ρ',this];split<;>rfl
 .obtain⟨p1,k1,k2,_⟩:=eJ i p hp;rw[k2];exact hH.lt i p1 k1
 .obtain⟨p1,k1,k2,k3⟩:=eJ i p hp;obtain⟨q1,k4,k5,k6⟩:=eJ j q hq;obtain⟨b1,k7,k8⟩:=gM i b hb;rw[k2,k5];exact hH.sep i j p1 q1 b1 bQ k1 k4 k7 (by rw[<-k8];exact hw) (by rw[<-k6];exact hx)
def mkP (M:Heap) (v:Value) (is:List Nat):Value:=.tuple (v::is.map λi=>match M.get i with|some b=>J0y i b|none=>.bool true).toArray
theorem KO.imp {H H':Heap}:∀ {k:Kind}{q:Option Nat}{x:k.T}{cs:List Value}{is:List Nat},KO H q k x cs is->(∀ i∈is,H'.get i=H.get i)->KO H' q k x cs is
 |.i _,_,_,_,_,h,_|.bo,_,_,_,_,h,_|.st,_,_,_,_,h,_=>by simp only[KO] at h |-;exact h
 |.list k,q,l,cs,is,h,g=>by
  simp only[KO] at h |-;rcases h with h|⟨i,cap,c,e,t,js,h1,rfl,h3,h4,h5,h6,h7,h8⟩
  .exact .inl h
  .refine .inr ⟨i,cap,c,e,t,js,h1,rfl,h3,by rw[g i zf];exact h4,h5,h6,h7,?_⟩;have key:∀ {xs:List k.T}{cs:List Value}{js:List Nat},RowsO (λx c is=>KO H none k x c is) xs cs js->(∀ i∈js,H'.get i=H.get i)->RowsO (λx c is=>KO H' none k x c is) xs cs js:=λh=>by
    induction h with
    |nil=>exactλ_=>.nil
    |cons h _ ih=>exactλg=>.cons (KO.imp (k:=k) h λi hi=>g i (xI _ hi)) (ih λi hi=>g i (xA _ hi))
   exact key h8 λi hi=>g i (ze _ hi)
 |.pair a b,_,x,cs,is,h,g=>by simp only[KO] at h |-;obtain⟨c1,c2,i1,i2,h1,rfl,h3,h4⟩:=h;exact⟨c1,c2,i1,i2,h1,rfl,h3.imp λi hi=>g i (xI _ hi),h4.imp λi hi=>g i (xA _ hi)⟩
theorem KO.cells {H:Heap}:∀ {k:Kind}{q:Option Nat}{x:k.T}{cs:List Value}{is:List Nat},KO H q k x cs is->∀ i∈is,∃ c e t,H.get i=some (.cells c e true t)
 |.i _,_,_,_,_,h,i,hi|.bo,_,_,_,_,h,i,hi|.st,_,_,_,_,h,i,hi=>by simp only[KO] at h;rw[h.2] at hi;cases hi
 |.list k,q,l,cs,is,h,i,hi=>by
  simp only[KO] at h;rcases h with⟨_,_,rfl⟩|⟨i',cap,c,e,t,js,h1,rfl,h3,h4,h5,h6,h7,h8⟩
  .cases hi
  .rcases zj.1 hi with rfl|hi
   .exact⟨_,_,_,h4⟩
   .have key:∀ {xs:List k.T}{cs:List Value}{js:List Nat},RowsO (λx c is=>KO H none k x c is) xs cs js->∀ i∈js,∃ c e t,H.get i=some (.cells c e true t):=λh=>by
     induction h with
     |nil=>exactλi hi=>by cases hi
     |cons h _ ih=>exactλi hi=>(zz.1 hi).elim (KO.cells (k:=k) h i) (ih i)
    exact key h8 i hi
 |.pair a b,_,x,cs,is,h,i,hi=>by simp only[KO] at h;obtain⟨c1,c2,i1,i2,h1,rfl,h3,h4⟩:=h;exact(zz.1 hi).elim (h3.cells i) (h4.cells i)
theorem KO.weak {H:Heap}:∀ {k:Kind}{q:Option Nat}{x:k.T}{cs:List Value}{is:List Nat},KO H q k x cs is->KO H none k x cs is
 |.i _,_,_,_,_,h|.bo,_,_,_,_,h|.st,_,_,_,_,h=>by simp only[KO] at h |-;exact h
 |.list k,q,l,cs,is,h=>by
  simp only[KO] at h |-;rcases h with h|⟨i,cap,c,e,t,js,h1,h2,h3,h4,h5,h6,h7,h8⟩
  .exact .inl h
  .exact .inr ⟨i,cap,c,e,t,js,h1,h2,h3,h4,h5,(λ_ e=>by cases e),h7,h8⟩
 |.pair a b,_,x,cs,is,h=>by simp only[KO] at h |-;exact h
theorem KO.q0h {H:Heap}{q:Option Nat}{k:Kind}:∀ (x:k.T) (c:List Value) (is:List Nat),KO H q k x c is->c.length=k.size:=λ_ _ _ h=>KC.length h.kc
section
variable {α:Type}{R R':α->List Value->List Nat->Prop}{sz:Nat}
theorem RowsH.imp:∀ {xs:List α}{h:Option Nat}{j:Nat}{cs:List Value}{is:List Nat},RowsH R sz h j xs cs is->(∀ x c js,R x c js->(∀ i∈js,i∈is)->R' x c js)->RowsH R' sz h j xs cs is
 |[],_,_,_,_,h,_=>h
 |x::xs,hh,j,cs,is,h,g=>by
  obtain⟨c,cs',i1,i2,rfl,rfl,h1,h2⟩:=h;refine⟨c,cs',i1,i2,rfl,rfl,?_,h2.imp λx c js hr hj=>g x c js hr λi hi=>xA _ (hj i hi)⟩;by_cases e:hh=some j
  .rw[z3 e] at h1 |-;exact h1
  .rw[z0 e] at h1 |-;exact g _ _ _ h1 λi hi=>xI _ hi
theorem RowsH.hole:∀ {xs:List α}{h h':Option Nat}{j j':Nat}{cs:List Value}{is:List Nat},RowsH R sz h j xs cs is->(∀ m,h=some (j+m)<->h'=some (j'+m))->RowsH R sz h' j' xs cs is
 |[],_,_,_,_,_,_,h,_=>h
 |x::xs,h,h',j,j',cs,is,hr,g=>by
  obtain⟨c,cs',i1,i2,rfl,rfl,h1,h2⟩:=hr;refine⟨c,cs',i1,i2,rfl,rfl,?_,h2.hole λm=>?_⟩
  .have:=g 0;simp only[zR] at this;by_cases e:h=some j
   .rw[z3 e] at h1;rw[z3 (this.1 e)];exact h1
   .rw[z0 e] at h1;rw[z0 λe'=>e (this.2 e')];exact h1
  .have:=g (1+m);rw[<-zp,<-zp] at this;exact this
theorem RowsH.length (hR:∀ x c is,R x c is->c.length=sz):∀ {xs:List α}{h:Option Nat}{j:Nat}{cs:List Value}{is:List Nat},RowsH R sz h j xs cs is->cs.length=xs.length*sz
 |[],_,_,_,_,h=>by rw[h.1];simp
 |x::xs,_,j,cs,is,h=>by
  obtain⟨c,cs',i1,i2,rfl,rfl,h1,h2⟩:=h;have hc:c.length=sz:=by
   split at h1
   .exact h1.1
   .exact hR _ _ _ h1
  rw[zH,hc,h2.length hR,zT,zN,xR,xV]
theorem RowsH.append:∀ {xs ys:List α}{j j':Nat}{cs ds:List Value}{is js:List Nat},RowsH R sz none j xs cs is->RowsH R sz none j' ys ds js->RowsH R sz none j (xs++ys) (cs++ds) (is++js)
 |[],ys,j,j',cs,ds,is,js,h,h'=>by obtain⟨rfl,rfl⟩:=h;exact h'.hole λm=>by simp
 |x::xs,ys,j,j',cs,ds,is,js,h,h'=>by obtain⟨c,cs',i1,i2,rfl,rfl,h1,h2⟩:=h;exact⟨c,cs'++ds,i1,i2++js,by rw[zY],by rw[zY],h1,h2.append h'⟩
theorem RowsH.replicate {x:α}{c:List Value}(h:R x c []):∀ (n j:Nat),RowsH R sz none j (List.replicate n x) (List.replicate n c).flatten []
 |0,_=>⟨rfl,rfl⟩
 |n+1,j=>⟨c,_,[],[],rfl,rfl,by rw[z0 (by simp)];exact h,RowsH.replicate h n (j+1)⟩
theorem RowsH.take (hR:∀ x c is,R x c is->c.length=sz):∀ {xs:List α}{j:Nat}{cs:List Value},RowsH R sz none j xs cs []->∀ n,RowsH R sz none j (xs.take n) (cs.take (n*sz)) []
 |[],j,cs,h,n=>by obtain⟨rfl,_⟩:=h;simp[RowsH]
 |x::xs,j,cs,h,0=>by simp[RowsH]
 |x::xs,j,cs,h,n+1=>by
  obtain⟨c,cs',i1,i2,rfl,e,h1,h2⟩:=h;obtain⟨rfl,rfl⟩:=List.append_eq_nil_iff.1 e.symm;have hc:c.length=sz:=by rw[z0 (by simp)] at h1;exact hR _ _ _ h1
  refine⟨c,cs'.take (n*sz),[],[],?_,rfl,h1,h2.take hR n⟩;rw[zN,xR,xV,List.take_append,hc,zM (by omega),Nat.add_sub_cancel_left]
theorem RowsH.set (hR:∀ x c is,R x c is->c.length=sz):∀ {xs:List α}{h h':Option Nat}{j i:Nat}{cs:List Value}{is:List Nat}{x:α}{c':List Value}{inew:List Nat},
  RowsH R sz h j xs cs is->(hi:i<xs.length)->(∀ m,m≠i->(h=some (j+m)<->h'=some (j+m)))->c'.length=sz->(if h'=some (j+i) then inew=[] else R x c' inew) ->
  ∃ ob ix oc,is=ob++ix++oc/\RowsH R sz h' j (xs.set i x) (cs.take (i*sz)++c'++cs.drop (i*sz+sz)) (ob++inew++oc)/\(if h=some (j+i) then ix=[] else R xs[i] ((cs.drop (i*sz)).take sz) ix)
 |[],_,_,_,_,_,_,_,_,_,_,hi,_,_,_=>by simp at hi
 |y::ys,h,h',j,0,cs,is,x,c',inew,hr,hi,g,hl,hn=>by
  obtain⟨c,cs',i1,i2,rfl,rfl,h1,h2⟩:=hr;have hc:c.length=sz:=by
   split at h1
   .exact h1.1
   .exact hR _ _ _ h1
  have ht:RowsH R sz h' (j+1) ys cs' i2:=h2.hole λm=>by have:=g (m+1) (by omega);rw[show j+1+m=j+(m+1) by omega];exact this
  refine⟨[],i1,i2,rfl,?_,?_⟩
  .rw[List.set_cons_zero];refine⟨c',cs',inew,i2,?_,rfl,?_,ht⟩
   .rw[Nat.zero_mul,wx,xt,xh,List.drop_append,hc,wg,xg,List.drop_of_length_le (by omega),xt]
   .rw[zR] at hn;split
    .rename_i e;rw[z3 e] at hn;exact⟨hl,hn⟩
    .rename_i e;rw[z0 e] at hn;exact hn
  .rw[zR];split
   .rename_i e;rw[z3 e] at h1;exact h1.2
   .rename_i e;rw[z0 e] at h1;rw[Nat.zero_mul,xg,List.take_append,hc,wg,wx,xy,zM (by omega)];exact h1
 |y::ys,h,h',j,i+1,cs,is,x,c',inew,hr,hi,g,hl,hn=>by
  obtain⟨c,cs',i1,i2,rfl,rfl,h1,h2⟩:=hr;have hc:c.length=sz:=by
   split at h1
   .exact h1.1
   .exact hR _ _ _ h1
  obtain⟨ob,ix,oc,rfl,k1,k2⟩:=RowsH.set hR h2 (i:=i) (h':=h') (x:=x) (c':=c') (inew:=inew) (by simpa using hi) (λm hm=>by
   have:=g (m+1) (by omega);rw[show j+1+m=j+(m+1) by omega];exact this) hl (by rw[show j+1+i=j+(i+1) by omega];exact hn)
  have e0:(i+1)*sz=sz+i*sz:=by rw[zN,xR,xV]
  refine⟨i1++ob,ix,oc,by simp[zY],?_,?_⟩
  .rw[List.set_cons_succ];refine⟨c,_,i1,ob++inew++oc,?_,by simp[zY],?_,k1⟩
   .have e1:(c++cs').take ((i+1)*sz)=c++cs'.take (i*sz):=by
     rw[e0,List.take_append,hc,zM (by omega),Nat.add_sub_cancel_left]
    have e2:(c++cs').drop ((i+1)*sz+sz)=cs'.drop (i*sz+sz):=by rw[e0,List.drop_append,hc,List.drop_of_length_le (by omega),xt];congr 1;omega
    rw[e1,e2];simp[zY]
   .have:=g 0 (by omega);rw[zR] at this;by_cases e:h=some j
    .rw[z3 e] at h1;rw[z3 (this.1 e)];exact h1
    .rw[z0 e] at h1;rw[z0 λe'=>e (this.2 e')];exact h1
  .rw[show j+(i+1)=j+1+i by omega];have e3:(c++cs').drop ((i+1)*sz)=cs'.drop (i*sz):=by
    rw[e0,List.drop_append,hc,List.drop_of_length_le (by omega),xt];congr 1;omega
   rw[e3];exact k2
end
theorem DO.imp {H H':Heap}{ty:Nat}{q:Option Nat}{k:Kind}{xs:List k.T}{h:Option Nat}{v:Value}{is:List Nat}(hd:DO H ty q k xs h v is) (g:∀ i∈is,H'.get i=H.get i):DO H' ty q k xs h v is:=by
 rcases hd with hd|⟨i,cap,c,t,js,h1,rfl,h3,h4,h5,h6⟩
 .exact .inl hd
 .exact .inr ⟨i,cap,c,t,js,h1,rfl,h3,by rw[g i zf];exact h4,h5,h6.imp λx c vA hr hj=>KO.imp hr λi hi=>g i (ze _ (hj i hi))⟩
theorem RowsH.cells {H:Heap}{q:Option Nat}{k:Kind}{sz:Nat}:∀ {xs:List k.T}{h:Option Nat}{j:Nat}{cs:List Value}{is:List Nat},RowsH (KO H q k) sz h j xs cs is->∀ i∈is,∃ c e t,H.get i=some (.cells c e true t)
 |[],_,_,_,_,h,i,hi=>by rw[h.2] at hi;cases hi
 |x::xs,_,j,cs,is,h,i,hi=>by
  obtain⟨c,cs',i1,i2,rfl,rfl,h1,h2⟩:=h;rcases zz.1 hi with hi|hi
  .split at h1
   .rw[h1.2] at hi;cases hi
   .exact KO.cells h1 i hi
  .exact h2.cells i hi
theorem DO.cells {H:Heap}{ty:Nat}{q:Option Nat}{k:Kind}{xs:List k.T}{h:Option Nat}{v:Value}{is:List Nat}(hd:DO H ty q k xs h v is):∀ i∈is,∃ c e t,H.get i=some (.cells c e true t):=by
 rcases hd with⟨_,_,rfl⟩|⟨i,cap,c,t,js,h1,rfl,h3,h4,h5,h6⟩
 .exact λi hi=>by cases hi
 .exact λj hj=>(zj.1 hj).elim (λe=>by subst e;exact⟨_,_,_,h4⟩) (h6.cells j)
theorem DP.open {M:Heap}{p:Value}{ty:Nat}{q:Option Nat}{k:Kind}{xs:List k.T}{nl:Bool}{h:Option Nat}(hd:DP M p ty q k xs nl h) :
  ∃ is,is.Nodup/\DO M ty q k xs h (phd p) is/\(∀ i,Oid p i<->i∈is)/\(nl=true<->phd p=.slice none 0 0):=by
 obtain⟨is,hO,h1,h2,h3,h4,h5⟩:=hd;refine⟨is,h1,h2.imp λi hi=>?_,λi=>(hO i).trans (h3 i),h5⟩;obtain⟨b,hb⟩:=(h3 i).2 hi;rw[hb,h4 i b hb]
end Go.V
namespace Go.V
open Go
section
variable {P:Program}{B F:Heap}{pl:Nat->Value}{tb:Nat->Option Bool}{s:St}{env:Env}{M M':Heap}
theorem KO.nil {H:Heap}{q:Option Nat}{k:Kind}:KO H q (.list k) [] [.slice none 0 0] []:=by unfold KO;exact .inl ⟨rfl,rfl,rfl⟩
def FrL (Ts:List Nat) (s s':St) (pl pl':Nat->Value) (M M':Heap):Prop :=
 ∀ q,q∉Ts->(Qe s'.own q).live=(Qe s.own q).live/\pl' q=pl q/\((Qe s.own q).live=true->∀ i,Oid (pl q) i->M'.get i=M.get i)
theorem FrL.mono {Ts r4:List Nat}{s s':St}{pl pl':Nat->Value}{M M':Heap}(h:FrL Ts s s' pl pl' M M') (hs:∀ t∈Ts,t∈r4):FrL r4 s s' pl pl' M M':=λq hq=>h q λh=>hq (hs q h)
def Z56 (P:Program) (B F:Heap) (tb:Nat->Option Bool) (o:VOp) (evV:Operand->Value) (env:Env) (M:Heap) (K:SV->St->Prop) (Ts:List Nat) (s:St) (pl:Nat->Value):Prop :=
 ∃ u M' pl' v s',Qa o evV M=some (u,M')/\K v s'/\(Gam P B F pl' tb s' env M'/\FrL Ts s s' pl pl' M M')/\SR P B pl' tb v u
section
variable {C:Cx}{d:Nat}{ev:Operand->SV}{evV:Operand->Value}{K:SV->St->Prop}
theorem DO.sl {ty:Nat}{q:Option Nat}{k:Kind}{xs:List k.T}{v:Value}{is:List Nat}(hd:DO M ty q k xs none v is) (hn:is.Nodup) :
  ∃ a cap cs js,v=.slice a xs.length cap/\M.sl k.size v=some cs/\RowsH (KO M q k) k.size none 0 xs cs js/\(∀ i∈js,i∈is)/\js.Nodup/\cs.all cellOk=true/\cs.length=xs.length*k.size:=by
 rcases hd with⟨rfl,rfl,rfl⟩|⟨i,cap,c,t,js,rfl,rfl,h1,h3,h4,h5⟩
 .exact⟨_,_,[],[],rfl,rfl,⟨rfl,rfl⟩,λi hi=>hi,List.nodup_nil,rfl,by simp⟩
 .have hl:=h5.length KO.q0h;refine⟨_,_,c.take (xs.length*k.size),js,rfl,?_,h5,λi hi=>ze _ hi,(z_.1 hn).2,(h5.rows (R':=KC M k) λ_ _ _ h=>h.kc).cellOk,hl⟩;have:=zD k.size h1;simp only[Heap.sl,h3];rw[z3 ⟨trivial,by omega⟩];simp
theorem RL (aj:∀ x,SR P B pl tb (ev x) (evV x)) (hG:Gam P B F pl tb s env M) {o:VOp}(h:gnd C d o ev s K):Z56 P B F tb o evV env M K (AI d o ev) s pl:=h.elim
end
end
end Go.V
namespace Go.V
open Go
def Xd:Nat->Value:=λ_=>poison
def J9:Nat->Option Bool:=λ_=>none
def hNil:Heap:=⟨λ_=>none,0,λ_ _=>rfl⟩
theorem Oc (B:Heap):hNil.Le B:=⟨Nat.zero_le _,λi b h=>by cases h⟩
section
variable {P:Program}
mutual
theorem SR.retd {B B':Heap}{pl pl':Nat->Value}{tb tb':Nat->Option Bool}{n:Nat}(hp:∀ j,j<n->pl' j=pl j) :
  ∀ (s:SV) (v:Value),s.ret n=true->SR P B pl tb s v->SR P B' pl' tb' s v
 |.any,_,h,_|.bid _ _,_,h,_|.grd _ _,_,h,_|.sub _ _ _ _,_,h,_|.elp _ _ _ _,_,h,_|.rop _ _ _ _,_,h,_|.cp _ _,_,h,_|.fn _ _ _,_,h,_|.pf _ _ _ _,_,h,_=>by cases h
 |.val k x,v,h,hs=>by simp only[SR] at hs |-;exact KC.flat h hs
 |.nilS,v,_,hs|.nilP,v,_,hs|.nilM,v,_,hs|.nilF,v,_,hs=>by simp only[SR] at hs |-;exact hs
 |.lst j,v,h,hs=>by
  have hj:j<n:=by simpa [SV.ret,zJ] using h
  simp only[SR] at hs |-;rw[hp j hj];exact hs
 |.map j,v,h,hs=>by
  have hj:j<n:=by simpa [SV.ret,zJ] using h
  simp only[SR] at hs |-;rw[hp j hj];exact hs
 |.dd j w,v,h,hs=>by
  cases w with
  |out =>
   have hj:j<n:=by simpa [SV.ret,zJ] using h
   simp only[SR] at hs |-;rw[hp j hj];exact hs
  |_=>cases h
 |.box j off,v,h,hs=>by
  have hj:j<n:=by simpa [SV.ret,zJ] using h
  simp only[SR] at hs |-;rw[hp j hj];exact hs
 |.agg l,v,h,hs=>by simp only[SR] at hs |-;obtain⟨cs,h1,h2⟩:=hs;exact⟨cs,h1,SRs.retd hp l cs h h2⟩
 |.tup l,v,h,hs=>by simp only[SR] at hs |-;obtain⟨cs,h1,h2⟩:=hs;exact⟨cs,h1,SRs.retd hp l cs h h2⟩
theorem SRs.retd {B B':Heap}{pl pl':Nat->Value}{tb tb':Nat->Option Bool}{n:Nat}(hp:∀ j,j<n->pl' j=pl j) :
  ∀ (s:List SV) (v:List Value),SVs.ret n s=true->SRs P B pl tb s v->SRs P B' pl' tb' s v
 |[],v,_,hs=>by simp only[SRs] at hs |-;exact hs
 |s::ss,v,h,hs=>by simp only[SVs.ret,z4] at h;simp only[SRs] at hs |-;obtain⟨x,y,h1,h2,h3⟩:=hs;exact⟨x,y,h1,SR.retd hp s x h.1 h2,SRs.retd hp ss y h.2 h3⟩
end
mutual
theorem SR.ren {B:Heap}{pl pl':Nat->Value}{tb tb':Nat->Option Bool}{n d nt:Nat}(hp:∀ j,j<n->pl' (d+j*nt)=pl j) :
  ∀ (s:SV) (v:Value),s.ret n=true->SR P B pl tb s v->SR P B pl' tb' (s.ren d nt) v
 |.any,_,h,_|.bid _ _,_,h,_|.grd _ _,_,h,_|.sub _ _ _ _,_,h,_|.elp _ _ _ _,_,h,_|.rop _ _ _ _,_,h,_|.cp _ _,_,h,_|.fn _ _ _,_,h,_|.pf _ _ _ _,_,h,_=>by cases h
 |.val k x,v,h,hs=>by simp only[SR,SV.ren] at hs |-;exact hs
 |.nilS,v,_,hs|.nilP,v,_,hs|.nilM,v,_,hs|.nilF,v,_,hs=>by simp only[SR,SV.ren] at hs |-;exact hs
 |.lst j,v,h,hs=>by
  have hj:j<n:=by simpa [SV.ret,zJ] using h
  simp only[SR,SV.ren] at hs |-;rw[hp j hj];exact hs
 |.map j,v,h,hs=>by
  have hj:j<n:=by simpa [SV.ret,zJ] using h
  simp only[SR,SV.ren] at hs |-;rw[hp j hj];exact hs
 |.dd j w,v,h,hs=>by
  cases w with
  |out =>
   have hj:j<n:=by simpa [SV.ret,zJ] using h
   simp only[SR,SV.ren] at hs |-;rw[hp j hj];exact hs
  |_=>cases h
 |.box j off,v,h,hs=>by
  have hj:j<n:=by simpa [SV.ret,zJ] using h
  simp only[SR,SV.ren] at hs |-;rw[hp j hj];exact hs
 |.agg l,v,h,hs=>by simp only[SR,SV.ren] at hs |-;obtain⟨cs,h1,h2⟩:=hs;exact⟨cs,h1,SRs.ren hp l cs h h2⟩
 |.tup l,v,h,hs=>by simp only[SR,SV.ren] at hs |-;obtain⟨cs,h1,h2⟩:=hs;exact⟨cs,h1,SRs.ren hp l cs h h2⟩
theorem SRs.ren {B:Heap}{pl pl':Nat->Value}{tb tb':Nat->Option Bool}{n d nt:Nat}(hp:∀ j,j<n->pl' (d+j*nt)=pl j) :
  ∀ (s:List SV) (v:List Value),SVs.ret n s=true->SRs P B pl tb s v->SRs P B pl' tb' (SVs.ren d nt s) v
 |[],v,_,hs=>by simp only[SRs,SVs.ren] at hs |-;exact hs
 |s::ss,v,h,hs=>by simp only[SVs.ret,z4] at h;simp only[SRs,SVs.ren] at hs |-;obtain⟨x,y,h1,h2,h3⟩:=hs;exact⟨x,y,h1,SR.ren hp s x h.1 h2,SRs.ren hp ss y h.2 h3⟩
end
theorem MR.flat {B B':Heap}{kk vk:Kind}(h1:kk.flat=true) (h2:vk.flat=true):∀ {m:List (kk.T×vk.T)}{es:List X1},MR B kk vk m es->MR B' kk vk m es
 |[],es,h=>h
 |m::ms,es,h=>by obtain⟨e,bS,k1,k2,k3,k4⟩:=h;exact⟨e,bS,k1,k2.flat h1,k3.flat h2,MR.flat h1 h2 k4⟩
theorem OR.retd {B B':Heap}{pl pl':Nat->Value}{tb tb':Nat->Option Bool}{M M':Heap}{p:Value}{b:OB}(hb:b.ret=true) (h:OR P B pl tb M p b) (hg:∀ i,Oid p i->M'.get i=M.get i):OR P B' pl' tb' M' p b:=by
 cases b with
 |dead=>trivial
 |lst ty k xs nl =>
  rcases h with h|⟨h0,i,cap,c,t,h1,h2,h3,h4,h5⟩
  .exact .inl h
  .exact .inr ⟨h0,i,cap,c,t,h1,h2,by rw[hg i (by rw[h1];rfl)];exact h3,h4,h5.mono λ_ _ e=>KC.flat hb e⟩
 |cells l u =>obtain⟨i,c,e,t,h1,h2,h3,h4⟩:=h;exact⟨i,c,e,t,h1,by rw[hg i (by rw[h1];rfl)];exact h2,SRs.retd (n:=0) (λj hj=>by omega) l c hb h3,h4⟩
 |map kk vk m =>simp only[OB.ret,z4] at hb;obtain⟨i,es,clock,h1,h2,h3⟩:=h;exact⟨i,es,clock,h1,by rw[hg i (by rw[h1];rfl)];exact h2,h3.1.flat hb.1 hb.2,h3.2⟩
 |stk l vals=>cases hb
 |deep ty q k xs nl hh=>exact DP.mono h hg
 |mapE kk vk m key n=>cases hb
 |iter kk vk m dn=>cases hb
 |lpf l q s=>cases hb
def At:(k:Kind)->k.T->List Value
 |.i ik,x=>[.int ik x]
 |.bo,x=>[.bool x]
 |.st,x=>[.string ⟨x.toArray⟩]
 |.list _,_=>[]
 |.pair a b,x=>At a x.1++At b x.2
def Q5a:OB->Option Blk
 |.lst ty k xs nl=>if nl then none else some (.cells (xs.map (At k)).flatten ⟨k.size,ty⟩ true false)
 |_=>none
def PT (M:Heap) (bs:List OB):Heap where
 get i:=if i<M.n then M.get i else (bs[i-M.n]?).bind Q5a
 n:=M.n+bs.length
 wf i h:=by rw[z0 (by omega),zr (by omega)];rfl
def LG (M:Heap) (bs:List OB) (j:Nat):Value:=match bs[j]? with
 |some (.lst _ _ xs nl)=>if nl then .slice none 0 0 else .slice (some ⟨M.n+j,0,none⟩) xs.length xs.length
 |_=>poison
mutual
def Ui (p:Nat->Value):SV->Value
 |.val k x=>(At k x).headD poison
 |.nilS=>.slice none 0 0
 |.nilP=>.pointer none
 |.nilM=>.map none
 |.nilF=>.nilFunc
 |.lst j=>p j
 |.agg l=>.agg (KK p l).toArray
 |.tup l=>.tuple (KK p l).toArray
 |_=>poison
def KK (p:Nat->Value):List SV->List Value
 |[]=>[]
 |s::ss=>Ui p s::KK p ss
end
def Dead (M M':Heap):Prop:=M.n<=M'.n/\∀ i,i<M.n->M.get i=none->M'.get i=none
theorem Dead.refl (M:Heap):Dead M M:=⟨z7 _,λ_ _ h=>h⟩
theorem Dead.trans {σ0 M M':Heap}(h:Dead σ0 M) (h':Dead M M'):Dead σ0 M':=⟨x8 h.1 h'.1,λi hi hg=>h'.2 i (x7 hi h.1) (h.2 i hi hg)⟩
def Ret (P:Program) (M:Heap) (v:SV) (bs:List OB) (u:Value) (M':Heap):Prop :=
 (M.Le M'/\Dead M M')/\(bs=[]->M'=M)/\∃ pl:Nat->Value,(∀ j b,bs[j]?=some b->OR P hNil pl J9 M' (pl j) b/\∀ i,Oid (pl j) i->M.get i=none/\M.n<=i) /\
  (∀ j j' i,j<bs.length->j'<bs.length->j≠j'->Oid (pl j) i->Oid (pl j') i->False)/\SR P hNil pl J9 v u
def Q2b (P:Program) (ap:SV->List SV->Option (Prop×SV)):Prop :=
 ∀ M f args c v fV vs,SR P M Xd J9 f fV->SRs P M Xd J9 args vs->ap f args=some (c,v)->c->v.ret 0=true/\∃ g a b,fV=.func (.func g) a b/\VCalled P g (a.toList++vs++b.toList) M λu M'=>M'=M/\SR P hNil Xd J9 v u
def OkC (P:Program) (f:Nat) (sp:CSp):Prop :=
 ∀ ap,Q2b P ap->∀ M args vs c v bs,SRs P M Xd J9 args vs->sp ap args=some (c,v,bs)->v.ret bs.length=true->bs.all OB.ret=true->c->(VCalled P f vs M λu M'=>Ret P M v bs u M') /\
  (bs.all OB.isL=true->U9 v=true->VCalled P f vs M λu M'=>u=Ui (LG M bs) v/\M'=PT M bs)
def CsOk (P:Program) (cs:List (Nat×CSp)):Prop:=∀ f sp,QA cs f=some sp->OkC P f sp
theorem VCalled.mono {f:FuncId}{args:List Value}{M:Heap}{R R':Value->Heap->Prop}(h:VCalled P f args M R) (hr:∀ v M',R v M'->R' v M'):VCalled P f args M R':=by
 intro ρ w aA hH hL;rcases h ρ w aA hH hL with⟨h1,h2⟩|⟨c,h1,h2⟩
 .exact .inl ⟨h1,h2.mono λ_ _ ⟨c,he,hg⟩=>⟨c,he,hg.mono hr⟩⟩
 .exact .inr ⟨c,h1.mono hr,h2⟩
theorem TK {B:Heap}{pl:Nat->Value}{tb:Nat->Option Bool}{k:Kind}{v:SV}{u:Value}{x:k.T}(h:gap.asV k v=some x) (hs:SR P B pl tb v u):KV B k x u:=by
 unfold gap.asV at h;cases bP:k.one with
 |true =>rw[bP] at h;exact .inl ⟨bP,QJ h (by simp only[SRs];exact⟨u,[],rfl,hs,rfl⟩)⟩
 |false =>
  rw[bP] at h;simp only[zQ] at h;split at h
  .simp only[SR] at hs;obtain⟨cs,rfl,hs⟩:=hs;exact .inr ⟨bP,cs,rfl,QJ h hs⟩
  .cases h
theorem L5 {B:Heap}{pl:Nat->Value}{tb:Nat->Option Bool}:∀ {ks:List Kind}{args:List SV}{x:AT ks}{vs:List Value},gap.deca ks args=some x->SRs P B pl tb args vs->LK B ks x vs
 |[],[],x,vs,_,hs=>by simp only[SRs] at hs;exact hs
 |[],_::_,x,vs,h,_=>by cases h
 |[k],[],x,vs,h,_=>by cases h
 |[k],[v],x,vs,h,hs=>by obtain⟨u,rfl,h1⟩:=hs.one;exact⟨u,rfl,TK h h1⟩
 |[k],_::_::_,x,vs,h,_=>by cases h
 |k::k'::ks,[],x,vs,h,_=>by cases h
 |k::k'::ks,v::args,x,vs,h,hs=>by
  simp only[gap.deca] at h;split at h
  .rename_i y z h1 h2;obtain rfl:=osj h;simp only[SRs] at hs;obtain⟨u,us,rfl,h3,h4⟩:=hs;exact⟨u,us,rfl,TK h1 h3,L5 h2 h4⟩
  .cases h
theorem Ret.flat {M M':Heap}{v:SV}{u:Value}(h:Ret P M v [] u M') (hv:v.ret 0=true):M'=M/\SR P hNil Xd J9 v u:=by obtain⟨_,h2,pl,_,_,h5⟩:=h;exact⟨h2 rfl,h5.retd (λj hj=>by omega) _ _ hv⟩
theorem KV.vcall {B M:Heap}(hB:B.Le M) {k:Kind}{x:k.T}{v:Value}(h:KV B k x v):KV M k x v:=by
 rcases h with⟨h1,h2⟩|⟨h1,cs,h2,h3⟩
 .exact .inl ⟨h1,h2.mono hB⟩
 .exact .inr ⟨h1,cs,h2,h3.mono hB⟩
theorem P4:∀ {k:Kind}{x:k.T},k.flat=true->SVs.ret 0 (G2 k x)=true
 |.i _,_,_|.bo,_,_|.st,_,_=>rfl
 |.list _,_,h=>by cases h
 |.pair a b,x,h=>by
  simp only[Kind.flat,z4] at h;have app:∀ l m:List SV,SVs.ret 0 l=true->SVs.ret 0 m=true->SVs.ret 0 (l++m)=true:=by
   intro l m hl hm;induction l with
   |nil=>exact hm
   |cons s l ih =>simp only[SVs.ret,z4,zV] at hl |-;exact⟨hl.1,ih hl.2⟩
  exact app _ _ (P4 h.1) (P4 h.2)
theorem Q6w {k:Kind}{x:k.T}(h:k.flat=true):(Q52 k x).ret 0=true:=by
 cases k with
 |pair a b=>exact P4 (k:=.pair a b) h
 |list k=>cases h
 |_=>rfl
theorem LD {cs:List (Nat×CSp)}(h:CsOk P cs):∀ n,Q2b P (gap cs n)
 |0=>λM f args c v fV vs _ _ h=>by cases h
 |n+1=>by
  intro M f args c v fV vs hf ha hg hc;cases f with
  |fn g a b =>
   simp only[gap] at hg;split at hg
   .rename_i sp dF;split at hg
    .rename_i c' v' heq;cases hv:v'.ret 0 with
     |false=>rw[hv] at hg;cases hg
     |true =>rw[hv] at hg;simp only[zl,x9,Prod.mk.injEq] at hg;obtain⟨rfl,rfl⟩:=hg;simp only[SR] at hf;obtain⟨x,y,rfl,h1,h2⟩:=hf;refine⟨hv,g,x.toArray,y.toArray,rfl,?_⟩;have:=(h g sp dF (gap cs n) (LD h n) M (a++args++b) (x++vs++y) c' v' [] ((h1.append ha).append h2) heq hv rfl hc).1;simpa using this.mono λu M' hr=>hr.flat hv
    .cases hg
   .cases hg
  |pf ks r cR p =>
   simp only[gap] at hg;split at hg
   .rename_i x hx;cases hr:r.flat with
    |false=>rw[hr] at hg;cases hg
    |true =>rw[hr] at hg;obtain⟨rfl,rfl⟩:=Ze hg;simp only[SR] at hf;obtain⟨g,first,cap,rfl,aC⟩:=hf;have h2:=aC x hc M vs (Heap.Le.refl _) (L5 hx ha);have dG:=Q6w (x:=p x) hr;exact⟨dG,g,first,cap,rfl,h2.mono λu M' hu=>⟨hu.1,(XL (P:=P) (pl:=Xd) (tb:=J9) hu.2).retd (λj hj=>by omega) _ _ dG⟩⟩
   .cases hg
  |_=>cases hg
end
end Go.V
namespace Go.V
open Go
theorem DropTo.rename2 {σ0 σf M':Heap}{v v':Value}(π:Nat->Nat) (h1:σ0.n<=M'.n)
  (h2:∀ i,i<σ0.n->π i=i/\M'.get i=σf.get i/\(σf.get i=σ0.get i\/∃ b,σf.get i=some b/\b.plain=true))
  (h3:∀ i,σ0.n<=i->i<M'.n->σ0.n<=π i/\((M'.get i=none/\σf.get (π i)=none)\/∃ b' b,M'.get i=some b'/\σf.get (π i)=some b/\BRen M'.n π b' b))
  (h4:∀ i j,σ0.n<=i->i<M'.n->σ0.n<=j->j<M'.n->π i=π j->i=j) (h5:Ren M'.n π v' v):DropTo σ0 v σf v' M':=by
 intro ρ0 w0 ρ w c fU hE hH hv;have hπ:∀ i,i<σ0.n->π i=i:=λi hi=>(h2 i hi).1;have aF:∀ i b',M'.get i=some b'->∃ b,σf.get (π i)=some b/\BRen M'.n π b' b:=λi b' hb=>by
  have hi:=M'.lt hb;rcases zk i σ0.n with af|bB
  .obtain⟨k1,k2,k3⟩:=h2 i af;rw[k1];rw[k2] at hb;refine⟨b',hb,?_⟩;rcases k3 with k3|⟨b,k3,k4⟩
   .rw[k3] at hb;obtain⟨p,_,hB⟩:=fU.live i b' hb;exact hB.ren h1 hπ
   .rw[k3] at hb;obtain rfl:=osj hb;exact BRen.plain k4
  .obtain⟨_,⟨k1,_⟩|⟨b1,b,k1,k2,k3⟩⟩:=h3 i bB hi
   .rw[k1] at hb;cases hb
   .rw[k1] at hb;obtain rfl:=osj hb;exact⟨b,k2,k3⟩
 have eW:∀ i j,i<M'.n->j<M'.n->π i=π j->i=j:=λi j hi hj he=>by
  rcases zk i σ0.n with af|bB<;>rcases zk j σ0.n with bY|iA
  .rw[hπ i af,hπ j bY] at he;exact he
  .have:=(h3 j iA hj).1;rw[hπ i af] at he;omega
  .have:=(h3 i bB hi).1;rw[hπ j bY] at he;omega
  .exact h4 i j bB hi iA hj he
 have hX:Ext ρ0 σ0 w0 (λi=>if i<M'.n then ρ (π i) else none) M' w:=by
  refine⟨hE.os,hE.tape,hE.output,hE.size,hE.keep,?_,h1,λi hi p hp=>?_⟩
  .rintro B hB ⟨i,p,b,hp,hb,hw,rfl⟩;change (if i<M'.n then ρ (π i) else none)=some p at hp;split at hp
   .obtain⟨b0,bk,bt⟩:=aF i b hb;exact hE.wr _ hB ⟨π i,p,b0,hp,bk,by rw[<-bt.wr];exact hw,rfl⟩
   .cases hp
  .change (if i<M'.n then ρ (π i) else none)=some p at hp;split at hp
   .rw[hπ i hi] at hp;exact hE.pl i hi p hp
   .cases hp
 refine⟨λi=>if i<M'.n then ρ (π i) else none,h5.rel hv,fU.ext ⟨λi b' hb=>?_,λi hi=>?_,λi p hp=>?_,λi j p q b bQ hp hq hb hw hx=>?_⟩ hX,hX⟩
 .obtain⟨b,bk,bt⟩:=aF i b' hb;obtain⟨p,hp,hB⟩:=hH.live _ b bk;exact⟨p,by simp[M'.lt hb,hp],bt.rel hB⟩
 .show (if i<M'.n then ρ (π i) else none)=none;split
  .rename_i af;rcases zk i σ0.n with bY|bB
   .obtain⟨k1,k2,_⟩:=h2 i bY;rw[k1];exact hH.dead i (by rw[<-k2];exact hi)
   .obtain⟨_,⟨_,k2⟩|⟨b1,b,k1,_⟩⟩:=h3 i bB af
    .exact hH.dead _ k2
    .rw[k1] at hi;cases hi
  .rfl
 .change (if i<M'.n then ρ (π i) else none)=some p at hp;split at hp
  .exact hH.lt _ p hp
  .cases hp
 .change (if i<M'.n then ρ (π i) else none)=some p at hp;change (if j<M'.n then ρ (π j) else none)=some q at hq;split at hp
  .rename_i hi;split at hq
   .rename_i hj;obtain⟨b0,bk,bt⟩:=aF i b hb;exact hH.sep (π i) (π j) p q b0 (λe=>bQ (eW i j hi hj e)) hp hq bk (by rw[<-bt.wr];exact hw) hx
   .cases hq
  .cases hp
theorem KC.enc {h:Heap}:∀ {k:Kind}{x:k.T}{cs:List Value},k.flat=true->KC h k x cs->cs=At k x
 |.i _,_,_,_,e|.bo,_,_,_,e|.st,_,_,_,e=>e
 |.list _,_,_,f,_=>by cases f
 |.pair a b,x,cs,f,e=>by simp only[Kind.flat,z4] at f;obtain⟨c1,c2,rfl,h1,h2⟩:=e;rw[KC.enc f.1 h1,KC.enc f.2 h2];rfl
theorem Rows.enc {h:Heap}{k:Kind}(hk:k.flat=true) {xs:List k.T}{cs:List Value}(hr:Rows (KC h k) xs cs):cs=(xs.map (At k)).flatten:=by
 induction hr with
 |nil=>rfl
 |cons h _ ih=>rw[zE,List.flatten_cons,<-ih,KC.enc hk h]
theorem BB:∀ {k:Kind}{x:k.T},k.flat=true->(At k x).all Zc=true
 |.i _,_,_|.bo,_,_|.st,_,_=>rfl
 |.list _,_,h=>by cases h
 |.pair a b,x,h=>by simp only[Kind.flat,z4] at h;simp only[At,List.all_append,z4];exact⟨BB h.1,BB h.2⟩
section
variable {P:Program}
mutual
theorem UJ {B:Heap}{pl:Nat->Value}{tb:Nat->Option Bool}{n:Nat}:∀ (s:SV) (v:Value),s.ret n=true->U9 s=true->SR P B pl tb s v->v=Ui pl s
 |.val k x,v,h,_,hs=>by simp only[SR] at hs;have:=KC.enc h hs;simp only[Ui,<-this,List.headD_cons]
 |.nilS,v,_,_,hs|.nilP,v,_,_,hs|.nilM,v,_,_,hs|.nilF,v,_,_,hs=>by simp only[SR] at hs;exact hs
 |.lst j,v,_,_,hs=>by simp only[SR] at hs;exact hs.1
 |.agg l,v,h,hb,hs=>by simp only[SR] at hs;obtain⟨cs,rfl,h2⟩:=hs;rw[DT l cs h hb h2];rfl
 |.tup l,v,h,hb,hs=>by simp only[SR] at hs;obtain⟨cs,rfl,h2⟩:=hs;rw[DT l cs h hb h2];rfl
 |.box _ _,_,_,hb,_|.map _,_,_,hb,_=>by cases hb
 |.any,_,h,_,_|.bid _ _,_,h,_,_|.grd _ _,_,h,_,_|.sub _ _ _ _,_,h,_,_|.elp _ _ _ _,_,h,_,_|.rop _ _ _ _,_,h,_,_|.cp _ _,_,h,_,_|.fn _ _ _,_,h,_,_|.pf _ _ _ _,_,h,_,_=>by cases h
theorem DT {B:Heap}{pl:Nat->Value}{tb:Nat->Option Bool}{n:Nat}:∀ (s:List SV) (v:List Value),SVs.ret n s=true->MZ s=true->SRs P B pl tb s v->v=KK pl s
 |[],v,_,_,hs=>by simp only[SRs] at hs;exact hs
 |s::ss,v,h,hb,hs=>by simp only[SVs.ret,z4] at h;simp only[MZ,z4] at hb;simp only[SRs] at hs;obtain⟨x,y,rfl,h1,h2⟩:=hs;rw[UJ s x h.1 hb.1 h1,DT ss y h.2 hb.2 h2];rfl
end
theorem Q1l {k:Kind}{x:k.T}(h:k.flat=true):Zc ((At k x).headD poison)=true\/(At k x).headD poison=poison:=by
 have:=BB (x:=x) h;cases e:At k x with
 |nil=>exact .inr rfl
 |cons a l=>rw[e] at this;simp only[zS,z4] at this;exact .inl this.1
mutual
theorem O9 {n m:Nat}{π:Nat->Nat}{p q:Nat->Value}(h:∀ j,j<m->Ren n π (p j) (q j)):∀ (s:SV),s.ret m=true->U9 s=true->Ren n π (Ui p s) (Ui q s)
 |.val k x,hr,_=>by
  simp only[Ui];rcases Q1l (x:=x) hr with h|h
  .exact .plain _ h
  .rw[h];exact .poison _
 |.nilS,_,_|.nilP,_,_|.nilM,_,_|.nilF,_,_=>.plain _ rfl
 |.lst j,hr,_=>h j (by simpa [SV.ret,zJ] using hr)
 |.agg l,hr,hb=>by have:=Rk h l hr hb;simp only[Ui];refine .agg _ _ (by simpa using this.1) λi h1 h2=>this.2 i _ _ (by simp) (by simp)
 |.tup l,hr,hb=>by have:=Rk h l hr hb;simp only[Ui];refine .tuple _ _ (by simpa using this.1) λi h1 h2=>this.2 i _ _ (by simp) (by simp)
 |.box _ _,_,hb|.map _,_,hb=>by cases hb
 |.any,h,_|.bid _ _,h,_|.grd _ _,h,_|.sub _ _ _ _,h,_|.elp _ _ _ _,h,_|.rop _ _ _ _,h,_|.cp _ _,h,_|.fn _ _ _,h,_|.pf _ _ _ _,h,_=>by cases h
theorem Rk {n m:Nat}{π:Nat->Nat}{p q:Nat->Value}(h:∀ j,j<m->Ren n π (p j) (q j)):∀ (s:List SV),SVs.ret m s=true->MZ s=true->LRen n π (KK p s) (KK q s)
 |[],_,_=>⟨rfl,λi v c hv=>by simp[KK] at hv⟩
 |s::ss,hr,hb=>by
  simp only[SVs.ret,z4] at hr;simp only[MZ,z4] at hb;have h1:=O9 h s hr.1 hb.1;have h2:=Rk h ss hr.2 hb.2;refine⟨by simp[KK,h2.1],λi v c hv hc=>?_⟩;cases i with
  |zero=>simp[KK] at hv hc;subst hv;subst hc;exact h1
  |succ i=>simp[KK] at hv hc;exact h2.2 i v c hv hc
end
mutual
theorem EC {m:Nat}{S:Nat->Prop}{p q:Nat->Value}(h:∀ j,j<m->Weak S (p j) (q j)):∀ (s:SV),s.ret m=true->U9 s=true->Weak S (Ui p s) (Ui q s)
 |.val k x,_,_=>.refl _
 |.nilS,_,_|.nilP,_,_|.nilM,_,_|.nilF,_,_=>.refl _
 |.lst j,hr,_=>h j (by simpa [SV.ret,zJ] using hr)
 |.agg l,hr,hb=>by have:=HV h l hr hb;simp only[Ui];exact .agg _ _ this.1 this.2
 |.tup l,hr,hb=>by have:=HV h l hr hb;simp only[Ui];exact .tuple _ _ this.1 this.2
 |.box _ _,_,hb|.map _,_,hb=>by cases hb
 |.any,h,_|.bid _ _,h,_|.grd _ _,h,_|.sub _ _ _ _,h,_|.elp _ _ _ _,h,_|.rop _ _ _ _,h,_|.cp _ _,h,_|.fn _ _ _,h,_|.pf _ _ _ _,h,_=>by cases h
theorem HV {m:Nat}{S:Nat->Prop}{p q:Nat->Value}(h:∀ j,j<m->Weak S (p j) (q j)):∀ (s:List SV),SVs.ret m s=true->MZ s=true->(KK p s).length=(KK q s).length/\∀ (i:Nat) (a b:Value),(KK p s)[i]?=some a->(KK q s)[i]?=some b->Weak S a b
 |[],_,_=>⟨rfl,λi v c hv=>by simp[KK] at hv⟩
 |s::ss,hr,hb=>by
  simp only[SVs.ret,z4] at hr;simp only[MZ,z4] at hb;have h1:=EC h s hr.1 hb.1;have h2:=HV h ss hr.2 hb.2;refine⟨by simp[KK,h2.1],λi v c hv hc=>?_⟩;cases i with
  |zero=>simp[KK] at hv hc;subst hv;subst hc;exact h1
  |succ i=>simp[KK] at hv hc;exact h2.2 i v c hv hc
end
theorem KC.ofEnc {h:Heap}:∀ {k:Kind}{x:k.T},k.flat=true->KC h k x (At k x)
 |.i _,_,_|.bo,_,_|.st,_,_=>by simp[KC,At]
 |.list _,_,f=>by cases f
 |.pair a b,x,f=>by simp only[Kind.flat,z4] at f;exact⟨_,_,rfl,KC.ofEnc f.1,KC.ofEnc f.2⟩
theorem Rows.ofEnc {h:Heap}{k:Kind}(hk:k.flat=true):∀ xs:List k.T,Rows (KC h k) xs (xs.map (At k)).flatten
 |[]=>.nil
 |x::xs=>by rw[zE,List.flatten_cons];exact .cons (KC.ofEnc hk) (Rows.ofEnc hk xs)
mutual
theorem CY {pl:Nat->Value}{m:Nat}(h:∀ j,j<m->∃ a n c,pl j=.slice a n c):∀ (s:SV),s.ret m=true->U9 s=true->SR P hNil pl J9 s (Ui pl s)
 |.val k x,hr,hb=>by have h1:=KC.ofEnc (h:=hNil) (x:=x) hr;have h2:=KC.length h1;rw[Kind.q1p hb] at h2;obtain⟨c,e⟩:=xj.1 h2;simp only[Ui,SR,e,List.headD_cons];rw[e] at h1;exact h1
 |.nilS,_,_|.nilP,_,_|.nilM,_,_|.nilF,_,_=>by simp[Ui,SR]
 |.lst j,hr,_=>by simp only[Ui,SR];exact⟨trivial,h j (by simpa [SV.ret,zJ] using hr)⟩
 |.agg l,hr,hb=>by simp only[Ui,SR];exact⟨_,rfl,A3 h l hr hb⟩
 |.tup l,hr,hb=>by simp only[Ui,SR];exact⟨_,rfl,A3 h l hr hb⟩
 |.box _ _,_,hb|.map _,_,hb=>by cases hb
 |.any,h,_|.bid _ _,h,_|.grd _ _,h,_|.sub _ _ _ _,h,_|.elp _ _ _ _,h,_|.rop _ _ _ _,h,_|.cp _ _,h,_|.fn _ _ _,h,_|.pf _ _ _ _,h,_=>by cases h
theorem A3 {pl:Nat->Value}{m:Nat}(h:∀ j,j<m->∃ a n c,pl j=.slice a n c):∀ (s:List SV),SVs.ret m s=true->MZ s=true->SRs P hNil pl J9 s (KK pl s)
 |[],_,_=>by simp[KK,SRs]
 |s::ss,hr,hb=>by simp only[SVs.ret,z4] at hr;simp only[MZ,z4] at hb;simp only[KK,SRs];exact⟨_,_,rfl,CY h s hr.1 hb.1,A3 h ss hr.2 hb.2⟩
end
theorem Z0n {M:Heap}{bs:List OB}(hl:bs.all OB.isL=true) {j:Nat}(hj:j<bs.length):∃ a n c,LG M bs j=.slice a n c:=by
 have hb:=z8.1 hl _ (zu hj);simp only[LG,z5 hj];cases e:bs[j] with
 |lst ty k xs nl=>cases nl<;>simp
 |_=>rw[e] at hb;cases hb
theorem OV {σ0 σf:Heap}(hA:Agree σ0 σf) (hn:σ0.n<=σf.n) {v:SV}{bs:List OB}(hv:v.ret bs.length=true) (cE:U9 v=true) (hb:bs.all OB.ret=true) (hl:bs.all OB.isL=true) {pl:Nat->Value}{u:Value}
  (ao:∀ j b,bs[j]?=some b->OR P hNil pl J9 σf (pl j) b/\∀ i,oid (pl j)=some i->σ0.n<=i)
  (fz:∀ j j' i,j<bs.length->j'<bs.length->j≠j'->oid (pl j)=some i->oid (pl j')=some i->False) (hu:SR P hNil pl J9 v u) :
  DropTo σ0 u σf (Ui (LG σ0 bs) v) (PT σ0 bs):=by
 have cg:=UJ v u hv cE hu;subst cg;have kind:∀ j,j<bs.length->∃ ty k xs nl,bs[j]?=some (.lst ty k xs nl)/\k.flat=true/\((nl=true/\xs=[]/\pl j=.slice none 0 0)\/(nl=false/\∃ i cap c t,pl j=.slice (some ⟨i,0,none⟩) xs.length cap/\xs.length<=cap/\σ0.n<=i/\σf.get i=some (.cells c ⟨k.size,ty⟩ true t)/\c.take (xs.length*k.size)=(xs.map (At k)).flatten/\Rows (KC hNil k) xs (xs.map (At k)).flatten)):=by
  intro j hj;have e:=z5 hj;have h1:=z8.1 hb _ (zu hj);have h2:=z8.1 hl _ (zu hj);obtain⟨ho,hi⟩:=ao j _ e;cases de:bs[j] with
  |lst ty k xs nl =>
   rw[de] at e ho h1;refine⟨ty,k,xs,nl,e,h1,?_⟩;rcases ho with⟨k1,k2,k3⟩|⟨k0,i,cap,c,t,k1,k2,k3,k4,k5⟩
   .exact .inl ⟨k1,k2,k3⟩
   .have k6:=Rows.enc h1 k5;exact .inr ⟨k0,i,cap,c,t,k1,k2,hi i (by rw[k1];rfl),k3,k6,by rw[<-k6];exact k5⟩
  |_=>rw[de] at h2;cases h2
 let S:Nat->Bool:=λi=>(List.range bs.length).any λj=>decide (oid (pl j)=some i);have hS:∀ i,S i=true<->∃ j,j<bs.length/\oid (pl j)=some i:=λi=>by simp only[S,xF,zA,zn]
 let σw:Heap:=⟨λi=>if S i=true then ((List.range bs.length).find? λj=>decide (oid (pl j)=some i)).bind λj=>(bs[j]?).bind Q5a else σf.get i,σf.n,λi hi=>by
  by_cases h:S i=true
  .obtain⟨j,hj,bh⟩:=(hS i).1 h;obtain⟨ty,k,xs,nl,_,_,h3⟩:=kind j hj;rcases h3 with⟨_,_,k3⟩|⟨_,i',cap,c,t,k1,_,_,k3,_⟩
   .rw[k3] at bh;cases bh
   .rw[k1] at bh;obtain rfl:=osj bh;exact absurd (σf.lt k3) (wq.2 hi)
  .rw[z0 h];exact σf.wf i hi⟩
 have cU:∀ j i,j<bs.length->oid (pl j)=some i->σw.get i=(bs[j]?).bind Q5a:=λj i hj bh=>by
  have h1:S i=true:=(hS i).2 ⟨j,hj,bh⟩;show (if S i=true then _ else _)=_;rw[z3 h1];cases hf:(List.range bs.length).find? λj=>decide (oid (pl j)=some i) with
  |none=>have:=List.find?_eq_none.1 hf j (zA.2 hj);simp[bh] at this
  |some j' =>have h2:=List.find?_some hf;have h3:=zA.1 (List.mem_of_find?_eq_some hf);have h4:j'=j:=Classical.byContradiction λaw=>fz j' j i h3 hj aw (by simpa using h2) bh;subst h4;rfl
 let q:Nat->Value:=λj=>match pl j with
  |.slice (some a) n _=>.slice (some a) n n
  |v=>v
 have hq:∀ j,j<bs.length->Weak (λi=>S i=true) (pl j) (q j):=λj hj=>by
  obtain⟨ty,k,xs,nl,_,_,h3⟩:=kind j hj;rcases h3 with⟨_,_,k3⟩|⟨_,i',cap,c,t,k1,k2,_,k3,_⟩
  .simp only[q,k3];exact .refl _
  .simp only[q,k1];exact .sl _ _ _ ((hS i').2 ⟨j,hj,by rw[k1];rfl⟩) k2
 have od:DropTo σ0 (Ui pl v) σf (Ui q v) σw:=by
  refine DropTo.weaken S (λi hi=>?_) rfl hn (λi hi=>?_) (λi hi=>?_) (EC hq v hv cE)
  .obtain⟨j,hj,bh⟩:=(hS i).1 hi;exact(ao j _ (z5 hj)).2 i bh
  .show (if S i=true then _ else _)=_;rw[z0 (by simp[hi])]
  .obtain⟨j,hj,bh⟩:=(hS i).1 hi;obtain⟨ty,k,xs,nl,e,_,h3⟩:=kind j hj;rcases h3 with⟨_,_,k3⟩|⟨k0,i',cap,c,t,k1,k2,_,k3,k4,_⟩
   .rw[k3] at bh;cases bh
   .rw[k1] at bh;obtain rfl:=osj bh;refine⟨c,_,true,t,xs.length*k.size,k3,?_⟩;rw[cU j _ hj (by rw[k1];rfl),e];simp only[xx,Q5a,k0];rw[k4];rfl
 have i_:∀ j i,j<bs.length->oid (pl j)=some i->i<σf.n:=λj i hj bh=>by
  obtain⟨ty,k,xs,nl,_,_,h3⟩:=kind j hj;rcases h3 with⟨_,_,k3⟩|⟨_,i',cap,c,t,k1,_,_,k3,_⟩
  .rw[k3] at bh;cases bh
  .rw[k1] at bh;obtain rfl:=osj bh;exact σf.lt k3
 let π:Nat->Nat:=λi=>if i<σ0.n then i else match oid (pl (i-σ0.n)) with
  |some id=>id
  |none=>σf.n+i
 have uh:σw.n=σf.n:=rfl;have oe:DropTo σ0 (Ui q v) σw (Ui (LG σ0 bs) v) (PT σ0 bs):=by
  refine DropTo.rename2 π (by simp[PT]) (λi hi=>⟨by simp[π,hi],?_,.inl ?_⟩) (λi h1 h2=>?_) (λi j h1 h2 h3 h4 he=>?_) (O9 (λj hj=>?_) v hv cE)
  .have hs:S i=false:=by
    cases hs:S i with
    |false=>rfl
    |true=>obtain⟨j,hj,bh⟩:=(hS i).1 hs;have:=(ao j _ (z5 hj)).2 i bh;omega
   show (if i<σ0.n then _ else _)=(if S i=true then _ else _);rw[z3 hi,z0 (by simp[hs]),hA i hi]
  .have hs:S i=false:=by
    cases hs:S i with
    |false=>rfl
    |true=>obtain⟨j,hj,bh⟩:=(hS i).1 hs;have:=(ao j _ (z5 hj)).2 i bh;omega
   show (if S i=true then _ else _)=_;rw[z0 (by simp[hs]),hA i hi]
  .have hj:i-σ0.n<bs.length:=by simp[PT] at h2;omega
   have bB:¬ i<σ0.n:=by omega
   obtain⟨ty,k,xs,nl,e,qJ,h3⟩:=kind _ hj;have og:(PT σ0 bs).get i=(bs[i-σ0.n]?).bind Q5a:=by show (if i<σ0.n then _ else _)=_;rw[z0 bB]
   rcases h3 with⟨k0,_,k3⟩|⟨k0,i',cap,c,t,k1,k2,lT,k3,k4,_⟩
   .have hp:π i=σf.n+i:=by simp only[π,z0 bB,k3,oid]
    refine⟨by omega,.inl ⟨?_,σw.wf _ (by rw[hp,uh];omega)⟩⟩;rw[og,e];simp[Q5a,k0]
   .have hp:π i=i':=by simp only[π,z0 bB,k1,oid]
    rw[hp];have hw:=cU _ i' hj (by rw[k1];rfl);rw[e] at hw;simp only[xx,Q5a,k0] at hw;refine⟨lT,.inr ⟨_,_,?_,hw,BRen.plain ?_⟩⟩
    .rw[og,e];simp[Q5a,k0]
    .simp only[Blk.plain,List.all_flatten,List.all_map];rw[z8];intro x _;exact BB qJ
  .have hi:i-σ0.n<bs.length:=by simp[PT] at h2;omega
   have hj:j-σ0.n<bs.length:=by simp[PT] at h4;omega
   have gX:¬ i<σ0.n:=by omega
   have ui:¬ j<σ0.n:=by omega
   simp only[π,z0 gX,z0 ui] at he;cases e1:oid (pl (i-σ0.n)) with
   |none =>
    cases e2:oid (pl (j-σ0.n)) with
    |none=>rw[e1,e2] at he;simp only at he;omega
    |some b=>rw[e1,e2] at he;have:=i_ _ b hj e2;simp only at he;omega
   |some a =>
    cases e2:oid (pl (j-σ0.n)) with
    |none=>rw[e1,e2] at he;have:=i_ _ a hi e1;simp only at he;omega
    |some b =>rw[e1,e2] at he;simp only at he;subst he;have:i-σ0.n=j-σ0.n:=Classical.byContradiction λaw=>fz _ _ a hi hj aw e1 e2;omega
  .obtain⟨ty,k,xs,nl,e,_,h3⟩:=kind j hj;rcases h3 with⟨k0,kx,k3⟩|⟨k0,i',cap,c,t,k1,k2,_,k3,_⟩
   .simp only[LG,e,k0,zB,q,k3];exact .plain _ rfl
   .simp only[LG,e,k0,zy,if_false,q,k1];have hp:π (σ0.n+j)=i':=by
     have:¬ σ0.n+j<σ0.n:=by omega
     simp only[π,z0 this,Nat.add_sub_cancel_left,k1,oid]
    have:=Ren.sl (n:=(PT σ0 bs).n) (π:=π) (σ0.n+j) 0 xs.length xs.length (by simp[PT];omega)
    rwa [hp] at this
 exact od.trans oe
def OB.wfL:OB->Prop
 |.lst _ _ xs nl=>nl=true->xs=[]
 |_=>True
theorem Av (σ0:Heap) {v:SV}{bs:List OB}(hv:v.ret bs.length=true) (cE:U9 v=true) (hb:bs.all OB.ret=true) (hl:bs.all OB.isL=true) (hw:∀ b∈bs,b.wfL):Ret P σ0 v bs (Ui (LG σ0 bs) v) (PT σ0 bs):=by
 have kind:∀ j,j<bs.length->∃ ty k xs nl,bs[j]?=some (.lst ty k xs nl)/\k.flat=true/\(nl=true->xs=[]):=λj hj=>by
  have e:=z5 hj;have h1:=z8.1 hb _ (zu hj);have h2:=z8.1 hl _ (zu hj);have h3:=hw _ (zu hj);cases de:bs[j] with
  |lst ty k xs nl=>rw[de] at e h1 h3;exact⟨ty,k,xs,nl,e,h1,h3⟩
  |_=>rw[de] at h2;cases h2
 refine⟨⟨?_,?_⟩,?_,LG σ0 bs,λj b hj=>?_,λj j' i hj du aw h1 h2=>?_,CY (λj hj=>Z0n hl hj) v hv cE⟩
 .refine⟨by simp[PT],λi b hg=>?_⟩;show (if i<σ0.n then _ else _)=_;rw[z3 (σ0.lt hg)];exact hg
 .refine⟨by simp[PT],λi hi hg=>?_⟩;show (if i<σ0.n then _ else _)=_;rw[z3 hi];exact hg
 .rintro rfl;apply Heap.ext'
  .intro i;show (if i<σ0.n then _ else _)=_;by_cases hi:i<σ0.n
   .rw[z3 hi]
   .rw[z0 hi,σ0.wf i (by omega)];rfl
  .simp[PT]
 .have cj:j<bs.length:=(z9.1 hj).1;obtain⟨ty,k,xs,nl,e,qJ,h3⟩:=kind j cj;obtain rfl:=osj (e.symm.trans hj);cases nl with
  |true =>
   have hp:LG σ0 bs j=.slice none 0 0:=by simp[LG,e]
   rw[hp];exact⟨.inl ⟨rfl,h3 rfl,rfl⟩,λi hi=>by cases hi⟩
  |false =>
   have hp:LG σ0 bs j=.slice (some ⟨σ0.n+j,0,none⟩) xs.length xs.length:=by simp[LG,e]
   have k5:=Rows.ofEnc (h:=hNil) qJ xs;have df:=k5.length KC.q0h;rw[hp];refine⟨.inr ⟨rfl,σ0.n+j,xs.length,(xs.map (At k)).flatten,false,rfl,z7 _,?_,by omega,?_⟩,λi hi=>?_⟩
   .show (if σ0.n+j<σ0.n then _ else _)=_;rw[z0 (by omega),Nat.add_sub_cancel_left,e];simp[Q5a]
   .rw[zM (by omega)];exact k5
   .obtain rfl:=osj hi;exact⟨σ0.wf _ (by simp),by simp⟩
 .obtain⟨ty,k,xs,nl,e,_,h3⟩:=kind j hj;obtain⟨jc,k',cG,jJ,e',_,kG⟩:=kind j' du;simp only[LG,e] at h1;simp only[LG,e'] at h2;cases nl with
  |true=>simp[Oid,oid] at h1
  |false =>
   cases jJ with
   |true=>simp[Oid,oid] at h2
   |false=>simp[Oid,oid] at h1 h2;omega
end
end Go.V
namespace Go.V
open Go
section
variable {P:Program}{B F:Heap}{pl:Nat->Value}{tb:Nat->Option Bool}{own:Own}{M:Heap}
mutual
theorem Q02 {bx:List SV->Nat->SV}(hle:B.Le M) (ax:∀ d,OR P B pl tb M (pl d) (Qe own d))
  (kH:∀ l off b c e t,M.get b=some (.cells c e true t)->SRs P B pl tb l c->SR P M Xd J9 (bx l off) (.pointer (some ⟨b,off,none⟩))) :
  ∀ (s:SV) (v:Value),SR P B pl tb s v->SR P M Xd J9 (RS own bx s) v
 |.any,v,h=>by simp[RS,SR]
 |.val k x,v,h=>by simp only[RS,SR] at h |-;exact h.mono hle
 |.bid n c,v,h=>by simp only[RS,SR] at h |-;obtain⟨rfl,_⟩:=h;rfl
 |.grd gs s,v,h=>by simp[RS,SR]
 |.nilS,v,h=>by simp only[RS,SR] at h |-;exact h
 |.nilP,v,h=>by simp only[RS,SR] at h |-;exact h
 |.nilM,v,h=>by simp only[RS,SR] at h |-;exact h
 |.nilF,v,h=>by simp only[RS,SR] at h |-;exact h
 |.lst o,v,h=>by
  simp only[RS];split
  .rename_i ty k xs nl ho;have:view own k (.lst o)=some xs:=by simp[view,ho,MA]
   simp only[SR,KC];exact⟨v,rfl,(Us hle ax this h).mono (Heap.Le.refl _) λ_ _ e=>e.mono hle⟩
  .simp[SR]
 |.sub o lo n sz,v,h=>by
  simp only[RS];split
  .rename_i ty k xs nl ho;split
   .rename_i aL;have:view own k (.sub o lo n sz)=some ((xs.drop lo).take n):=by simp[view,ho,MA,aL]
    simp only[SR,KC];exact⟨v,rfl,(Us hle ax this h).mono (Heap.Le.refl _) λ_ _ e=>e.mono hle⟩
   .simp[SR]
  .simp[SR]
 |.elp o i off sz,v,h=>by simp[RS,SR]
 |.dd o w,v,h=>by
  simp only[RS];simp only[SR] at h;split
  .rename_i ty q k xs nl hole ho;have ao:=ax o;rw[ho] at ao;have dq:=DP.le ao;split
   .split
    .obtain⟨h1,_⟩:=h;simp only[SR,KC];refine⟨v,rfl,?_⟩;rw[h1];exact(DP.sl ao).mono dq λ_ _ e=>e.mono dq
    .simp[SR]
   .simp only[SR];exact KC.mono dq h
   .simp only[SR];exact KC.mono dq h.1
   .simp[SR]
  .simp[SR]
 |.map o,v,h=>by simp[RS,SR]
 |.tup l,v,h=>by simp[RS,SR]
 |.box o off,v,h=>by
  simp only[RS];split
  .rename_i l _ ho;have ao:=ax o;rw[ho] at ao;obtain⟨i,c,e,t,h1,h2,h3,_⟩:=ao;simp only[SR] at h;obtain⟨b,h4,rfl⟩:=h;rw[h4] at h1;obtain rfl:=(by simpa using h1:b=i);exact kH l off b c e t h2 h3
  .simp[SR]
 |.rop k l i off,v,h=>by simp only[RS];exact SR.mono (tb:=tb) hle (λn c hn=>hn) (.rop k l i off) v h |> λh=>by simp only[SR] at h |-;exact h
 |.cp l off,v,h=>by simp only[RS,SR] at h |-;obtain⟨b,c,e,wr,t,h1,h2,h3⟩:=h;exact⟨b,c,e,wr,t,hle.2 _ _ h1,h2,XD hle ax kH l c h3⟩
 |.agg l,v,h=>by simp only[RS,SR] at h |-;obtain⟨cs,h1,h2⟩:=h;exact⟨cs,h1,XD hle ax kH l cs h2⟩
 |.fn f a b,v,h=>by simp only[RS,SR] at h |-;obtain⟨x,y,h1,h2,h3⟩:=h;exact⟨x,y,h1,XD hle ax kH a x h2,XD hle ax kH b y h3⟩
 |.pf ks r cR p,v,h=>by simp only[RS,SR] at h |-;exact h.mono hle
theorem XD {bx:List SV->Nat->SV}(hle:B.Le M) (ax:∀ d,OR P B pl tb M (pl d) (Qe own d))
  (kH:∀ l off b c e t,M.get b=some (.cells c e true t)->SRs P B pl tb l c->SR P M Xd J9 (bx l off) (.pointer (some ⟨b,off,none⟩))) :
  ∀ (s:List SV) (v:List Value),SRs P B pl tb s v->SRs P M Xd J9 (TF own bx s) v
 |[],v,h=>by simp only[TF,SRs] at h |-;exact h
 |s::ss,v,h=>by simp only[TF,SRs] at h |-;obtain⟨x,y,h1,h2,h3⟩:=h;exact⟨x,y,h1,Q02 hle ax kH s x h2,XD hle ax kH ss y h3⟩
end
theorem Wn (hle:B.Le M) (ax:∀ d,OR P B pl tb M (pl d) (Qe own d)) {l:List SV}{v:List Value}(h:SRs P B pl tb l v):SRs P M Xd J9 (PE own l) v:=by
 have h0:∀ {l v},SRs P B pl tb l v->SRs P M Xd J9 (J01 own l) v:=λh=>XD hle ax (λ_ _ _ _ _ _ _ _=>by simp[SR]) _ _ h;have h1:∀ {l v},SRs P B pl tb l v->SRs P M Xd J9 (J08 own l) v:=λh=>XD hle ax (λl off b c e t hg hs=>by
  simp only[SR];exact⟨b,c,e,true,t,hg,rfl,h0 hs⟩) _ _ h
 exact XD hle ax (λl off b c e t hg hs=>by
  simp only[SR];exact⟨b,c,e,true,t,hg,rfl,h1 hs⟩) _ _ h
mutual
theorem Q4x {p q:Nat->Value}{n:Nat}(h:∀ j,j<n->p j=q j):∀ (s:SV),s.ret n=true->Ui p s=Ui q s
 |.val _ _,_|.nilS,_|.nilP,_|.nilM,_|.nilF,_=>by simp[Ui]
 |.lst j,hr=>by simp only[Ui];exact h j (by simpa [SV.ret,zJ] using hr)
 |.agg l,hr=>by simp only[Ui];rw[CC h l hr]
 |.tup l,hr=>by simp only[Ui];rw[CC h l hr]
 |.box _ _,_|.map _,_=>by simp[Ui]
 |.dd _ _,_=>by simp[Ui]
 |.any,h|.bid _ _,h|.grd _ _,h|.sub _ _ _ _,h|.elp _ _ _ _,h|.rop _ _ _ _,h|.cp _ _,h|.fn _ _ _,h|.pf _ _ _ _,h=>by cases h
theorem CC {p q:Nat->Value}{n:Nat}(h:∀ j,j<n->p j=q j):∀ (s:List SV),SVs.ret n s=true->KK p s=KK q s
 |[],_=>rfl
 |s::ss,hr=>by simp only[SVs.ret,z4] at hr;simp only[KK];rw[Q4x h s hr.1,CC h ss hr.2]
end
theorem Jg {cs:List (Nat×CSp)}(aB:CsOk P cs) {f:SV}{args:List SV}{c:Prop}{v:SV}{bs:List OB}{fV:Value}{vs:List Value}(hf:SR P M Xd J9 f fV) (ha:SRs P M Xd J9 args vs)
  (h:Ue cs f args=some (c,v,bs)) (hv:v.ret bs.length=true) (hb:bs.all OB.ret=true) (hc:c):∃ g a b,fV=.func (.func g) a b/\(VCalled P g (a.toList++vs++b.toList) M λu M'=>Ret P M v bs u M') /\
  (bs.all OB.isL=true->U9 v=true->VCalled P g (a.toList++vs++b.toList) M λu M'=>u=Ui (LG M bs) v/\M'=PT M bs):=by
 have gen:(gap cs 3 f args).map (λx=>(x.1,x.2,([]:List OB)))=some (c,v,bs)->∃ g a b,fV=.func (.func g) a b/\(VCalled P g (a.toList++vs++b.toList) M λu M'=>Ret P M v bs u M') /\
   (bs.all OB.isL=true->U9 v=true->VCalled P g (a.toList++vs++b.toList) M λu M'=>u=Ui (LG M bs) v/\M'=PT M bs):=λh=>by
  simp only[zq] at h;obtain⟨⟨c',v'⟩,h1,h2⟩:=h;simp only[Prod.mk.injEq] at h2;obtain⟨rfl,rfl,rfl⟩:=h2;obtain⟨h3,g,a,b,rfl,h4⟩:=LD aB 3 M f args c' v' fV vs hf ha h1 hc;refine⟨g,a,b,rfl,h4.mono λu M' hu=>?_,λ_ cE=>h4.mono λu M' hu=>?_⟩
  .obtain⟨rfl,hu⟩:=hu;exact⟨⟨Heap.Le.refl _,Dead.refl _⟩,λ_=>rfl,Xd,(λj b hj=>by simp at hj),(λj j' i hj=>by simp at hj),hu⟩
  .obtain⟨rfl,hu⟩:=hu;have hz:PT M' []=M':=(Av (P:=P) M' (v:=v') (bs:=[]) h3 cE rfl rfl (λb hb=>by cases hb)).2.1 rfl;refine⟨?_,hz.symm⟩;rw[UJ v' u h3 cE hu];exact Q4x (λj hj=>by omega) v' h3
 cases f with
 |fn g a b =>
  simp only[Ue] at h;split at h
  .rename_i sp dF;simp only[SR] at hf;obtain⟨x,y,rfl,h1,h2⟩:=hf;refine⟨g,x.toArray,y.toArray,rfl,?_⟩;simpa using aB g sp dF (gap cs 3) (LD aB 3) M (a++args++b) (x++vs++y) c v bs ((h1.append ha).append h2) h hv hb hc
  .cases h
 |_=>exact gen h
theorem Gam.q1u {s:St}{env:Env}{M':Heap}(h:Gam P B F pl tb s env M) (hl:M.Le M') {d:Nat}(aq:(Qe s.own d).live=true) {i:Nat}(hi:Oid (pl d) i):M'.get i=M.get i:=by
  have af:=(h.obj d).q1a aq hi;cases hb:M.get i with
  |none =>
   have ao:=h.obj d;cases ho:Qe s.own d with
   |dead=>rw[ho] at aq;cases aq
   |lst ty k xs nl =>
    rw[ho] at ao;rcases ao with⟨_,_,h2⟩|⟨_,i',cap,c,t,h2,_,h3,_⟩
    .rw[h2] at hi;cases hi
    .rw[h2] at hi;obtain rfl:=osj hi;rw[h3] at hb;cases hb
   |cells l u=>rw[ho] at ao;obtain⟨i',c,e,t,h2,h3,_⟩:=ao;rw[h2] at hi;obtain rfl:=osj hi;rw[h3] at hb;cases hb
   |mapE kk vk m key n=>rw[ho] at ao;obtain⟨i',es,cl,r,e,h2,h3,_⟩:=ao;rw[h2] at hi;obtain rfl:=osj hi;rw[h3] at hb;cases hb
   |map kk vk m=>rw[ho] at ao;obtain⟨i',es,cl,h2,h3,_⟩:=ao;rw[h2] at hi;obtain rfl:=osj hi;rw[h3] at hb;cases hb
   |stk l vals=>rw[ho] at aq;cases aq
   |lpf l q s=>rw[ho] at ao aq;obtain⟨h2,_,h3⟩:=ao;rw[h2] at hi;obtain rfl:=osj hi;have h3:=h3 aq;rw[hb] at h3;cases h3
   |iter kk vk m dn=>rw[ho] at ao;obtain⟨j',i',es,cl,wr,seen,h2,h3,_⟩:=ao;rw[h2] at hi;obtain rfl:=osj hi;rw[h3] at hb;cases hb
   |deep ty q k xs nl hh =>rw[ho] at ao;obtain⟨is,_,d2,d3,_⟩:=DP.open ao;obtain⟨c,e,t,h⟩:=d2.cells i ((d3 i).1 hi);rw[h] at hb;cases hb
  |some b=>rw[hl.2 i b hb]
theorem Gam.heap {s:St}{env:Env}{M':Heap}(h:Gam P B F pl tb s env M) (hl:M.Le M'):Gam P B F pl tb s env M' :=
 ⟨h.bf,h.le.trans hl,h.env,λd=>(h.obj d).mono (Heap.Le.refl _) (λ_ _ h=>h) λaq _i hi=>h.q1u hl aq hi,h.fresh,h.sep,h.free⟩
theorem TE {env:Env}{σ0:Heap}{d nt:Nat}(dM:0<nt) (gd:Nat->Value) (bs:List OB) (hB:F.Le σ0)
  (ao:∀ j b,bs[j]?=some b->b.ret=true/\OR P hNil gd J9 M (gd j) b/\∀ i,Oid (gd j) i->σ0.n<=i)
  (fz:∀ j j' i,j<bs.length->j'<bs.length->j≠j'->Oid (gd j) i->Oid (gd j') i->False) :
  ∀ (r:List OB) (j:Nat) (pl:Nat->Value) (s:St),bs.drop j=r->Gam P B F pl tb s env M->(∀ k i,(Qe s.own k).live=true->Oid (pl k) i->i<σ0.n\/∃ j'<j,j'<bs.length/\Oid (gd j') i/\k=d+j'*nt)->(∀ j'<j,j'<bs.length->pl (d+j'*nt)=gd j') ->
   ∃ pl',Gam P B F pl' tb (s.makes d nt j r) env M/\(∀ j'<bs.length,pl' (d+j'*nt)=gd j')/\∀ q,(∀ j'<bs.length,q≠d+j'*nt)->pl' q=pl q/\(Qe (s.makes d nt j r).own q).live=(Qe s.own q).live
 |[],j,pl,s,hr,hG,_,hp=>⟨pl,hG,λj' du=>hp j' (by
   have:=congrArg List.length hr;simp at this;omega) du,λq _=>⟨rfl,rfl⟩⟩
 |b::r,j,pl,s,hr,hG,hinv,hp=>by
  have cj:j<bs.length:=by
   rcases zk j bs.length with h|h
   .exact h
   .rw[List.drop_eq_nil_of_le h] at hr;cases hr
  have de:bs[j]?=some b:=by
   have:(bs.drop j)[0]?=some b:=by rw[hr];rfl
   simpa using this
  have lk:bs.drop (j+1)=r:=by
   have:(bs.drop j).drop 1=r:=by rw[hr];rfl
   simpa [List.drop_drop,xV] using this
  obtain⟨h1,h2,h3⟩:=ao j b de;have aP:∀ j' ,j'≠j->d+j'*nt≠d+j*nt:=λj' aw e=>aw (Nat.eq_of_mul_eq_mul_right dM (by omega));obtain⟨pl',k1,k2,k3⟩:∃ pl',Gam P B F pl' tb ((s.make (d+j*nt) b).makes d nt (j+1) r) env M/\(∀ j'<bs.length,pl' (d+j'*nt)=gd j')/\∀ q,(∀ j'<bs.length,q≠d+j'*nt)->pl' q=X8 pl (d+j*nt) (gd j) q/\(Qe ((s.make (d+j*nt) b).makes d nt (j+1) r).own q).live=(Qe (s.make (d+j*nt) b).own q).live:=by
   refine TE dM gd bs hB ao fz r (j+1) (X8 pl (d+j*nt) (gd j)) _ lk (hG.make (d+j*nt) b (gd j) hG.le (λ_ _ _ _ _=>rfl) (h2.retd h1 λ_ _=>rfl) λi _ hi=>⟨F.wf _ (by have:=h3 i hi;have:=hB.1;omega),λk hk hl e=>?_⟩) (λk i hl hi=>?_) λj' du qK=>?_
   .rcases hinv k i hl e with h|⟨j',du,eE,he,_⟩
    .have:=h3 i hi;omega
    .exact fz j j' i cj eE (by omega) hi he
   .by_cases hk:k=d+j*nt
    .subst hk;simp only[X8,zB] at hi;exact .inr ⟨j,by omega,cj,hi,rfl⟩
    .have cu:(Qe s.own k).live=true:=by
      simp only[St.make,St.kill,Qr,Uu,z0 hk] at hl
      rwa [OB.q0t] at hl
     simp only[X8,z0 hk] at hi;rcases hinv k i cu hi with h|⟨j',du,h5⟩
     .exact .inl h
     .exact .inr ⟨j',by omega,h5⟩
   .by_cases e:j'=j
    .subst e;simp[X8]
    .simp only[X8,z0 (aP j' e)];exact hp j' (by omega) qK
  refine⟨pl',k1,k2,λq hq=>?_⟩;obtain⟨e1,e2⟩:=k3 q hq;refine⟨by rw[e1];simp[X8,hq j cj],?_⟩;show (Qe ((s.make (d+j*nt) b).makes d nt (j+1) r).own q).live=_;rw[e2];simp only[St.make,St.kill,Qr,Uu,z0 (hq j cj),OB.q0t]
theorem Ret.gamF {s:St}{env:Env}{d nt:Nat}(dM:0<nt) (hG:Gam P B F pl tb s env M) {v:SV}{bs:List OB}{u:Value}{M':Heap}(hv:v.ret bs.length=true) (hb:bs.all OB.ret=true) (h:Ret P M v bs u M') :
  ∃ pl',Gam P B F pl' tb (s.makes d nt 0 bs) env M'/\SR P B pl' tb (v.ren d nt) u/\∀ q,(∀ j'<bs.length,q≠d+j'*nt)->(Qe (s.makes d nt 0 bs).own q).live=(Qe s.own q).live/\pl' q=pl q/\((Qe s.own q).live=true->∀ i,Oid (pl q) i->M'.get i=M.get i):=by
 obtain⟨⟨h1,_⟩,_,gd,h2,h3,h4⟩:=h
 obtain⟨pl',h5,h6,h7⟩:=TE (tb:=tb) (d:=d) dM gd bs hG.le (λj b hj=>⟨z8.1 hb b (zG hj),(h2 j b hj).1,λi hi=>((h2 j b hj).2 i hi).2⟩) h3 bs 0 pl s rfl (hG.heap h1)
  (λk i hl hi=>.inl ((hG.obj k).q1a hl hi)) (λj' du=>by omega)
 exact⟨pl',h5,SR.ren (tb:=J9) (λj hj=>h6 j hj) _ _ hv (SR.mono (tb:=J9) (tb':=J9) (Oc B) (λ_ _ h=>h) _ _ h4),λq hq=>⟨(h7 q hq).2,(h7 q hq).1,λhl i hi=>hG.q1u h1 hl hi⟩⟩
theorem Ret.gam {s:St}{env:Env}{d nt:Nat}(dM:0<nt) (hG:Gam P B F pl tb s env M) {v:SV}{bs:List OB}{u:Value}{M':Heap}(hv:v.ret bs.length=true) (hb:bs.all OB.ret=true) (h:Ret P M v bs u M') :
  ∃ pl',Gam P B F pl' tb (s.makes d nt 0 bs) env M'/\SR P B pl' tb (v.ren d nt) u:=by
 obtain⟨pl',h1,h2,_⟩:=h.gamF dM hG hv hb;exact⟨pl',h1,h2⟩
end
end Go.V
namespace Go.V
open Go
section
variable {P:Program}
structure GBase (B0 F0 D0 B F M:Heap):Prop where
 b:B0.Le B
 f:F0.Le F
 x:∀ i b,F0.get i=some b->B0.get i=none->B.get i=none
 d:Dead D0 M
theorem GBase.of {B F M:Heap}{M':Heap}(_hB:B.Le F) (h:Dead M M'):GBase B F M B F M':=⟨.refl _,.refl _,λ_ _ _ h=>h,h⟩
theorem GBase.trans {B0 F0 D0 B F M B' F' M':Heap}(h:GBase B0 F0 D0 B F M) (h':GBase B F M B' F' M'):GBase B0 F0 D0 B' F' M' :=
 ⟨h.b.trans h'.b,h.f.trans h'.f,λi b h1 h2=>h'.x i b (h.f.2 _ _ h1) (h.x i b h1 h2),h.d.trans h'.d⟩
def GRel (P:Program) (B0 F0 D0:Heap) (s:St) (env:Env) (M:Heap):Prop:=∃ B F pl tb,GBase B0 F0 D0 B F M/\Gam P B F pl tb s env M
theorem GS {B0 F0 D0 B F:Heap}{M M':Heap}(hB:GBase B0 F0 D0 B F M) (h:Dead M M'):GBase B0 F0 D0 B F M':=⟨hB.b,hB.f,hB.x,hB.d.trans h⟩
theorem Gam.evs {B F:Heap}{pl:Nat->Value}{tb:Nat->Option Bool}{s:St}{env:Env}{M:Heap}(h:Gam P B F pl tb s env M) {gs:List Gd}(hg:Gds tb gs) (x:Operand):SR P B pl tb (gev gs s.env x) (Q5 env x):=Q1r hg h.env x
theorem Gds.nil {tb:Nat->Option Bool}:Gds tb []:=λ_ h=>by cases h
theorem Q0q {gs:List Gd}{c:Prop}(h:Z2q gs c) (hg:∀ g∈gs,g.c=g.want):c:=by
 induction gs with
 |nil=>exact h
 |cons g gs ih=>exact ih (h (hg g (by simp))) λg' dL=>hg g' (by simp[dL])
theorem ZN {gs:List Gd}{cs:List Prop}{q:Prop}(h:Fk gs cs q):q/\((∀ g∈gs,g.c=g.want)->∀ c∈cs,c):=by
 induction cs with
 |nil=>exact⟨h,λ_ c hc=>by cases hc⟩
 |cons c cs ih =>
  obtain⟨h1,h2⟩:=h;obtain⟨h3,h4⟩:=ih h2;exact⟨h3,λhg c' cM=>by
   rcases zj.1 cM with rfl|cM
   .exact Q0q h1 hg
   .exact h4 hg c' cM⟩
theorem Dead.push (M:Heap) (b:Blk):Dead M (M.push b):=⟨by simp,λi hi h=>by rw[Heap.q0i _ _ hi];exact h⟩
theorem Dead.upd (M:Heap) (j:Nat) (b:Blk) (hj:(M.get j).isSome=true):Dead M (M.upd j b):=⟨by simp,λi hi h=>by
 have:i≠j:=λe=>by subst e;rw[h] at hj;cases hj
 rw[Heap.q0b _ _ this];exact h⟩
theorem Dead.kill (M:Heap) (j:Nat):Dead M (M.kill j):=⟨by simp,λi hi h=>by
 by_cases e:i=j
 .subst e;exact Heap.q0f _ _
 .rw[Heap.q0c _ e];exact h⟩
theorem Ax {e:El}{bytes m:Nat}{M M':Heap}{s u:Value}{xs:List Value}(h:Ke e bytes M s m xs=some (u,M')):Dead M M':=by
 unfold Ke at h;split at h
 .split at h
  .obtain⟨rfl,rfl⟩:=Ze h;exact Dead.refl _
  .split at h
   .obtain⟨rfl,rfl⟩:=Ze h;exact Dead.push _ _
   .cases h
 .split at h
  .rename_i hg;split at h
   .split at h
    .obtain⟨rfl,rfl⟩:=Ze h;exact Dead.refl _
    .split at h
     .split at h
      .obtain⟨rfl,rfl⟩:=Ze h;exact Dead.upd _ _ _ (by rw[hg];rfl)
      .cases h
     .split at h
      .split at h
       .obtain⟨rfl,rfl⟩:=Ze h;exact Dead.push _ _
       .split at h
        .obtain⟨rfl,rfl⟩:=Ze h;exact(Dead.kill _ _).trans (Dead.push _ _)
        .cases h
      .cases h
   .cases h
  .cases h
 .split at h
  .split at h
   .obtain⟨rfl,rfl⟩:=Ze h;exact Dead.push _ _
   .cases h
  .cases h
 .cases h
theorem VC {o:VOp}{ev:Operand->Value}{M M':Heap}{u:Value}(h:Qa o ev M=some (u,M')):Dead M M':=by
 by_cases hk:o.kind=2
 .cases o<;>first|(cases hk;done)|skip
  case alloc t z=>obtain⟨rfl,rfl⟩:=Ze h;exact Dead.push _ _
  case box t x =>
   simp only[Qa] at h;split at h
   .obtain⟨rfl,rfl⟩:=Ze h;exact Dead.push _ _
   .cases h
  case buildSlice e z n ps =>
   simp only[Qa] at h;split at h
   .obtain⟨rfl,rfl⟩:=Ze h;exact Dead.push _ _
   .cases h
  case makeSlice e b z l c =>
   simp only[Qa] at h;split at h
   .split at h
    .obtain⟨rfl,rfl⟩:=Ze h;exact Dead.push _ _
    .cases h
   .cases h
  case store size a x =>
   simp only[Qa] at h;split at h
   .split at h
    .rename_i hg;split at h
     .obtain⟨rfl,rfl⟩:=Ze h;exact Dead.upd _ _ _ (by rw[hg];rfl)
     .cases h
    .cases h
   .cases h
  case append e b x y =>
   simp only[Qa] at h;split at h
   .split at h
    .exact Ax h
    .cases h
   .cases h
  case slice size x lo hi mx =>
   simp only[Qa] at h;split at h
   .have sl:∀ {l hh:Nat}{m:Option Nat}{v:Value},Kj size M v l hh m=some (u,M')->Dead M M':=λ{l hh m v} h=>by
     unfold Kj at h;split at h
     .split at h
      .obtain⟨rfl,rfl⟩:=Ze h;exact Dead.refl _
      .cases h
     .split at h
      .split at h
       .split at h
        .obtain⟨rfl,rfl⟩:=Ze h;exact Dead.refl _
        .cases h
       .split at h
        .split at h
         .obtain⟨rfl,rfl⟩:=Ze h;exact Dead.push _ _
         .split at h<;>(obtain⟨rfl,rfl⟩:=Ze h;exact Dead.refl _)
        .cases h
      .cases h
     .cases h
    split at h
    .exact sl h
    .split at h
     .exact sl h
     .cases h
    .cases h
   .cases h
  case callF f a=>cases h
  case callV f a=>cases h
  case ext x =>
   cases x<;>first|(cases hk;done)|skip
   case makeMap=>obtain⟨rfl,rfl⟩:=Ze h;exact Dead.push _ _
   case mapUpdate mk m k v =>
    simp only[Qa,ZL] at h;split at h
    .split at h
     .rename_i hm;split at h
      .obtain⟨rfl,rfl⟩:=Ze h;refine Dead.upd _ _ _ ?_;unfold Heap.mapAt at hm;split at hm
       .rename_i hg;rw[hg];rfl
       .cases hm
      .cases h
     .cases h
    .cases h
   case mapEntry mk z m k =>
    simp only[Qa,ZL] at h;split at h
    .split at h
     .rename_i hm;split at h
      .split at h
       all_goals
        obtain⟨rfl,rfl⟩:=Ze h;refine Dead.upd _ _ _ ?_;unfold Heap.mapAt at hm;split at hm
        .rename_i hg;rw[hg];rfl
        .cases hm
      .cases h
     .cases h
    .cases h
   case entryStore m s v =>
    simp only[Qa,ZL] at h;split at h
    .split at h
     .rename_i hm;split at h
      .split at h
       .obtain⟨rfl,rfl⟩:=Ze h;refine Dead.upd _ _ _ ?_;unfold Heap.mapAt at hm;split at hm
        .rename_i hg;rw[hg];rfl
        .cases hm
       .cases h
      .cases h
     .cases h
    .cases h
   case delete mk m k =>
    simp only[Qa,ZL] at h;split at h
    .split at h
     .rename_i hm;split at h
      .obtain⟨rfl,rfl⟩:=Ze h;refine Dead.upd _ _ _ ?_;unfold Heap.mapAt at hm;split at hm
       .rename_i hg;rw[hg];rfl
       .cases hm
      .cases h
     .cases h
    .cases h
   case rangeMap x =>
    simp only[Qa,ZL] at h;split at h
    .split at h
     .obtain⟨rfl,rfl⟩:=Ze h;exact Dead.push _ _
     .cases h
    .cases h
   case nextMap x=>cases h
   case copy size a b =>
    simp only[Qa,ZL] at h;split at h
    .split at h
     .obtain⟨rfl,rfl⟩:=Ze h;exact Dead.refl _
     .split at h
      .split at h
       .rename_i hg;split at h
        .obtain⟨rfl,rfl⟩:=Ze h;exact Dead.upd _ _ _ (by rw[hg];rfl)
        .cases h
       .cases h
      .cases h
    .cases h
   case clear z x =>
    simp only[Qa,ZL] at h;split at h
    .split at h
     .obtain⟨rfl,rfl⟩:=Ze h;exact Dead.refl _
     .split at h
      .split at h
       .rename_i hg;split at h
        .obtain⟨rfl,rfl⟩:=Ze h;exact Dead.upd _ _ _ (by rw[hg];rfl)
        .cases h
       .cases h
      .cases h
    .cases h
   case strBytes e x =>
    simp only[Qa,ZL] at h;split at h
    .split at h
     .obtain⟨rfl,rfl⟩:=Ze h;exact Dead.push _ _
     .cases h
    .cases h
   case unsafeStr e x n =>
    simp only[Qa,ZL] at h;split at h
    .split at h
     .obtain⟨rfl,rfl⟩:=Ze h;exact Dead.refl _
     .split at h
      .split at h
       .rename_i hg;split at h
        .split at h
         .obtain⟨rfl,rfl⟩:=Ze h;exact Dead.upd _ _ _ (by rw[hg];rfl)
         .cases h
        .cases h
       .cases h
      .cases h
    .cases h
 .obtain rfl:=BC hk h;exact Dead.refl _
theorem G1 {B F:Heap}{pl:Nat->Value}{tb:Nat->Option Bool}{s:St}{env:Env}{M:Heap}(hG:Gam P B F pl tb s env M) {x:Operand}{b:Bool}(h:ED s.env x=some b):Q5 env x=.bool b:=by
 unfold ED at h;split at h
 .rename_i j;split at h
  .rename_i gs v he;split at h
   .split at h
    .rename_i k y;split at h
     .obtain rfl:=osj h;have:=hG.env.getD j undef;rw[he] at this;simp only[SR] at this;have h2:=this.2.1 (λg hg=>by cases hg);have h3:[env.getD j undef]=[Value.bool _]:=h2;exact(zP h3).1
     .cases h
    .cases h
   .cases h
  .cases h
 .cases h
theorem Vu {B F:Heap}{pl:Nat->Value}{tb:Nat->Option Bool}{s:St}{env:Env}{M:Heap}(hG:Gam P B F pl tb s env M) {g:Option (Nat×Bool)}{t:Bool}(h:Q50 s.env g=some t):Jy env g=some t:=by
 unfold Q50 at h;split at h
 .cases h
 .rename_i j want;split at h
  .rename_i b hb;obtain rfl:=osj h;have:=G1 hG hb;simp only[Q5] at this;simp only[Jy,this]
  .cases h
theorem Nw {B F:Heap}{pl:Nat->Value}{tb:Nat->Option Bool}{s:St}{env:Env}{M:Heap}(hG:Gam P B F pl tb s env M) {gs:List Gd}(hg:Gds tb gs) {c a b:Operand}{v:SV}(h:Q0o gs s.env c a b=some v) :
  ∃ u,Qa (.pick c a b) (Q5 env) M=some (u,M)/\SR P B pl tb v u:=by
 unfold Q0o at h;split at h
 .rename_i t ht;have e:=G1 hG ht;obtain rfl:=osj h;cases t with
  |true=>exact⟨Q5 env a,by simp only[Qa,e];rfl,hG.evs hg a⟩
  |false=>exact⟨Q5 env b,by simp only[Qa,e];rfl,hG.evs hg b⟩
 have hc:=hG.evs hg c;unfold Q8n at h;split at h
 .rename_i n t heq;rw[heq] at hc;simp only[SR] at hc;obtain⟨e,cS⟩:=hc;have ht:∀ w,t=w->Gds tb (gs++[⟨n,w,t⟩]):=λw hw g dL=>by
   rcases zz.1 dL with h1|h1
   .exact hg g h1
   .obtain rfl:=zd.1 h1;exact⟨hw,cS⟩
  have hv:∀ u,(if t then Q5 env a else Q5 env b)=u->Qa (.pick c a b) (Q5 env) M=some (u,M):=λu hu=>by simp only[Qa,e];rw[<-hu]
  split at h
  .rename_i b';simp only[zq] at h;obtain⟨y,h1,rfl⟩:=h;refine⟨.bool (t||y),hv _ ?_,Jk _⟩;cases t with
   |true=>rfl
   |false=>simpa using Wi h1 (hG.evs (ht false rfl) _)
  .rename_i a' aw;simp only[zq] at h;obtain⟨x,h1,rfl⟩:=h;refine⟨.bool (t&&x),hv _ ?_,Jk _⟩;cases t with
   |true=>simpa using Wi h1 (hG.evs (ht true rfl) _)
   |false=>rfl
  .split at h
   .rename_i k x k' y h1 h2;split at h
    .rename_i hk;subst hk;obtain rfl:=osj h;refine⟨.int k (if t then x else y),hv _ ?_,XY _ _⟩;cases t with
     |true=>have:=hG.evs (ht true rfl) a;rw[h1] at this;exact JE rfl this
     |false=>have:=hG.evs (ht false rfl) b;rw[h2] at this;exact JE rfl this
    .cases h
   .rename_i x y h1 h2;obtain rfl:=osj h;refine⟨.bool (if t then x else y),hv _ ?_,Jk _⟩;cases t with
    |true=>have:=hG.evs (ht true rfl) a;rw[h1] at this;exact Wi rfl this
    |false=>have:=hG.evs (ht false rfl) b;rw[h2] at this;exact Wi rfl this
   .cases h
 .cases h
theorem Gam.bid {B F:Heap}{pl:Nat->Value}{tb:Nat->Option Bool}{s:St}{env:Env}{M:Heap}(hG:Gam P B F pl tb s env M) {j:Nat}{v:SV}{c:Bool}(hv:∀ tb',(∀ n c,tb n=some c->tb' n=some c)->tb' s.nx=some c->SR P B pl tb' v (env.getD j undef)) :
  ∃ tb',(∀ n c,tb n=some c->tb' n=some c)/\tb' s.nx=some c/\Gam P B F pl tb' ⟨s.env.set j v,s.own,s.nx+1⟩ env M:=by
 refine⟨λn=>if n=s.nx then some c else tb n,?_,by simp,?_⟩
 .intro n c' hn;by_cases e:n=s.nx
  .rw[e,hG.free _ (z7 _)] at hn;cases hn
  .simp only[z0 e];exact hn
 .have hm:∀ n c',tb n=some c'->(λn=>if n=s.nx then some c else tb n) n=some c':=λn c' hn=>by
   by_cases e:n=s.nx
   .rw[e,hG.free _ (z7 _)] at hn;cases hn
   .simp only[z0 e];exact hn
  refine⟨hG.bf,hG.le,?_,λd=>(hG.obj d).mono (Heap.Le.refl _) hm λ_ _ _=>rfl,hG.fresh,hG.sep,λn hn=>?_⟩
  .have h1:=SRs.mono (Heap.Le.refl B) hm _ _ hG.env;by_cases hj:j<env.length
   .have:=h1.set j (hv _ hm (by simp))
    rwa [z6,z5 hj,Option.getD_some,List.set_getElem_self] at this
   .have:s.env.set j v=s.env:=List.set_eq_of_length_le (by rw[hG.env.length];omega);rw[this];exact h1
  .have:n≠s.nx:=by simp only at hn;omega
   simp only[z0 this];exact hG.free n (by simp only at hn;omega)
theorem Q4s {gs:List Gd}(h:¬ ∀ g∈gs,g.c=g.want):∃ g∈gs,g.c≠g.want:=by
 rcases Classical.em (∃ g∈gs,g.c≠g.want) with h'|h'
 .exact h'
 .exact absurd (λg hg=>Classical.byContradiction λaw=>h' ⟨g,hg,aw⟩) h
theorem Wo {B F:Heap}{pl:Nat->Value}{tb:Nat->Option Bool}{s:St}{env:Env}{M:Heap}(hG:Gam P B F pl tb s env M) {j:Nat}{want:Bool}{gs:List Gd}{s':St}(h:Pu s j want=some (gs,s')) :
  ∃ tb',Gam P B F pl tb' s' env M/\(∀ g∈gs,tb' g.id=some g.c)/\∃ b,Jy env (some (j,want))=some b/\(b=true->∀ g∈gs,g.c=g.want)/\(b=false->∃ g∈gs,g.c≠g.want):=by
 have hj:=hG.env.getD j undef;unfold Pu at h;split at h
 .rename_i c heq;obtain⟨rfl,rfl⟩:=Ze h;rw[heq] at hj;have hb:env.getD j undef=.bool c:=Wi (s:=.val .bo c) rfl hj;obtain⟨tb',h1,h2,h3⟩:=hG.bid (j:=j) (v:=.bid s.nx c) (c:=c) λtb' _ h=>by simp only[SR];exact⟨hb,h⟩
  refine⟨tb',h3,λg hg=>by obtain rfl:=zd.1 hg;exact h2,c==want,by simp only[Jy,hb],λe g hg=>?_,λe=>⟨_,zd.2 rfl,?_⟩⟩
  .obtain rfl:=zd.1 hg;simpa using e
  .simpa using e
 .rename_i n c heq;obtain⟨rfl,rfl⟩:=Ze h;rw[heq] at hj;simp only[SR] at hj;refine⟨tb,hG,λg hg=>by obtain rfl:=zd.1 hg;exact hj.2,c==want,by simp only[Jy,hj.1],λe g hg=>?_,λe=>⟨_,zd.2 rfl,?_⟩⟩
  .obtain rfl:=zd.1 hg;simpa using e
  .simpa using e
 .rename_i pA c heq;obtain⟨rfl,rfl⟩:=Ze h;rw[heq] at hj;simp only[SR] at hj;obtain⟨⟨k1,k0⟩,k2,k3⟩:=hj;obtain⟨tb',h1,h2,h3⟩:=hG.bid (j:=j) (v:=.grd pA (.bid s.nx c)) (c:=c) λtb' hm h=>by
   simp only[SR];exact⟨⟨λg hg=>hm _ _ (k1 g hg),h⟩,λae=>⟨Wi (s:=.val .bo c) (P:=P) (B:=B) (pl:=pl) (tb:=tb) rfl (by simpa only [SR] using k2 ae),h⟩,k3⟩
  refine⟨tb',h3,λg hg=>?_,?_⟩
  .rcases zz.1 hg with h4|h4
   .exact h1 _ _ (k1 g h4)
   .obtain rfl:=zd.1 h4;exact h2
  .by_cases ae:∀ g∈pA,g.c=g.want
   .have hb:env.getD j undef=.bool c:=Wi (s:=.val .bo c) (P:=P) (B:=B) (pl:=pl) (tb:=tb) rfl (by simpa only [SR] using k2 ae);refine⟨c==want,by simp only[Jy,hb],λe g hg=>?_,λe=>⟨_,zz.2 (.inr (zd.2 rfl)),by simpa using e⟩⟩;rcases zz.1 hg with h4|h4
    .exact ae g h4
    .obtain rfl:=zd.1 h4;simpa using e
   .have hex:=Q4s ae;refine⟨false,by simp only[Jy,k3 hex];rfl,(λe=>by cases e),λ_=>?_⟩;obtain⟨g,hg,aw⟩:=hex;exact⟨g,zz.2 (.inl hg),aw⟩
 .rename_i pA n c heq;obtain⟨rfl,rfl⟩:=Ze h;rw[heq] at hj;simp only[SR] at hj;obtain⟨⟨k1,k0⟩,k2,k3⟩:=hj;refine⟨tb,hG,λg hg=>?_,?_⟩
  .rcases zz.1 hg with h4|h4
   .exact k1 g h4
   .obtain rfl:=zd.1 h4;exact k0
  .by_cases ae:∀ g∈pA,g.c=g.want
   .obtain⟨hb,cS⟩:=k2 ae;refine⟨c==want,by simp only[Jy,hb],λe g hg=>?_,λe=>⟨_,zz.2 (.inr (zd.2 rfl)),by simpa using e⟩⟩;rcases zz.1 hg with h4|h4
    .exact ae g h4
    .obtain rfl:=zd.1 h4;simpa using e
   .have hex:=Q4s ae;refine⟨false,by simp only[Jy,k3 hex];rfl,(λe=>by cases e),λ_=>?_⟩;obtain⟨g,hg,aw⟩:=hex;exact⟨g,zz.2 (.inl hg),aw⟩
 .cases h
theorem Gam.gcall {B F:Heap}{pl:Nat->Value}{tb:Nat->Option Bool}{s:St}{env:Env}{M:Heap}(hG:Gam P B F pl tb s env M) {gs:List Gd}(hg:Gds tb gs) (args:List Operand):SRs P M Xd J9 (PE s.own (args.map (gev gs s.env))) (args.map (Q5 env)) :=
 Wn hG.leB hG.obj (SRs.map λx _=>hG.evs hg x)
theorem Gam.gfun {B F:Heap}{pl:Nat->Value}{tb:Nat->Option Bool}{s:St}{env:Env}{M:Heap}(hG:Gam P B F pl tb s env M) {gs:List Gd}(hg:Gds tb gs) (f:Operand):SR P M Xd J9 ((PE s.own [gev gs s.env f]).getD 0 .any) (Q5 env f):=by have:=(Wn hG.leB hG.obj (show SRs P B pl tb [gev gs s.env f] [Q5 env f] by simp only[SRs];exact⟨_,[],rfl,hG.evs hg f,rfl⟩)).getD 0 poison;simpa using this
theorem Ga {env:Env}{f:Operand}{args:List Operand}{M:Heap}{K:Value->Heap->Prop}{g:FuncId}{a b:Array Value}(e:Q5 env f=.func (.func g) a b) (h:VCalled P g (a.toList++args.map (Q5 env)++b.toList) M K) :
  vop (Q4 P) (.callV f args) env M K:=by
 simp only[vop,e];exact h
def XOk (P:Program) (f:Nat) (x:XSp):Prop :=
 ∀ (B F:Heap) (pl:Nat->Value) (tb:Nat->Option Bool) (s:St) (env:Env) (M:Heap) (d:Nat) (args:List SV) (vs:List Value) (K:SV->St->Prop) (R:Value->Heap->Prop),
  Gam P B F pl tb s env M->SRs P B pl tb args vs->x d args s K ->
  (∀ v s' B' F' pl' tb' u M',K v s'->GBase B F M B' F' M'->Gam P B' F' pl' tb' s' env M'->SR P B' pl' tb' v u->R u M')->VCalled P f vs M R
def Z4b (P:Program) (f:Nat) (x:XSp) (j:Nat):Prop :=
 ∀ (B F:Heap) (pl:Nat->Value) (tb:Nat->Option Bool) (s:St) (env:Env) (M:Heap) (d:Nat) (args:List SV) (vs:List Value) (K:SV->St->Prop) (R:Value->Heap->Prop) (t:Nat),
  Gam P B F pl tb s env M->SRs P B pl tb args vs->Q9a s.own j args=some t->x d args s K ->
  (∀ v s' u M',K v s'->Dead M M'->Gam P B F pl tb s' env M'->SR P B pl tb v u->FrL [t] s s' pl pl M M'->R u M')->VCalled P f vs M R
def Z37 (P:Program) (f:Nat) (it:ISp):Prop:=W1 P f /\
 ∀ (B:Heap) (args:List SV) (vs:List Value) (c:Prop) (m ar:Nat) (xs:Nat->List SV),SRs P B Xd J9 args vs->it args=some (c,m,ar,xs)->c ->
  (∀ k,(xs k).length=ar/\SVs.pure (xs k)=true)/\∀ (i:Nat) (Y:S5) (J:Nat->Heap->Prop) (E:Heap->Prop) (τ0:Heap),U6 P i Y->(∀ k U,J k U->B.Le U) ->
   (∀ k us U,k<m->J k U->SRs P B Xd J9 (xs k) us->Y us U λv U'=>(v=.bool true/\J (k+1) U')\/(v=.bool false/\E U')) ->
   J 0 τ0->VCallsTo P f (.func (.yield i) #[] #[]::vs) τ0 λ_ U=>J m U\/E U
def Q7g (P:Program) (o:Nat) (y:YSp):Prop :=
 ∀ (B F:Heap) (pl:Nat->Value) (tb:Nat->Option Bool) (s:St) (env:Env) (M:Heap) (args:List SV) (us:List Value) (K:SV->St->Prop) (R:Value->Heap->Prop) (i:Nat),
  Gam P B F pl tb s env M->SRs P B pl tb args us->y args s K->pl o=.pointer (some ⟨i,0,none⟩) ->
  (∀ v s' B' F' pl' tb' u M',K v s'->GBase B F M B' F' M'->Gam P B' F' pl' tb' s' env M'->SR P B' pl' tb' v u->R u M')->Rr P i us M R
def Z2l (P:Program) (f:Nat) (x:Z2m):Prop:=W1 P f /\
 ∀ (B F:Heap) (pl:Nat->Value) (tb:Nat->Option Bool) (s:St) (env:Env) (M:Heap) (o:Nat) (args:List SV) (vs:List Value) (y:YSp) (K:St->Prop) (R:Heap->Prop),
  Gam P B F pl tb s env M->SRs P B pl tb args vs->Q7g P o y->x o args (o,y) s K ->
  (∀ s' B' F' pl' tb' ah M',K s'->GBase B F M B' F' M'->Gam P B' F' pl' tb' s' ah M'->R M')->VCallsTo P f vs M λ_=>R
structure COk (P:Program) (C:Cx):Prop where
 cs:CsOk P C.cs
 xs:∀ f x,QA C.xs f=some x->XOk P f x
 it:∀ f x,QA C.it f=some x->Z37 P f x
 yl:∀ o y,QA C.yl o=some y->Q7g P o y
 iy:∀ f x,QA C.iy f=some x->Z2l P f x
 xf:∀ f j,QA C.xf f=some j->∀ x,QA C.xs f=some x->Z4b P f x j
theorem RQ {C:Cx}(aB:CsOk P C.cs) {B F:Heap}{pl:Nat->Value}{tb:Nat->Option Bool}{s:St}{env:Env}{M:Heap}(hG:Gam P B F pl tb s env M) {gs:List Gd}(hg:Gds tb gs) {raw:Bool}{o:VOp}{cs:List Prop}{v:SV}
  (h:gqc C raw o (gev gs s.env) s.own=some (cs,v)) (hc:∀ c∈cs,c) {K:Value->Heap->Prop}(hK:∀ u,SR P B pl tb v u->K u M):vop (Q4 P) o env M K:=by
 have flat:∀ {c:Prop}{v':SV},(bif v'.ret 0 then some ([c],v') else none)=some (cs,v)->v'.ret 0=true/\c/\v'=v:=λ{c v'} h=>by
  cases hv:v'.ret 0 with
  |false=>rw[hv] at h;cases h
  |true =>rw[hv] at h;obtain⟨rfl,rfl⟩:=Ze h;exact⟨rfl,hc _ (by simp),rfl⟩
 have quiet:∀ o,gq C.kt raw o (gev gs s.env) s.own=some (cs,v)->(∀ K,Zo (Qa o (Q5 env) M) (λp=>K p.1 p.2)->vop (Q4 P) o env M K)->vop (Q4 P) o env M K:=λo h hv=>by obtain⟨u,h1,h2⟩:=Cn (hG.evs hg) (λ_=>rfl) hG.leB hG.obj h hc;exact hv K (by rw[h1];exact hK u h2)
 cases o
 case callF f args =>
  simp only[gqc] at h;split at h
  .rename_i c v' heq;obtain⟨h1,h2,rfl⟩:=flat h;obtain⟨g,a,b,h3,h4,_⟩:=Jg aB (show SR P M Xd J9 (.fn f [] []) (.func (.func f) #[] #[]) by simp only[SR,SRs];exact⟨[],[],rfl,rfl,rfl⟩) (hG.gcall hg args) heq h1 rfl h2;obtain⟨rfl,rfl,rfl⟩:=(by simpa using h3:f=g/\#[]=a/\#[]=b);have:=h4.mono (R':=K) λu M' hr=>by
    obtain⟨rfl,hu⟩:=hr.flat h1;exact hK u (hu.retd (λj hj=>by omega) _ _ h1)
   show VCalled P f (args.map (Q5 env)) M K;simpa using this
  .cases h
 case callV f args =>
  simp only[gqc] at h;split at h
  .rename_i c v' heq;obtain⟨h1,h2,rfl⟩:=flat h;obtain⟨g,a,b,h3,h4,_⟩:=Jg aB (hG.gfun hg f) (hG.gcall hg args) heq h1 rfl h2;exact Ga h3 (h4.mono λu M' hr=>by
    obtain⟨rfl,hu⟩:=hr.flat h1;exact hK u (hu.retd (λj hj=>by omega) _ _ h1))
  .cases h
 case ext x =>
  cases x
  case nextMap x=>cases h
  all_goals exact quiet _ h λ_ h=>h
 all_goals exact quiet _ h λ_ h=>h
end
end Go.V
namespace Go.V
open Go
section
variable {P:Program}
mutual
theorem O8:∀ (v:SV) {K:SV->Prop},nmV v K->K v
 |.val k x,K,h=>by simp only[nmV] at h;exact h x rfl
 |.agg l,K,h=>by simp only[nmV] at h;exact Rw l h
 |.tup l,K,h=>by simp only[nmV] at h;exact Rw l h
 |.any,_,h|.dd _ _,_,h|.bid _ _,_,h|.grd _ _,_,h|.nilS,_,h|.nilP,_,h|.nilM,_,h|.nilF,_,h|.lst _,_,h|.sub _ _ _ _,_,h|.elp _ _ _ _,_,h|.rop _ _ _ _,_,h|.box _ _,_,h|.cp _ _,_,h|.map _,_,h|.fn _ _ _,_,h|.pf _ _ _ _,_,h=>by simp only[nmV] at h;exact h
theorem Rw:∀ (l:List SV) {K:List SV->Prop},Z2r l K->K l
 |[],K,h=>by simp only[Z2r] at h;exact h
 |v::r,K,h=>by simp only[Z2r] at h;exact Rw r (O8 v h)
end
theorem ZI {C:Cx}{o:VOp}{ev:Operand->SV}{v:SV}{K:SV->Prop}(h:gnm C o ev v K):K v:=by
 unfold gnm at h;cases hb:(C.nm&&J0c o ev) with
 |true=>rw[hb] at h;exact O8 v h
 |false=>rw[hb] at h;exact h
theorem T0 {B:Heap}{pl:Nat->Value}{tb:Nat->Option Bool}{v:SV}{u:Value}(h:SR P B pl tb v u):SR P B pl tb (Bw v) u/\gtb tb (Bw v):=by
 cases v with
 |bid n c=>simp only[SR] at h;obtain⟨rfl,_⟩:=h;exact⟨Jk _,trivial⟩
 |_=>exact⟨h,trivial⟩
theorem Th {tb:Nat->Option Bool}(v:SV):gtb tb (Bw v):=by cases v<;>trivial
theorem Pc {C:Cx}(aB:COk P C) {B F:Heap}{pl:Nat->Value}{tb:Nat->Option Bool}{s:St}{env:Env}{M:Heap}(hG:Gam P B F pl tb s env M) {d:Nat}{f:SV}{args:List SV}{fV:Value}{vs:List Value}(hf:SR P B pl tb f fV) (ha:SRs P B pl tb args vs) {K:SV->St->Prop}(h:On C d f args s K) {R:Value->Heap->Prop}
  (hK:∀ v s' B' F' pl' tb' u M',K v s'->GBase B F M B' F' M'->Gam P B' F' pl' tb' s' env M'->SR P B' pl' tb' v u->R u M'):∃ g a b,fV=.func (.func g) a b/\VCalled P g (a.toList++vs++b.toList) M R:=by
 unfold On at h;have lH:SR P M Xd J9 ((PE s.own [f]).getD 0 .any) fV:=by have:=(Wn hG.leB hG.obj (show SRs P B pl tb [f] [fV] by simp only[SRs];exact⟨_,[],rfl,hf,rfl⟩)).getD 0 poison;simpa using this
 have jY:=Wn hG.leB hG.obj ha;split at h
 .rename_i c v bs heq;cases hb:(v.ret bs.length&&(bs.all OB.ret&&Nat.blt 0 C.nt)) with
  |false=>rw[hb] at h;exact h.elim
  |true =>rw[hb] at h;obtain⟨h1,h2⟩:=h;simp only[z4] at hb;obtain⟨g,a,b,e,aC,_⟩:=Jg aB.cs lH jY heq hb.1 hb.2.1 h1;refine⟨g,a,b,e,aC.mono λu M' hr=>?_⟩;obtain⟨pl',h3,h4⟩:=hr.gam (nt:=C.nt) (d:=d) (by simpa [zJ] using hb.2.2) hG hb.1 hb.2.1;exact hK _ _ B F pl' tb u M' h2 (.of hG.bf hr.1.2) h3 h4
 .exact h.elim
theorem Pp {C:Cx}(aB:COk P C) {B F:Heap}{pl:Nat->Value}{tb:Nat->Option Bool}{s:St}{env:Env}{M:Heap}(hG:Gam P B F pl tb s env M) {d:Nat}{f:SV}{args:List SV}{fV:Value}{vs:List Value}(hf:SR P B pl tb f fV) (ha:SRs P B pl tb args vs) {K:SV->St->Prop}(h:L8 C d f args s K) (uj:∀ o,f≠.dd o .yv) {R:Value->Heap->Prop}
  (hK:∀ v s' B' F' pl' tb' u M',K v s'->GBase B F M B' F' M'->Gam P B' F' pl' tb' s' env M'->SR P B' pl' tb' v u->R u M'):∃ g a b,fV=.func (.func g) a b/\VCalled P g (a.toList++vs++b.toList) M R:=by
 unfold L8 at h;split at h
 .rename_i g a b;split at h
  .rename_i x hx;have uk:=hf;simp only[SR] at hf;obtain⟨a',b',rfl,h1,h2⟩:=hf;refine⟨g,a'.toArray,b'.toArray,rfl,?_⟩;have:=aB.xs g x hx B F pl tb s env M d _ _ K R hG (h1.append (ha.append h2)) h hK;simpa using this
  .exact Pc aB hG hf ha h hK
 .exact(uj _ rfl).elim
 .exact Pc aB hG hf ha h hK
theorem Q0m {C:Cx}{B F:Heap}{pl:Nat->Value}{tb:Nat->Option Bool}{s:St}{env:Env}{M:Heap}(hG:Gam P B F pl tb s env M) {d:Nat}{o:VOp}{K:SV->St->Prop}(h:gnd C d o (gev [] s.env) s K) {R:Value->Heap->Prop}
  (hK:∀ v s' B' F' pl' tb' u M',K v s'->GBase B F M B' F' M'->Gam P B' F' pl' tb' s' env M'->SR P B' pl' tb' v u->R u M'):vop (Q4 P) o env M R:=by
 obtain⟨u,M',pl',v,s',h1,h2,h3,h4⟩:=RL (λx=>hG.evs (Gds.nil (tb:=tb)) x) hG h;have fin:Zo (Qa o (Q5 env) M) (λp=>R p.1 p.2):=by rw[h1];exact hK v s' B F pl' tb u M' h2 (.of hG.bf (VC h1)) h3.1 h4
 cases o
 case buildSlice e z n ps=>exact fin
 case makeSlice e b z l c=>exact fin
 case append e b x y=>exact fin
 case store size a x=>exact fin
 all_goals exact h.elim
section
variable {B F:Heap}{pl:Nat->Value}{tb:Nat->Option Bool}{s:St}{env:Env}{M:Heap}
def Heap.ins (B M:Heap) (i:Nat) (h:B.n<=M.n):Heap where
 get j:=if j=i then M.get i else B.get j
 n:=M.n
 wf j hj:=by
  by_cases e:j=i
  .simp only[z3 e];subst e;exact M.wf j hj
  .simp only[z0 e];exact B.wf j (x8 h hj)
theorem Heap.q0m (B M:Heap) (i:Nat) (h:B.n<=M.n):(B.ins M i h).get i=M.get i:=by simp[Heap.ins]
theorem Heap.q1c (B M:Heap) {i j:Nat}(h:B.n<=M.n) (e:j≠i):(B.ins M i h).get j=B.get j:=by simp[Heap.ins,e]
theorem Heap.Le.ins {B M:Heap}(h:B.Le M) (i:Nat):B.Le (B.ins M i h.1):=⟨h.1,λj b hb=>by
 by_cases e:j=i
 .subst e;rw[Heap.q0m];exact h.2 _ _ hb
 .rw[Heap.q1c _ _ _ e];exact hb⟩
theorem Heap.Le.q1v {B M:Heap}(h:B.Le M) (i:Nat):(B.ins M i h.1).Le M:=⟨z7 _,λj b hb=>by
 by_cases e:j=i
 .subst e;rw[Heap.q0m] at hb;exact hb
 .rw[Heap.q1c _ _ _ e] at hb;exact h.2 _ _ hb⟩
theorem Heap.q1w {B F M:Heap}(h:B.Le F) (i:Nat) (hB:B.n<=M.n) (hF:F.n<=M.n):(B.ins M i hB).Le (F.ins M i hF):=⟨z7 _,λj b hb=>by
 by_cases e:j=i
 .subst e;rw[Heap.q0m] at hb |-;exact hb
 .rw[Heap.q1c _ _ _ e] at hb |-;exact h.2 _ _ hb⟩
theorem Gam.freeze (hG:Gam P B F pl tb s env M) {o i:Nat}(hl:(Qe s.own o).live=true) (hi:Oid (pl o) i) :
  GBase B F M (B.ins M i hG.leB.1) (F.ins M i hG.le.1) M/\Gam P (B.ins M i hG.leB.1) (F.ins M i hG.le.1) pl tb ⟨s.env,oset s.own o .dead,s.nx⟩ env M:=by
 have mP:=hG.fresh o i hl hi;have lv:∀ d,(Qe (oset s.own o .dead) d).live=true->d≠o/\(Qe s.own d).live=true:=λd h=>by
  rw[Qr] at h;by_cases e:d=o
  .rw[z3 e] at h;cases h
  .rw[z0 e] at h;exact⟨e,h⟩
 refine⟨⟨hG.leB.ins i,hG.le.ins i,λj b h1 h2=>?_,.refl _⟩,⟨Heap.q1w hG.bf i _ _,hG.le.q1v i,SRs.mono (hG.leB.ins i) (λ_ _ h=>h) _ _ hG.env,λd=>?_,λd j h1 h2=>?_,λd d' j aw h1 h2 h3 h4=>hG.sep d d' j aw (lv d h1).2 (lv d' h2).2 h3 h4,hG.free⟩⟩
 .have e:j≠i:=by rintro rfl;rw[mP] at h1;cases h1
  rw[Heap.q1c _ _ _ e];exact h2
 .simp only[Qr];by_cases e:d=o
  .rw[z3 e];trivial
  .rw[z0 e];exact(hG.obj d).mono (hG.leB.ins i) (λ_ _ h=>h) λ_ _ _=>rfl
 .obtain⟨aw,bR⟩:=lv d h1;have e:j≠i:=by rintro rfl;exact hG.sep d o j aw bR hl h2 hi
  rw[Heap.q1c _ _ _ e];exact hG.fresh d j bR h2
theorem Gam.own {s':St}(hG:Gam P B F pl tb s env M) (h1:s'.env=s.env) (h2:∀ d,Qe s'.own d=Qe s.own d) (h3:s'.nx=s.nx):Gam P B F pl tb s' env M :=
 ⟨hG.bf,hG.le,by rw[h1];exact hG.env,λd=>by rw[h2];exact hG.obj d,λd i=>by rw[h2];exact hG.fresh d i,λd d' i aw=>by rw[h2,h2];exact hG.sep d d' i aw,λn hn=>hG.free n (by rw[<-h3];exact hn)⟩
theorem Gam.drop (hG:Gam P B F pl tb s env M) (o:Nat):Gam P B F pl tb ⟨s.env,oset s.own o .dead,s.nx⟩ env M:=by
 have lv:∀ d,(Qe (oset s.own o .dead) d).live=true->d≠o/\(Qe s.own d).live=true:=λd h=>by
  rw[Qr] at h;by_cases e:d=o
  .rw[z3 e] at h;cases h
  .rw[z0 e] at h;exact⟨e,h⟩
 refine⟨hG.bf,hG.le,hG.env,λd=>?_,λd j h1 h2=>hG.fresh d j (lv d h1).2 h2,λd d' j aw h1 h2 h3 h4=>hG.sep d d' j aw (lv d h1).2 (lv d' h2).2 h3 h4,hG.free⟩;simp only[Qr];by_cases e:d=o
 .rw[z3 e];trivial
 .rw[z0 e];exact hG.obj d
theorem E6 (s:St) (d:Nat) (b:OB) (q:Nat):Qe (s.make d .dead).own q=Qe (oset (s.make d b).own d .dead) q:=by
 simp only[St.make,Qr];by_cases e:q=d
 .rw[z3 e,z3 e]
 .rw[z0 e,z0 e,z0 e]
theorem Q0x {C:Cx}(hG:Gam P B F pl tb s env M) {d:Nat}{x:Operand}{K:SV->St->Prop}(h:gn C d (.ext (.rangeMap x)) (gev [] s.env) s K) {R:Value->Heap->Prop}
  (hK:∀ v s' B' F' pl' tb' u M',K v s'->GBase B F M B' F' M'->Gam P B' F' pl' tb' s' env M'->SR P B' pl' tb' v u->R u M'):vop (Q4 P) (.ext (.rangeMap x)) env M R:=by
 have ha:=hG.evs (Gds.nil (tb:=tb)) x;simp only[gn] at h;split at h
 .rename_i o h1;rw[h1] at ha;simp only[SR] at ha;split at h
  .rename_i kk vk m ho;split at h
   .have ao:=hG.obj o;rw[ho] at ao;obtain⟨i,es,clock,h2,h3,h4⟩:=ao;obtain⟨g1,g2⟩:=hG.freeze (o:=o) (i:=i) (by rw[ho];rfl) (by rw[h2];rfl)
    have iJ:=g2.push d (.iter kk vk m []) (.pointer (some ⟨M.n,0,none⟩)) (.obj (.iter i clock [] clock) true) rfl
     ⟨M.n,i,es,clock,true,[],rfl,Heap.q0a _ _,by rw[Heap.q0m];exact h3,h4.mono g1.b,rfl,λt r h=>by simp at h⟩
    show Zo (Qa (.ext (.rangeMap x)) (Q5 env) M) _;have hv:Qa (.ext (.rangeMap x)) (Q5 env) M=some (.pointer (some ⟨M.n,0,none⟩),M.push (.obj (.iter i clock [] clock) true)):=by simp only[Qa,ZL,ha.1,h2,Heap.mapAt,h3]
    rw[hv];exact hK _ _ _ _ _ _ _ _ h (g1.trans (.of g2.bf (Dead.push _ _))) iJ (by simp only[SR,WM];exact⟨_,rfl,rfl⟩)
   .exact h.elim
  .exact h.elim
 .exact h.elim
theorem Q35 {C:Cx}(hG:Gam P B F pl tb s env M) {d:Nat}{x:Operand}{K:SV->St->Prop}(h:gn C d (.ext (.nextMap x)) (gev [] s.env) s K) {R:Value->Heap->Prop}
  (hK:∀ v s' B' F' pl' tb' u M',K v s'->GBase B F M B' F' M'->Gam P B' F' pl' tb' s' env M'->SR P B' pl' tb' v u->R u M'):vop (Q4 P) (.ext (.nextMap x)) env M R:=by
 have ha:=hG.evs (Gds.nil (tb:=tb)) x;simp only[gn] at h;split at h
 .rename_i o f h1;rw[h1] at ha;simp only[SR] at ha;split at h
  .rename_i kk vk m dn ho;split at h
   .rename_i hf;obtain⟨rfl,oh⟩:=hf;have aq:(Qe s.own o).live=true:=by rw[ho];rfl
    have ao:=hG.obj o;rw[ho] at ao;obtain⟨j,i,es,clock,wr,seen,h2,h3,h4,h5,h6⟩:=ao;obtain⟨b,e2,e3⟩:=ha;rw[h2] at e2;obtain rfl:j=b:=by simpa using e2
    have aG:M.mapAt i=some (es,clock,wr):=by simp[Heap.mapAt,hG.leB.2 _ _ h4]
    have hlen:=h5.1.length;obtain⟨hA,hB⟩:=h;have bh:F.get j=none:=hG.fresh o j aq (by rw[h2];rfl);have bj:∀ q i',q≠o->(Qe s.own q).live=true->Oid (pl q) i'->i'≠j:=λq i' hq hl hi e=>by subst e;exact hG.sep q o i' hq hl aq hi (by rw[h2];rfl)
    show FB (Q5 env x) M R;unfold FB;rw[e3];simp only[h3,aG];refine⟨?_,?_,λae=>?_,λe he lN=>?_⟩
    .cases es with
     |nil=>simp
     |cons e es=>simp[h5.2.2 e (by simp)]
    .rw[z8];intro e he;obtain⟨r,hr⟩:=xd.1 he;obtain⟨_,k1,_⟩:=MR.at h5.1 hr;exact Ef oh k1
    .refine hK _ _ _ _ _ _ _ _ (hA λr hr=>?_) (.of hG.bf (Dead.refl M)) hG (by simp only[SR,SRs];exact⟨[.bool false],rfl,_,[],rfl,rfl,rfl⟩);have df:r<es.length:=by omega
     have he:=z5 df;have:=z8.1 ae es[r] (zu df);have af:=h5.2.2 _ (zu df);rw[zx,zn] at this;rcases this with this|this
     .rw[List.contains_iff_mem] at this;obtain⟨t,ht⟩:=xd.1 this;have vB:t<seen.length:=(z9.1 ht).1;have r6:t<dn.length:=by have:=h6.1;omega
      obtain⟨e',k1,k2⟩:=h6.2 t dn[t] (z5 r6);rw[ht] at k2;have:=Br h5.2 he k1 (osj k2);rw[this];exact zu r6
     .omega
    .obtain⟨r,hr⟩:=xd.1 he;have df:r<es.length:=(z9.1 hr).1;have um:r∉dn:=λhm=>by
      obtain⟨t,ht⟩:=xd.1 hm;obtain⟨e',k1,k2⟩:=h6.2 t r ht;rw[hr] at k1;obtain rfl:=osj k1;have:seen.contains e.2.2=true:=by rw[List.contains_iff_mem];exact zG k2
      rw[this] at lN;cases lN
     refine hK _ _ _ _ _ _ _ _ (hB r (by omega) um) (.of hG.bf (Dead.upd _ _ _ (by rw[h3];rfl))) (hG.write o _ (hG.le.upd bh _) aq (λq i' hq hl hi=>Heap.q0b _ _ (bj q i' hq hl hi)) ⟨j,i,es,clock,wr,seen++[e.2.2],h2,Heap.q0d _ _ (M.lt h3),h4,h5,?_,λt r' ht=>?_⟩) (by simp only[SR,SRs];exact⟨[.bool true,e.1,e.2.1],rfl,_,_,rfl,rfl,_,_,rfl,trivial,_,_,rfl,trivial,rfl⟩)
     .simp[h6.1]
     .rw[List.getElem?_append] at ht;split at ht
      .rename_i af;obtain⟨e',k1,k2⟩:=h6.2 t r' ht;refine⟨e',k1,?_⟩;rw[xr (by have:=h6.1;omega)];exact k2
      .rename_i bB;have h0:t-dn.length=0:=by
        cases hz:t-dn.length with
        |zero=>rfl
        |succ n=>rw[hz] at ht;simp at ht
       rw[h0] at ht;obtain rfl:r=r':=by simpa using ht
       refine⟨e,hr,?_⟩;rw[xE (by have:=h6.1;omega),show t-seen.length=0 by have:=h6.1;omega];rfl
   .exact h.elim
  .exact h.elim
 .exact h.elim
theorem CI {d:Nat}(lU:B.Le F) {ty:Nat}{k:Kind}{xs:List k.T}{nl:Bool}(hk:k.flat=true) {pl':Nat->Value}{u:Value}{M':Heap}(h1:Gam P B F pl' tb (s.make d (.lst ty k xs nl)) env M') (h2:SR P B pl' tb (.lst d) u) (hd:Dead M M') :
  ∃ B' F',GBase B F M B' F' M'/\Gam P B' F' pl' tb (s.make d .dead) env M'/\SR P B' pl' tb (.val (.list k) xs) u:=by
 have ao:=h1.obj d;have bO:Qe (s.make d (.lst ty k xs nl)).own d=.lst ty k xs nl:=by simp only[St.make,Qr,zB]
 rw[bO] at ao;simp only[SR] at h2;obtain⟨rfl,_⟩:=h2;rcases ao with⟨_,hx,hp⟩|⟨_,i,cap,c,t,hp,di,hg,hlen,cZ⟩
 .refine⟨B,F,.of lU hd,(h1.drop d).own rfl (E6 s d _) rfl,?_⟩;simp only[SR];exact⟨_,rfl,.inl ⟨hx,hp⟩⟩
 .obtain⟨g1,g2⟩:=h1.freeze (o:=d) (i:=i) (by rw[bO];rfl) (by rw[hp];rfl);refine⟨_,_,(GBase.of lU hd).trans g1,g2.own rfl (E6 s d _) rfl,?_⟩;simp only[SR];refine⟨_,rfl,.inr ⟨i,0,cap,c,⟨k.size,ty⟩,true,t,hp,di,by rw[Heap.q0m];exact hg,rfl,by have:=zD k.size di;omega,?_⟩⟩;rw[xg];exact cZ.mono λ_ _ e=>KC.flat hk e
theorem Il {d nt:Nat}(dM:0<nt) (hG:Gam P B F pl tb s env M) {ty:Nat}{k:Kind}{xs:List k.T}{nl:Bool}(hk:k.flat=true) {u:Value}{M':Heap}(h:Ret P M (.lst 0) [.lst ty k xs nl] u M') :
  ∃ B' F' pl',GBase B F M B' F' M'/\Gam P B' F' pl' tb (s.make d .dead) env M'/\SR P B' pl' tb (.val (.list k) xs) u:=by
 obtain⟨pl',h1,h2⟩:=h.gam (d:=d) dM hG (by rfl) (by simp only[zS,List.all_nil,xW,OB.ret];exact hk);simp only[St.makes,Nat.zero_mul,zR,SV.ren] at h1 h2;obtain⟨B',F',k⟩:=CI hG.bf hk h1 h2 h.1.2;exact⟨B',F',pl',k⟩
theorem Gx {nt:Nat}{r:Option (Prop×SV×List OB)}{c:Prop}{v:SV}(h:IX nt r=some (c,v)):∃ ty k xs nl,r=some (c,.lst 0,[.lst ty k xs nl])/\v=.val (.list k) xs/\k.flat=true/\0<nt:=by
 unfold IX at h;split at h
 .split at h
  .rename_i k xs _;cases hc:(k.flat&&Nat.blt 0 nt) with
   |false=>rw[hc] at h;cases h
   |true =>rw[hc] at h;obtain⟨rfl,rfl⟩:=Ze h;simp only[z4,zJ] at hc;exact⟨_,_,_,_,rfl,rfl,hc.1,hc.2⟩
  .cases h
 .cases h
theorem FY {C:Cx}(aB:CsOk P C.cs) (hG:Gam P B F pl tb s env M) {gs:List Gd}(hg:Gds tb gs) {o:VOp}{c:Prop}{v:SV}{d:Nat}(h:CS C o (gev gs s.env) s.own=some (c,v)) (hc:c) {K:Value->Heap->Prop}
  (hK:∀ u M' B' F' pl',GBase B F M B' F' M'->Gam P B' F' pl' tb (s.make d .dead) env M'->SR P B' pl' tb v u->K u M'):vop (Q4 P) o env M K:=by
 cases o<;>first|(cases h;done)|skip
 case callF f args =>
  simp only[CS] at h;obtain⟨ty,k,xs,nl,heq,rfl,hk,dM⟩:=Gx h;obtain⟨g,a,b,h3,h4,_⟩:=Jg aB (show SR P M Xd J9 (.fn f [] []) (.func (.func f) #[] #[]) by simp only[SR,SRs];exact⟨[],[],rfl,rfl,rfl⟩) (hG.gcall hg args) heq (by rfl) (by simp only[zS,List.all_nil,xW,OB.ret];exact hk) hc;obtain⟨rfl,rfl,rfl⟩:=(by simpa using h3:f=g/\#[]=a/\#[]=b);have:=h4.mono (R':=K) λu M' hr=>by obtain⟨B',F',pl',k1,k2,k3⟩:=Il (d:=d) dM hG hk hr;exact hK u M' B' F' pl' k1 k2 k3
  show VCalled P f (args.map (Q5 env)) M K;simpa using this
 case callV f args =>
  simp only[CS] at h;obtain⟨ty,k,xs,nl,heq,rfl,hk,dM⟩:=Gx h;obtain⟨g,a,b,h3,h4,_⟩:=Jg aB (hG.gfun hg f) (hG.gcall hg args) heq (by rfl) (by simp only[zS,List.all_nil,xW,OB.ret];exact hk) hc;exact Ga h3 (h4.mono λu M' hr=>by
   obtain⟨B',F',pl',k1,k2,k3⟩:=Il (d:=d) dM hG hk hr;exact hK u M' B' F' pl' k1 k2 k3)
 case buildSlice e z n ps =>
  simp only[CS] at h;split at h
  .rename_i k pB;split at h
   .rename_i ep;split at h
    .rename_i xs hx;obtain⟨rfl,rfl⟩:=Ze h;have uo:gn C d (.buildSlice e z n ps) (gev gs s.env) s (λv s'=>v=.lst d/\s'=s.make d (.lst e.ty k xs false)):=by
      simp only[gn,pB,hx];rw[z3 ⟨ep.1,ep.2.1⟩];simp
     obtain⟨u,M',pl',v,s',h1,⟨rfl,rfl⟩,⟨h3,_⟩,h4⟩:=MP (λx=>hG.evs hg x) hG uo;obtain⟨B',F',k1,k2,k3⟩:=CI hG.bf ep.2.2 h3 h4 (VC h1);show Zo (Qa (.buildSlice e z n ps) (Q5 env) M) _;rw[h1];exact hK u M' B' F' pl' k1 k2 k3
    .cases h
   .cases h
  .cases h
theorem AJ {C:Cx}{o:VOp}{ev:Operand->SV}{own:Own}{c:Prop}{v:SV}(h:CS C o ev own=some (c,v)):∃ (k:Kind) (xs:List k.T),v=.val (.list k) xs:=by
 cases o<;>first|(cases h;done)|skip
 case callF=>simp only[CS] at h;obtain⟨ty,k,xs,nl,_,hv,_⟩:=Gx h;exact⟨k,xs,hv⟩
 case callV=>simp only[CS] at h;obtain⟨ty,k,xs,nl,_,hv,_⟩:=Gx h;exact⟨k,xs,hv⟩
 case buildSlice e z n ps =>
  simp only[CS] at h;split at h
  .split at h
   .split at h
    .obtain⟨_,rfl⟩:=Ze h;exact⟨_,_,rfl⟩
    .cases h
   .cases h
  .cases h
theorem Q5g {C:Cx}(aB:COk P C) {B F:Heap}{pl:Nat->Value}{tb:Nat->Option Bool}{s:St}{env:Env}{M:Heap}(hG:Gam P B F pl tb s env M) {d:Nat}{o:VOp}{K:SV->St->Prop}(h:gn C d o (gev [] s.env) s K) {R:Value->Heap->Prop}
  (hK:∀ v s' B' F' pl' tb' u M',K v s'->GBase B F M B' F' M'->Gam P B' F' pl' tb' s' env M'->SR P B' pl' tb' v u->R u M'):vop (Q4 P) o env M R:=by
 have aj:=hG.evs (Gds.nil (tb:=tb));have act:∀ o {T:Nat},NOk P B F tb o (Q5 env) env M K T s pl->(∀ R',Zo (Qa o (Q5 env) M) (λp=>R' p.1 p.2)->vop (Q4 P) o env M R')->vop (Q4 P) o env M R:=λo _ ⟨u,M',pl',v,s',h1,h2,h3,h4⟩ hv=>hv R (by rw[h1];exact hK v s' B F pl' tb u M' h2 (.of hG.bf (VC h1)) h3.1 h4);have az:∀ args:List Operand,SRs P B pl tb (args.map (gev [] s.env)) (args.map (Q5 env)):=λargs=>SRs.map λx _=>hG.evs Gds.nil x;cases o
 case alloc t z=>exact act _ (Q2u aj hG h) λ_ h=>h
 case box t x=>exact act _ (Z44 aj hG h) λ_ h=>h
 case buildSlice e z n ps=>exact act _ (MP aj hG h) λ_ h=>h
 case makeSlice e b z l c=>exact act _ (Tv aj hG h) λ_ h=>h
 case append e b x y=>exact act _ (O1 aj hG h) λ_ h=>h
 case store size a x=>exact act _ (Q41 aj hG h) λ_ h=>h
 case callF f args =>
  simp only[gn] at h;obtain⟨g,a,b,h3,h4⟩:=Pp aB hG (show SR P B pl tb (.fn f [] []) (.func (.func f) #[] #[]) by simp only[SR,SRs];exact⟨[],[],rfl,rfl,rfl⟩) (az args) h (λ_ e=>by cases e) hK;obtain⟨rfl,rfl,rfl⟩:=(by simpa using h3:f=g/\#[]=a/\#[]=b);show VCalled P f (args.map (Q5 env)) M R;simpa using h4
 case callV f args =>
  simp only[gn] at h;by_cases hy:∃ o,gev [] s.env f=.dd o .yv
  .obtain⟨o,hy⟩:=hy;have hf:=hG.evs (Gds.nil (tb:=tb)) f;have h':L8 C d (gev [] s.env f) (args.map (gev [] s.env)) s K:=h;rw[hy] at hf h';simp only[SR,DR] at hf;obtain⟨i,hp,hv⟩:=hf;simp only[L8] at h';split at h'
   .rename_i y uq;have:=aB.yl o y uq B F pl tb s env M _ _ K R i hG (az args) h' hp hK;simp only[vop,hv];exact this
   .exact h'.elim
  obtain⟨g,a,b,h3,h4⟩:=Pp aB hG (hG.evs Gds.nil f) (az args) h (λo e=>hy ⟨o,e⟩) hK;exact Ga h3 h4
 case ext x =>
  cases x
  case mapUpdate mk m k v=>exact act _ (Tx aj hG h) λ_ h=>h
  case delete mk m k=>exact act _ (Oj aj hG h) λ_ h=>h
  case mapEntry mk z m k=>exact act _ (Lp aj hG h) λ_ h=>h
  case entryStore m s v=>exact act _ (Pj aj hG h) λ_ h=>h
  case copy size a b=>exact False.elim h
  case unsafeStr e a n=>exact False.elim h
  case strBytes e a=>exact False.elim h
  case rangeMap a=>exact Q0x hG h hK
  case nextMap a=>exact Q35 hG h hK
  all_goals exact h.elim
 all_goals exact h.elim
theorem Gam.frz (hG:Gam P B F pl tb s env M) (o:Nat):∃ B' F',GBase B F M B' F' M/\Gam P B' F' pl tb (s.frz o) env M:=by
 unfold St.frz;split
 .rename_i ty k xs nl ho;have fin:∀ {B' F':Heap},Gam P B' F' pl tb ⟨s.env,oset s.own o .dead,s.nx⟩ env M->KC B' (.list k) xs [pl o]->Gam P B' F' pl tb ⟨SVs.frz o k xs s.env,Q6x o k xs s.own,s.nx⟩ env M:=λ{B' F'} h hk=>by
   have e1:∀ d,Qe (Q6x o k xs s.own) d=(Qe (oset s.own o .dead) d).frz o k xs:=λd=>by
    rw[Q25,Qr];by_cases e:d=o
    .rw[z3 e,z3 e];rfl
    .rw[z0 e,z0 e]
   have lv:∀ d,(Qe (Q6x o k xs s.own) d).live=(Qe (oset s.own o .dead) d).live:=λd=>by rw[e1,OB.q1y]
   refine⟨h.bf,h.le,SRs.frz hk _ _ h.env,λd=>?_,λd i h1 h2=>?_,λd d' i aw h1 h2=>?_,h.free⟩
   .simp only[e1];exact(h.obj d).frz hk
   .simp only[lv] at h1;exact h.fresh d i h1 h2
   .simp only[lv] at h1 h2;exact h.sep d d' i aw h1 h2
  have ao:=hG.obj o;rw[ho] at ao;rcases ao with⟨_,hx,hp⟩|⟨_,i,cap,c,t,hp,di,hg,hlen,cZ⟩
  .exact⟨B,F,.of hG.bf (.refl _),fin (hG.drop o) ⟨_,rfl,.inl ⟨hx,hp⟩⟩⟩
  .obtain⟨g1,g2⟩:=hG.freeze (o:=o) (i:=i) (by rw[ho];rfl) (by rw[hp];rfl);refine⟨_,_,g1,fin g2 ⟨_,rfl,.inr ⟨i,0,cap,c,⟨k.size,ty⟩,true,t,hp,di,by rw[Heap.q0m];exact hg,rfl,by have:=zD k.size di;omega,?_⟩⟩⟩;rw[xg];exact cZ.mono λ_ _ e=>KC.mono g1.b e
 .exact⟨B,F,.of hG.bf (.refl _),hG⟩
theorem GRel.frzs {B0 F0 D0:Heap}:∀ (l:List Nat) {s:St},GRel P B0 F0 D0 s env M->GRel P B0 F0 D0 (s.frzs l) env M
 |[],_,h=>h
 |o::r,s,⟨B,F,pl,tb,hB,hG⟩=>by obtain⟨B',F',g1,g2⟩:=hG.frz o;exact GRel.frzs r ⟨B',F',pl,tb,hB.trans g1,g2⟩
end
theorem Fb {j:Nat}{f:Nat->Prop}:∀ {n i:Nat},Q2o (j:Int) f n i->i<=j->j<i+n->f j
 |0,i,_,h1,h2=>by omega
 |n+1,i,h,h1,h2=>by
  rcases zk i j with h3|h3
  .exact Fb h.2 h3 (by omega)
  .have:j=i:=by omega
   subst this;exact h.1 rfl
theorem Q4a {o:VOp}{len i:Nat}{f:Nat->VOp}(h:Z5o o=some (len,i,f)) {n:Nat}:(∃ size x,f n=.indexAddrArr len size x (.const (.int .i64 (Int.ofNat n))))\/∃ agg size x,f n=.indexArr len agg size x (.const (.int .i64 (Int.ofNat n))):=by
 unfold Z5o at h;split at h
 .cases h;exact .inl ⟨_,_,rfl⟩
 .cases h;exact .inr ⟨_,_,_,rfl⟩
 .cases h
theorem Q7d {o:VOp}{len i:Nat}{f:Nat->VOp}(h:Z5o o=some (len,i,f)) {S:VSpecs}{env:Env}{M:Heap}{k:IntKind}{n:Nat}(he:Q5 env (.tmp i)=.int k (n:Int)) {R:Value->Heap->Prop}(hv:vop S (f n) env M R):vop S o env M R:=by
 have hc:Q5 env (.const (.int .i64 (Int.ofNat n)))=.int .i64 (n:Int):=rfl;unfold Z5o at h;split at h
 .rename_i len size x t;cases h;change Zo (Qa _ (Q5 env) M) _ at hv;change Zo (Qa _ (Q5 env) M) _;simp only[Qa,he,hc] at hv |-;generalize Q5 env x=u at hv |-;cases u<;>first|exact hv|skip
  rename_i p;cases p<;>first|exact hv|skip
  rename_i a;obtain⟨b,o,sp⟩:=a;cases sp<;>exact hv
 .rename_i len agg size x t;cases h;change Zo (Qa _ (Q5 env) M) _ at hv;change Zo (Qa _ (Q5 env) M) _;simp only[Qa,he,hc] at hv |-;generalize Q5 env x=u at hv |-;cases u<;>exact hv
 .cases h
theorem Lv {C:Cx}(aB:COk P C) {B0 F0 D0:Heap}{s:St}{env:Env}{M:Heap}(hR:GRel P B0 F0 D0 s env M) {o:VOper}{K:St->Prop}(h:Z6i C o s K) {R:Env->Heap->Prop}(hK:∀ s' ah M',K s'->GRel P B0 F0 D0 s' ah M'->R ah M') :
  Zo (Jy env o.guard) λb=>vif b (vop (Q4 P) o.op env M λv M'=>R (XQ env o.dst v) M') (R (XQ env o.dst undef) M):=by
 unfold Z6i at h;split at h
 .rename_i hg;rw[hg];refine⟨λ_=>?_,λe=>by cases e⟩
  replace hR:=hR.frzs (Z0k C (o.dst.getD 0) o.op (gev [] s.env) s.own)
  generalize s.frzs (Z0k C (o.dst.getD 0) o.op (gev [] s.env) s.own)=s at h hR;obtain⟨B,F,pl,tb,hB,hG⟩:=hR;unfold J0q at h;split at h
  .rename_i len i f r7;split at h
   .rename_i k j hj;obtain⟨h1,h2,h3⟩:=h;obtain⟨n,rfl⟩:=x4 h1;have hn:n<len:=by omega
    have h4:=Fb h3 (Nat.zero_le n) (by omega);have he:=JE hj (hG.evs (Gds.nil (tb:=tb)) (.tmp i));split at h4
    .rename_i cs v dH;obtain⟨k1,k2⟩:=ZN h4
     replace k1:=ZI k1
     have hv:=RQ (C:=C) aB.cs hG Gds.nil (o:=f n) (raw:=C.raw.contains (o.dst.getD 0)) (cs:=cs) (v:=v) (by
      rw[<-dH];obtain⟨size,x,hf⟩|⟨agg,size,x,hf⟩:=Q4a r7<;>rw[hf];rfl;rfl) (k2 λg hg=>by cases hg) λu hu=>hK _ _ _ k1 ⟨B,F,pl,tb,hB,hG.put o.dst hu⟩
     exact Q7d r7 he hv
    .exact h4.elim
   .exact h.elim
  unfold J04 at h;split at h
  .rename_i c a b bG;split at h
   .rename_i v hv;obtain⟨u,h1,h2⟩:=Nw hG Gds.nil hv;rw[bG];show Zo (Qa (.pick c a b) (Q5 env) M) _;rw[h1];exact hK _ _ _ (ZI h) ⟨B,F,pl,tb,hB,hG.put o.dst h2⟩
   .exact h.elim
  .rename_i vC;cases hq:Q56 o.op with
   |true =>
    rw[hq] at h;simp only[zl] at h;split at h
    .rename_i cs v dH;obtain⟨h1,h2⟩:=ZN h
     replace h1:=ZI h1
     refine RQ (C:=C) aB.cs hG Gds.nil (raw:=C.raw.contains (o.dst.getD 0)) (cs:=cs) (v:=v) ?_ (h2 λg hg=>by cases hg) λu hu=>hK _ _ _ h1 ⟨B,F,pl,tb,hB,hG.put o.dst hu⟩;rw[<-dH];cases ho:o.op<;>first|rfl|(rw[ho] at hq;cases hq)
    .exact h.elim
   |false =>
    rw[hq] at h;simp only[zQ] at h;split at h
    .rename_i bG;split at h
     .rename_i kk vk _;obtain⟨h1,h2⟩:=Q4w hG (C.off+o.dst.getD 0) kk vk;rw[bG];change R (XQ env o.dst (.map (some M.n))) (M.push (.obj (.map [] 0) true));exact hK _ _ _ h ⟨B,F,_,tb,GS hB (Dead.push _ _),h1.put o.dst h2⟩
     .exact h.elim
    .rename_i bG;cases kI:EG C (o.dst.getD 0) o.op (gev [] s.env) with
     |true =>rw[kI] at h;simp only[zl] at h;exact Q0m hG h λv s' B' F' pl' tb' u M' h1 hd h2 h3=>hK _ _ _ h1 ⟨B',F',pl',tb',hB.trans hd,h2.put o.dst h3⟩
     |false =>rw[kI] at h;simp only[zQ] at h;exact Q5g aB hG h λv s' B' F' pl' tb' u M' h1 hd h2 h3=>hK _ _ _ h1 ⟨B',F',pl',tb',hB.trans hd,h2.put o.dst h3⟩
 .rename_i j want hg;obtain⟨B,F,pl,tb,hB,hG⟩:=hR;rw[hg];split at h
  .exact h.elim
  .rename_i gs s' dX;obtain⟨tb',bp,cS,b,hw,bk,bt⟩:=Wo hG dX;rw[hw];refine⟨λe=>?_,λe=>?_⟩
   .have gy:Gds tb' gs:=λg hg=>⟨bk e g hg,cS g hg⟩;have fin:∀ {v u},SR P B pl tb' v u->SR P B pl tb' (.grd gs (Bw v)) u:=λ{v u} hs=>by
     simp only[SR];obtain⟨h1,h2⟩:=T0 hs;exact⟨⟨cS,h2⟩,λ_=>h1,λ⟨g,hg,aw⟩=>absurd (bk e g hg) aw⟩
    split at h
    .rename_i c a b' bG;split at h
     .rename_i v hv;obtain⟨u,h1,h2⟩:=Nw bp gy hv;rw[bG];show Zo (Qa (.pick c a b') (Q5 env) M) _;rw[h1];exact hK _ _ _ (ZI h) ⟨B,F,pl,tb',hB,bp.put o.dst (fin h2)⟩
     .exact h.elim
    .split at h
     .rename_i cs v dH;obtain⟨h1,h2⟩:=ZN h
      replace h1:=ZI h1
      exact RQ aB.cs bp gy dH (h2 (bk e)) λu hu=>hK _ _ _ h1 ⟨B,F,pl,tb',hB,bp.put o.dst (fin hu)⟩
     .split at h
      .rename_i c v kJ;obtain⟨h1,h2⟩:=ZN h
       replace h1:=ZI h1
       refine FY aB.cs bp gy (d:=C.off+o.dst.getD 0) kJ (h2 (bk e) c (by simp)) λu M' B' F' pl' k1 k2 k3=>hK _ _ _ h1 ⟨B',F',pl',tb',hB.trans k1,k2.put o.dst ?_⟩;simp only[SR];refine⟨⟨cS,?_⟩,λ_=>k3,λ⟨g,hg,aw⟩=>absurd (bk e g hg) aw⟩;obtain⟨k,xs,rfl⟩:=AJ kJ;trivial
      .exact h.elim
   .have fin:∀ v,SR P B pl tb' (.grd gs (Bw v)) undef:=λv=>by
     simp only[SR];obtain⟨g,hg,aw⟩:=bt e;exact⟨⟨cS,Th v⟩,λae=>absurd (ae g hg) aw,λ_=>trivial⟩
    split at h
    .split at h
     .exact hK _ _ _ (ZI h) ⟨B,F,pl,tb',hB,bp.put o.dst (fin _)⟩
     .exact h.elim
    .split at h
     .exact hK _ _ _ (ZI (ZN h).1) ⟨B,F,pl,tb',hB,bp.put o.dst (fin _)⟩
     .split at h
      .rename_i c v kJ;refine hK _ _ _ (ZI (ZN h).1) ⟨B,F,_,tb',hB,(bp.make (C.off+o.dst.getD 0) .dead undef bp.le (λ_ _ _ _ _=>rfl) trivial (λi hl _=>by cases hl)).put o.dst ?_⟩;simp only[SR];obtain⟨g,hg,aw⟩:=bt e;refine⟨⟨cS,?_⟩,λae=>absurd (ae g hg) aw,λ_=>trivial⟩;obtain⟨k,xs,rfl⟩:=AJ kJ;trivial
      .exact h.elim
theorem Q1a {C:Cx}(aB:COk P C) {B0 F0 D0:Heap}{s:St}{env:Env}{M:Heap}(hR:GRel P B0 F0 D0 s env M) {o:VOper}{K:St->Prop}(h:gop C o s K) {R:Env->Heap->Prop}(hK:∀ s' ah M',K s'->GRel P B0 F0 D0 s' ah M'->R ah M') :
  Zo (Jy env o.guard) λb=>vif b (vop (Q4 P) o.op env M λv M'=>R (XQ env o.dst v) M') (R (XQ env o.dst undef) M):=by
 unfold gop at h;split at h
 .rename_i t ht;have oi:=hR;obtain⟨B,F,pl,tb,hB,hG⟩:=hR;rw[Vu hG ht];cases t with
  |true =>simp only[zl] at h;exact Lv aB oi (o:=⟨o.dst,o.op,none⟩) h hK
  |false =>simp only[zQ] at h;exact⟨(λe=>by cases e),λ_=>hK _ _ _ h ⟨B,F,pl,tb,hB,hG.put o.dst (by simp[SR])⟩⟩
 .exact Lv aB hR h hK
theorem Fm {B0 F0 D0:Heap}{s s':St}{env:Env}{M:Heap}(hR:GRel P B0 F0 D0 s env M) {d:Nat}(h:Z2e d s=some s'):GRel P B0 F0 D0 s' env M:=by
 unfold Z2e at h;split at h
 .rename_i o off hd;cases hz:Nat.beq off 0 with
  |false=>rw[hz] at h;cases h
  |true =>
   rw[hz] at h;simp only[zl] at h;have hz:off=0:=zI hz;subst hz;split at h
   .rename_i l _ ho;simp only[x9] at h;subst h;obtain⟨B,F,pl,tb,hB,hG⟩:=hR;have ao:=hG.obj o;rw[ho] at ao;obtain⟨i,c,e,t,e1,e2,e3,_⟩:=ao;obtain⟨k1,k2⟩:=hG.freeze (o:=o) (i:=i) (by rw[ho];rfl) (by rw[e1];rfl);have h1:=hG.env.getD d undef;rw[hd] at h1;have sr:SR P (B.ins M i hG.leB.1) pl tb (.cp l 0) (env.getD d undef):=by
     simp only[SR] at h1 |-;obtain⟨b,q1,q2⟩:=h1;rw[e1] at q1;obtain rfl:i=b:=by simpa using q1
     refine⟨i,c,e,true,t,?_,q2,SRs.mono k1.b (λ_ _ h=>h) _ _ e3⟩;rw[Heap.q0m];exact e2
    have:=k2.put (some d) sr;refine⟨_,_,pl,tb,hB.trans k1,?_⟩;have e2:XQ env (some d) (env.getD d undef)=env:=by
     show env.set d _=env;rcases zk d env.length with h|h
     .rw[z6,z5 h];simp
     .rw[List.set_eq_of_length_le h]
    rw[e2] at this;exact this
   .cases h
 .cases h
theorem Ov {C:Cx}{B0 F0 D0:Heap}{s:St}{env:Env}{M:Heap}(hR:GRel P B0 F0 D0 s env M) {d:Option Nat}{K:St->Prop}(h:Z6e C d K s):∃ s2,K s2/\GRel P B0 F0 D0 s2 env M:=by
 unfold Z6e at h;split at h
 .exact⟨s,h,hR⟩
 .rename_i d;cases hb:C.spl.contains d with
  |false=>rw[hb] at h;exact⟨s,h,hR⟩
  |true =>
   rw[hb] at h;simp only[zl] at h;split at h
   .rename_i t ht;obtain⟨B,F,pl,tb,hB,hG⟩:=hR;have he:=Wi ht (hG.env.getD d undef);have bT:∀ v,SR P B pl tb v (env.getD d undef)->GRel P B0 F0 D0 (s.put (some d) v) env M:=λv hv=>by
     have:=hG.put (some d) hv;refine⟨B,F,pl,tb,hB,?_⟩;have e2:XQ env (some d) (env.getD d undef)=env:=by
      show env.set d _=env;rcases zk d env.length with h|h
      .rw[z6,z5 h];simp
      .rw[List.set_eq_of_length_le h]
     rw[e2] at this;exact this
    have sr:SR P B pl tb (.grd [] (.val .bo t)) (env.getD d undef):=by simp only[SR];exact⟨⟨(λg hg=>by cases hg),trivial⟩,(λ_=>by rw[he];simp[KC]),λ⟨g,hg,_⟩=>by cases hg⟩
    cases hc:C.raw.contains (3000000+d) with
    |true =>
     rw[hc] at h;cases t with
     |true=>exact⟨_,h,bT _ sr⟩
     |false=>exact⟨_,h,bT _ sr⟩
    |false =>
     rw[hc] at h;cases t with
     |true=>exact⟨_,h.1 rfl,bT _ sr⟩
     |false=>exact⟨_,h.2 rfl,bT _ sr⟩
   .split at h
    .rename_i s' hf;exact⟨s',h,Fm hR hf⟩
    .exact h.elim
theorem GC {C:Cx}(aB:COk P C) {B0 F0 D0:Heap}:∀ (ops:List VOper) {s:St}{env:Env}{M:Heap},GRel P B0 F0 D0 s env M->∀ {K:St->Prop},Z6w C ops s K->∀ {R:Env->Heap->Prop},(∀ s' ah M',K s'->GRel P B0 F0 D0 s' ah M'->R ah M')->Sq (Q4 P) ops env M R
 |[],s,env,M,hR,_K,h,_R,hK=>hK s env M h hR
 |_o::r,_s,_env,_σ,hR,_K,h,_R,hK=>Q1a (R:=λenv M=>Sq (Q4 P) r env M _R) aB hR h λ_ _ _ h1 h2=>by obtain⟨s2,k1,k2⟩:=Ov h2 h1;exact GC aB r k2 k1 hK
theorem Q1q {S:VSpecs}{l:List DOper}{rest:List DSeg}{env:Env}{M:Heap}{K:Env->Heap->Prop}(h:l.all (λo=>!(o.kind==2)&&!(o.op.kind==2))=true) (hv:Sq S (l.map dv) env M λenv M=>GN S rest env M K):GN S (.alts [l]::rest) env M K:=by
 intro ops ho;obtain rfl:=zd.1 ho;have key:∀ (l:List DOper) (env:Env) (pend:List (Nat×(Heap->Prop))) (K':Env->Heap->Prop),l.all (λo=>!(o.kind==2)&&!(o.op.kind==2))=true->Sq S (l.map dv) env M K'->ZT S l env [M] M pend K':=by
  intro l;induction l with
  |nil=>intro env pend K' _ h;exact h
  |cons o rest ih =>
   intro env pend K' hk h;simp only[zS,z4,Bool.not_eq_true',xq] at hk;obtain⟨⟨bc,al⟩,hr⟩:=hk;have hr:rest.all (λo=>!(o.kind==2)&&!(o.op.kind==2))=true:=by simpa using hr
   simp only[zE,Sq,dv] at h;simp only[ZT];cases hw:Jy env o.guard with
   |none=>rw[hw] at h;exact h.elim
   |some b =>
    rw[hw] at h;obtain⟨ht,hf⟩:=h;refine⟨λe=>?_,λe=>?_⟩
    .have ht:=ht e;obtain⟨p,hp,lk⟩:∃ p,Qa o.op (Q5 env) M=some p/\Sq S (rest.map dv) (XQ env o.dst p.1) p.2 K':=by
      have:=ht;unfold vop at this;split at this
      .rename_i f bM heq;rw[heq] at al;exact absurd rfl al
      .rename_i f bM heq;rw[heq] at al;exact absurd rfl al
      .rename_i x heq;rw[heq] at al;exact absurd rfl al
      .cases dQ:Qa o.op (Q5 env) M with
       |none=>rw[dQ] at this;exact this.elim
       |some p=>rw[dQ] at this;exact⟨p,rfl,this⟩
     have hq:p.2=M:=BC al (v:=p.1) (M':=p.2) hp;rw[hq] at lk;rw[z0 bc];split
     .rw[hp];refine⟨λU hτ=>?_,ih _ _ _ hr lk⟩;have:U=M:=by
       have:=List.mem_of_mem_drop hτ;simpa using this
      subst this;show Zo (Qa o.op (Q5 env) U) _;rw[hp];rfl
     .rw[hp];exact ih _ _ _ hr lk
    .rw[z0 bc];exact ih _ _ _ hr (hf e)
 have:=key ops env [] _ h hv;have mono:∀ (l:List DOper) (env:Env) (hs:List Heap) (U:Heap) (pend:List (Nat×(Heap->Prop))) (A B:Env->Heap->Prop),l.all (λo=>!(o.kind==2)&&!(o.op.kind==2))=true->(∀ e s,A e s->B e s)->ZT S l env hs U pend A->ZT S l env hs U pend B:=by
  intro l;induction l with
  |nil=>intro env hs U pend A B _ lC h;exact lC _ _ h
  |cons o rest ih =>
   intro env hs U pend A B hk lC h;simp only[zS,z4,Bool.not_eq_true',xq] at hk;obtain⟨⟨bc,al⟩,hr⟩:=hk;have hr:rest.all (λo=>!(o.kind==2)&&!(o.op.kind==2))=true:=by simpa using hr
   simp only[ZT] at h |-;cases hw:Jy env o.guard with
   |none=>rw[hw] at h;exact h.elim
   |some b =>
    rw[hw] at h;obtain⟨ht,hf⟩:=h;refine⟨λe=>?_,λe=>?_⟩
    .have ht:=ht e;rw[z0 bc] at ht |-;by_cases nG:o.kind=1
     .rw[z3 nG] at ht |-;cases dQ:Qa o.op (Q5 env) U with
      |none=>rw[dQ] at ht;exact ht.elim
      |some p=>rw[dQ] at ht;exact⟨ht.1,ih _ _ _ _ _ _ hr lC ht.2⟩
     .rw[z0 nG] at ht |-;cases dQ:Qa o.op (Q5 env) U with
      |none=>rw[dQ] at ht;exact ht.elim
      |some p=>rw[dQ] at ht;exact ih _ _ _ _ _ _ hr lC ht
    .have hf:=hf e;rw[z0 bc] at hf |-;exact ih _ _ _ _ _ _ hr lC hf
 exact mono ops env _ _ _ _ _ h (λe s hs=>⟨e,s,.refl _ _ _,hs⟩) this
theorem Jf {op:VOp}{ev:Operand->Value}{u:Value}{U U':Heap}(h:Qa op ev U=some (u,U')):XE op ev u U:=by unfold XE;rw[h];rfl
theorem ZE (s:St) (d:Option Nat) (v:SV):(s.put d v).own=s.own:=by cases d<;>rfl
theorem KR {s s':St}{j:Nat}{want:Bool}{gs:List Gd}(h:Pu s j want=some (gs,s')):s'.own=s.own:=by unfold Pu at h;split at h<;>first|(cases h;done)|(obtain⟨_,rfl⟩:=Ze h;rfl)
theorem Uo {C:Cx}{B F:Heap}{pl:Nat->Value}{tb:Nat->Option Bool}{s:St}{env:Env}{M:Heap}(hG:Gam P B F pl tb s env M) {o:DOper}{K:St->Prop}(h:gd1 C o s K) :
  ∃ b,Jy env o.guard=some b/\(b=true->∃ u s' tb',Qa o.op (Q5 env) M=some (u,M)/\K s'/\s'.own=s.own/\Gam P B F pl tb' s' (XQ env o.dst u) M)/\(b=false->∃ s' tb',K s'/\s'.own=s.own/\Gam P B F pl tb' s' (XQ env o.dst undef) M):=by
 unfold gd1 at h;split at h
 .rename_i hg;rw[hg];refine⟨true,rfl,λ_=>?_,λe=>by cases e⟩;split at h
  .rename_i c a b bG;split at h
   .rename_i v hv;obtain⟨u,h1,h2⟩:=Nw hG Gds.nil hv;exact⟨u,_,tb,by rw[bG];exact h1,ZI h,ZE _ _ _,hG.put o.dst h2⟩
   .exact h.elim
  .split at h
   .rename_i cs v dH;obtain⟨h1,h2⟩:=ZN h;obtain⟨u,h3,h4⟩:=Cn (hG.evs (Gds.nil (tb:=tb))) (λ_=>rfl) hG.leB hG.obj dH (h2 λg hg=>by cases hg);exact⟨u,_,tb,h3,ZI h1,ZE _ _ _,hG.put o.dst h4⟩
   .exact h.elim
 .rename_i j want hg;rw[hg];split at h
  .exact h.elim
  .rename_i gs s' dX;obtain⟨tb',bp,cS,b,hw,bk,bt⟩:=Wo hG dX;refine⟨b,hw,λe=>?_,λe=>?_⟩
   .have gy:Gds tb' gs:=λg hg=>⟨bk e g hg,cS g hg⟩;have fin:∀ {v u},SR P B pl tb' v u->SR P B pl tb' (.grd gs (Bw v)) u:=λ{v u} hs=>by
     simp only[SR];obtain⟨h1,h2⟩:=T0 hs;exact⟨⟨cS,h2⟩,λ_=>h1,λ⟨g,hg,aw⟩=>absurd (bk e g hg) aw⟩
    split at h
    .rename_i c a b' bG;split at h
     .rename_i v hv;obtain⟨u,h1,h2⟩:=Nw bp gy hv;exact⟨u,_,tb',by rw[bG];exact h1,ZI h,(ZE _ _ _).trans (KR dX),bp.put o.dst (fin h2)⟩
     .exact h.elim
    .split at h
     .rename_i cs v dH;obtain⟨h1,h2⟩:=ZN h;obtain⟨u,h3,h4⟩:=Cn (bp.evs gy) (λ_=>rfl) bp.leB bp.obj dH (h2 (bk e));exact⟨u,_,tb',h3,ZI h1,(ZE _ _ _).trans (KR dX),bp.put o.dst (fin h4)⟩
     .exact h.elim
   .have fin:∀ v,SR P B pl tb' (.grd gs (Bw v)) undef:=λv=>by
     simp only[SR];obtain⟨g,hg,aw⟩:=bt e;exact⟨⟨cS,Th v⟩,λae=>absurd (ae g hg) aw,λ_=>trivial⟩
    split at h
    .split at h
     .exact⟨_,tb',ZI h,(ZE _ _ _).trans (KR dX),bp.put o.dst (fin _)⟩
     .exact h.elim
    .split at h
     .exact⟨_,tb',ZI (ZN h).1,(ZE _ _ _).trans (KR dX),bp.put o.dst (fin _)⟩
     .exact h.elim
theorem FA {bs:List OB}{q:Prop}(h:Q1d bs q):(∀ b∈bs,b.wf)/\q:=by
 induction bs with
 |nil=>exact⟨(λb hb=>by cases hb),h⟩
 |cons b r ih =>
  obtain⟨h1,h2⟩:=h;obtain⟨h3,h4⟩:=ih h2;exact⟨λb' cf=>by
   rcases zj.1 cf with rfl|cf
   .exact h1
   .exact h3 b' cf,h4⟩
mutual
theorem O5 {d nt:Nat}:∀ (v:SV),v.ret 0=true->(v.ren d nt).ret 0=true
 |.val k x,h=>h
 |.nilS,_|.nilP,_|.nilM,_|.nilF,_=>rfl
 |.lst j,h|.box j _,h|.map j,h=>by simp[SV.ret,Nat.blt] at h
 |.agg l,h=>by simp only[SV.ren,SV.ret] at h |-;exact TC l h
 |.tup l,h=>by simp only[SV.ren,SV.ret] at h |-;exact TC l h
 |.any,h|.bid _ _,h|.grd _ _,h|.sub _ _ _ _,h|.elp _ _ _ _,h|.rop _ _ _ _,h|.cp _ _,h|.fn _ _ _,h|.pf _ _ _ _,h=>by cases h
theorem TC {d nt:Nat}:∀ (v:List SV),SVs.ret 0 v=true->SVs.ret 0 (SVs.ren d nt v)=true
 |[],_=>rfl
 |s::ss,h=>by simp only[SVs.ret,SVs.ren,z4] at h |-;exact⟨O5 s h.1,TC ss h.2⟩
end
theorem WC {C:Cx}(aB:COk P C) {B F:Heap}{pl:Nat->Value}{tb:Nat->Option Bool}{s:St}{env:Env}{M:Heap}(hG:Gam P B F pl tb s env M) {d:Nat}{f:SV}{args:List SV}{K:List Nat->SV->St->Prop}(h:D9 C d f args s K) {fV:Value}{vs:List Value}
  (hf:SR P M Xd J9 f fV) (ha:SRs P M Xd J9 args vs):∃ g a b u M' ts v s' pl',fV=.func (.func g) a b/\(VCalled P g (a.toList++vs++b.toList) M λu' aE=>u'=u/\aE=M')/\K ts v s'/\Gam P B F pl' tb s' env M'/\SR P B pl' tb v u/\(ts=[]->M'=M/\pl'=pl/\s'=s)/\M.Le M'/\Dead M M'/\FrL ts s s' pl pl' M M':=by
 unfold D9 at h;split at h
 .rename_i c v bs heq;cases hb:(v.ret bs.length&&(bs.all OB.ret&&(Nat.blt 0 C.nt&&(bs.all OB.isL&&U9 v)))) with
  |false=>rw[hb] at h;exact h.elim
  |true =>
   rw[hb] at h;obtain⟨h1,h2⟩:=h;obtain⟨h3,h4⟩:=FA h2;simp only[z4] at hb;obtain⟨hv,mQ,dM,hl,cE⟩:=hb;obtain⟨g,a,b,e,_,hx⟩:=Jg aB.cs hf ha heq hv mQ h1;have dG:=Av (P:=P) M hv cE mQ hl (λb hb=>by have:=h3 b hb;cases b<;>exact this);by_cases b9:bs=[]
   .subst b9;obtain⟨k1,k2⟩:=dG.flat hv;refine⟨g,a,b,_,_,_,_,_,pl,e,hx hl cE,h4,?_,?_,λ_=>⟨k1,rfl,rfl⟩,dG.1.1,dG.1.2,λq _=>⟨rfl,rfl,λ_ _ _=>by rw[k1]⟩⟩
    .rw[k1];exact hG
    .exact SR.retd (B:=hNil) (pl:=pl) (tb:=J9) (n:=0) (λj hj=>by omega) _ _ (O5 v hv) (SR.ren (pl:=Xd) (tb:=J9) (n:=0) (λj hj=>by omega) v _ hv k2)
   .obtain⟨pl',h5,h6,h7⟩:=dG.gamF (nt:=C.nt) (d:=d) (by simpa [zJ] using dM) hG hv mQ;refine⟨g,a,b,_,_,_,_,_,pl',e,hx hl cE,h4,h5,h6,λhe=>absurd (by simpa using he) b9,dG.1.1,dG.1.2,λq hq=>h7 q λj hj e=>hq ?_⟩;exact zo.2 ⟨j,zA.2 hj,e.symm⟩
 .exact h.elim
def IT:VOp->Bool
 |.callF ..|.callV ..=>true
 |.ext (.rangeMap _)|.ext (.nextMap _)=>true
 |_=>false
theorem Z5i {C:Cx}{B F:Heap}{pl:Nat->Value}{tb:Nat->Option Bool}{s:St}{env:Env}{M:Heap}(hG:Gam P B F pl tb s env M) {d:Nat}{o:VOp}{K:SV->St->Prop}(h:gn C d o (gev [] s.env) s K) (hc:IT o=false) :
  NOk P B F tb o (Q5 env) env M K (QY d o (gev [] s.env)) s pl:=by
 have aj:=hG.evs (Gds.nil (tb:=tb));cases o
 case alloc t z=>exact Q2u aj hG h
 case box t x=>exact Z44 aj hG h
 case buildSlice e z n ps=>exact MP aj hG h
 case makeSlice e b z l c=>exact Tv aj hG h
 case append e b x y=>exact O1 aj hG h
 case store size a x=>exact Q41 aj hG h
 case callF=>cases hc
 case callV=>cases hc
 case ext x =>
  cases x
  case mapUpdate mk m k v=>exact Tx aj hG h
  case delete mk m k=>exact Oj aj hG h
  case mapEntry mk z m k=>exact Lp aj hG h
  case entryStore m s v=>exact Pj aj hG h
  case copy size a b=>exact False.elim h
  case unsafeStr e a n=>exact False.elim h
  case strBytes e a=>exact False.elim h
  case rangeMap=>cases hc
  case nextMap=>cases hc
  all_goals exact h.elim
 all_goals exact h.elim
theorem CW {o:VOp}{ev:Operand->Value}{M M':Heap}{u:Value}(hm:TN o=true) (h:Qa o ev M=some (u,M')):M.Le M':=by
 have push:∀ b:Blk,M.Le (M.push b):=λb=>(Heap.Le.refl M).push b;cases o<;>first|(cases hm;done)|skip
 case alloc t z=>obtain⟨rfl,rfl⟩:=Ze h;exact push _
 case box t x =>
  simp only[Qa] at h;split at h
  .obtain⟨rfl,rfl⟩:=Ze h;exact push _
  .cases h
 case buildSlice e z n ps =>
  simp only[Qa] at h;split at h
  .obtain⟨rfl,rfl⟩:=Ze h;exact push _
  .cases h
 case makeSlice e b z l c =>
  simp only[Qa] at h;split at h
  .split at h
   .obtain⟨rfl,rfl⟩:=Ze h;exact push _
   .cases h
  .cases h
def stM:MK:=.agg [.int .i64,.int .i64]
def Z2f:Option X1->Value
 |some e=>e.2.1
 |none=>.int .i64 0
def LkE (es bS:List X1):Prop:=(es.all (λe=>ZO stM e.1)=true->bS.all (λe=>ZO stM e.1)=true)/\(es.all (λe=>ZO stM e.1)=true->∀ k,ZO stM k=true->Z2f (Qo k bS)=Z2f (Qo k es))
theorem LkE.trans {a b c:List X1}(h:LkE a b) (h':LkE b c):LkE a c:=⟨λk=>h'.1 (h.1 k),λk x hx=>(h'.2 (h.1 k) x hx).trans (h.2 k x hx)⟩
theorem FW {v:Value}(h:ZO stM v=true):∃ a b,v=.agg #[.int .i64 a,.int .i64 b]:=by
 cases v with
 |agg l =>
  simp only[ZO,stM] at h;obtain⟨l⟩:=l
  match l,h with
  |[],h=>simp[fits] at h
  |[x],h=>cases x<;>simp[fits,Ow] at h
  |[x,y],h =>simp only[fits,z4] at h;obtain⟨hx,hy,_⟩:=h;cases x<;>simp[Ow] at hx;cases y<;>simp[Ow] at hy;subst hx;subst hy;exact⟨_,_,rfl⟩
  |x::y::z::r,h=>simp[fits] at h
 |_=>simp[ZO,stM] at h
theorem Q7w {a b c e:Int}:Wf (.agg #[.int .i64 a,.int .i64 b]) (.agg #[.int .i64 c,.int .i64 e])=(a==c&&b==e):=by simp[Wf,Qv,V2]
theorem Q4f {k0:Value}{clock:Nat}(iX:ZO stM k0=true):∀ {es:List X1},LkE es (QD k0 (Z2f (Qo k0 es)) clock es).1
 |[]=>by refine⟨λ_=>by simp[QD,iX],λ_ k hk=>?_⟩;simp only[QD,Qo];cases Wf k k0<;>rfl
 |e::es=>by
  have ih:=Q4f (clock:=clock) iX (es:=es);simp only[QD,Qo];cases he:Wf k0 e.1 with
  |true =>
   simp only[zB];refine⟨λh=>?_,λh k hk=>?_⟩
   .simp only[zS,z4] at h |-;exact⟨iX,h.2⟩
   .simp only[zS,z4] at h;obtain⟨a,b,rfl⟩:=FW iX;obtain⟨a1,b1,h1⟩:=FW h.1;obtain⟨a2,b2,rfl⟩:=FW hk;have heq:(a==a1&&b==b1)=true:=by rw[<-Q7w,<-h1];exact he
    simp only[z4,zK] at heq;obtain⟨rfl,rfl⟩:=heq;simp only[Qo,h1,Q7w];cases (a2==a&&b2==b)<;>rfl
  |false =>
   simp only[zy,if_false];refine⟨λh=>?_,λh k hk=>?_⟩
   .simp only[zS,z4] at h |-;exact⟨h.1,ih.1 h.2⟩
   .simp only[zS,z4] at h;simp only[Qo];cases Wf k e.1 with
    |true=>rfl
    |false=>exact ih.2 h.2 k hk
theorem Q3o {mk:MK}{z:Value}(h:stP mk z=true):mk=stM/\z=.int .i64 0:=by
 unfold stP at h;split at h
 .exact⟨rfl,by rw[eq_of_beq h]⟩
 .cases h
def OL (M:Heap) (own:Own) (pl:Nat->Value) (Q:Heap->Prop):Option Nat->Prop
 |none=>∀ U,M.Le U->Q U
 |some q=>(Qe own (q / 2)).live=true/\∃ i b,Oid (pl (q / 2)) i/\M.get i=some b/\(∀ U,U.get i=some b->Q U)/\(q % 2=1->∃ es c wr,b=.obj (.map es c) wr/\∀ U bS c',LkE es bS->U.get i=some (.obj (.map bS c') wr)->Q U)
structure DSt (hs:List Heap) (M:Heap) (pend:List (Nat×(Heap->Prop))) (hl chg:Nat) (A R:List (Nat×Option Nat)) (own:Own) (pl:Nat->Value):Prop where
 len:hs.length=hl
 same:∀ j U,chg<=j->hs[j]?=some U->U=M
 pend:∀ c∈pend,c.1<hl\/∃ r∈R,c.1<=r.1/\OL M own pl c.2 r.2
 fr:∀ j U q i,hs[j]?=some U->ZF A j q=true->(Qe own q).live=true->Oid (pl q) i->U.get i=M.get i
theorem KB {r:Nat}{M:Heap}:∀ {l:List (Nat×(Heap->Prop))},(∀ c∈l,r<=c.1->c.2 M)->Xz r M l
 |[],_=>trivial
 |c::l,h=>⟨h c (by simp),KB λc' cM=>h c' (by simp[cM])⟩
theorem JX {hs:List Heap}{M' U:Heap}{j:Nat}(h:(hs++[M'])[j]?=some U):(j<hs.length/\hs[j]?=some U)\/(j=hs.length/\U=M'):=by
 rw[List.getElem?_append] at h;split at h
 .rename_i af;exact .inl ⟨af,h⟩
 .have:j-hs.length=0:=by
   cases hz:j-hs.length with
   |zero=>rfl
   |succ n=>rw[hz] at h;simp at h
  rw[this] at h;exact .inr ⟨by omega,by simpa using h.symm⟩
theorem Si {a:Nat×Option Nat}{A:List (Nat×Option Nat)}{j q:Nat}(h:ZF (a::A) j q=true) (hj:j<=a.1):(∃ t,a.2=some t/\t≠q)/\ZF A j q=true:=by
 simp only[ZF,zS,z4,zx,zJ] at h;refine⟨?_,h.2⟩;rcases h.1 with h|h
 .omega
 .split at h
  .rename_i t ht;exact⟨t,ht,λe=>by subst e;simp at h⟩
  .cases h
theorem DSt.stay {hs:List Heap}{M:Heap}{pend:List (Nat×(Heap->Prop))}{hl chg:Nat}{A R:List (Nat×Option Nat)}{own:Own}{pl:Nat->Value}(h:DSt hs M pend hl chg A R own pl) :
  Xz hs.length M pend/\DSt (hs++[M]) M pend (hl+1) chg A R own pl:=by
 have hr:∀ c∈pend,∀ r∈R,OL M own pl c.2 r.2->c.2 M:=λc _ r _ ai=>by
  unfold OL at ai;split at ai
  .exact ai M (.refl _)
  .obtain⟨_,i,b,_,h2,h3,_⟩:=ai;exact h3 M h2
 refine⟨KB λc hc hle=>?_,⟨by simp[h.len],λj U hj ht=>?_,λc hc=>?_,λj U q i ht hu hl hi=>?_⟩⟩
 .rcases h.pend c hc with h1|⟨r,h1,_,h2⟩
  .rw[h.len] at hle;omega
  .exact hr c hc r h1 h2
 .rcases JX ht with⟨_,h1⟩|⟨_,h1⟩
  .exact h.same j U hj h1
  .exact h1
 .rcases h.pend c hc with h1|h1
  .exact .inl (by omega)
  .exact .inr h1
 .rcases JX ht with⟨_,h1⟩|⟨_,rfl⟩
  .exact h.fr j U q i h1 hu hl hi
  .rfl
theorem DSt.write {hs:List Heap}{M M':Heap}{pend:List (Nat×(Heap->Prop))}{hl chg:Nat}{A R:List (Nat×Option Nat)}{s s':St}{pl pl':Nat->Value}(h:DSt hs M pend hl chg A R s.own pl) {T:Nat}(hf:Fr T s s' pl pl' M M') {mk ext:Bool}(hm:mk=true->M.Le M')
  (hE:ext=true->(Qe s'.own T).live=true/\pl' T=pl T/\∃ i es c bS c',pl T=.map (some i)/\M.get i=some (.obj (.map es c) true)/\M'.get i=some (.obj (.map bS c') true)/\LkE es bS)
  (hc:((mk&&Eh R hl T)||Lr R hl T||(ext&&Z2v R hl T))=true) (aT:0<hl):Xz hs.length M' pend/\DSt (hs++[M']) M' pend (hl+1) hl ((hl-1,some T)::A) R s'.own pl':=by
 have hr:∀ Q:Heap->Prop,∀ r∈R,hl<=r.1->OL M s.own pl Q r.2->OL M' s'.own pl' Q r.2:=λQ r lW bB ai=>by
  have hq:∀ q,r.2=some q->q / 2=T->q % 2=1/\ext=true:=λq hq e=>by
   subst e;simp only[zx,z4,Eh,Lr,Z2v] at hc;rcases hc with (⟨_,hc⟩|hc)|⟨he,hc⟩
   .have:=z8.1 hc r lW;rw[hq] at this;simp only[zx,zJ,Nat.beq_refl,xY,zy,or_false] at this;omega
   .have:=z8.1 hc r lW;rw[hq] at this;simp only[zx,zJ,Nat.beq_refl,xY,zy,or_false] at this;omega
   .have:=z8.1 hc r lW;rw[hq] at this;simp only[zx,zJ,Nat.beq_refl,xY,zy,false_or] at this;rcases this with h|h
    .omega
    .exact⟨zI h,he⟩
  cases e:r.2 with
  |none =>
   rw[e] at ai;have b6:mk=true:=by
    simp only[zx,z4,Lr,Z2v] at hc;rcases hc with (⟨hc,_⟩|hc)|⟨_,hc⟩
    .exact hc
    .have:=z8.1 hc r lW;rw[e] at this;simp only[zx,zJ,zy,or_false] at this;omega
    .have:=z8.1 hc r lW;rw[e] at this;simp only[zx,zJ,zy,or_false] at this;omega
   exactλU ht=>ai U ((hm b6).trans ht)
  |some q =>
   rw[e] at ai;obtain⟨k1,i,b,k2,k3,k4⟩:=ai;by_cases om:q / 2=T
   .obtain⟨ho,he⟩:=hq q e om;obtain⟨g1,g2,i',es,c,bS,c',g3,g4,g5,g6⟩:=hE he;obtain⟨k5,k6⟩:=k4;obtain⟨vD,c0,wr,rfl,k7⟩:=k6 ho;rw[om] at k1 k2;have hi:i=i':=Q2f (by rw[g3];rfl) k2;subst hi;rw[g4] at k3;cases k3;refine⟨by rw[om];exact g1,i,_,by rw[om,g2];exact k2,g5,λU hτ=>k7 U _ _ g6 hτ,λ_=>⟨_,_,_,rfl,λU ur vE hl hτ=>k7 U _ _ (g6.trans hl) hτ⟩⟩
   .obtain⟨f1,f2,f3⟩:=hf (q / 2) om;exact⟨by rw[f1];exact k1,i,b,by rw[f2];exact k2,by rw[f3 k1 i k2];exact k3,k4⟩
 have now:∀ Q:Heap->Prop,∀ r,OL M' s'.own pl' Q r->Q M':=λQ r ai=>by
  unfold OL at ai;split at ai
  .exact ai M' (.refl _)
  .obtain⟨_,i,b,_,h2,h3,_⟩:=ai;exact h3 M' h2
 refine⟨KB λc hc hle=>?_,⟨by simp[h.len],λj U hj ht=>?_,λc hc=>?_,λj U q i ht hu cu hi=>?_⟩⟩
 .rw[h.len] at hle;rcases h.pend c hc with h1|⟨r,h1,h2,h3⟩
  .omega
  .exact now _ _ (hr _ r h1 (by omega) h3)
 .rcases JX ht with⟨h1,_⟩|⟨_,h1⟩
  .rw[h.len] at h1;omega
  .exact h1
 .rcases h.pend c hc with h1|⟨r,h1,h2,h3⟩
  .exact .inl (by omega)
  .by_cases bB:hl<=r.1
   .exact .inr ⟨r,h1,h2,hr _ r h1 bB h3⟩
   .exact .inl (by omega)
 .rcases JX ht with⟨h1,h2⟩|⟨_,rfl⟩
  .rw[h.len] at h1;obtain⟨⟨t,ht,uu⟩,cg⟩:=Si hu (by simp only;omega);obtain rfl:=osj ht;obtain⟨f1,f2,f3⟩:=hf q (Ne.symm uu);rw[f1] at cu;rw[f2] at hi;rw[f3 cu i hi];exact h.fr j U q i h2 cg cu hi
  .rfl
theorem Hp {ts:List Nat}{hl j q:Nat}{A:List (Nat×Option Nat)}(h:ZF (ts.map (λt=>(hl,some t))++A) j q=true) (hj:j<=hl):q∉ts/\ZF A j q=true:=by simp only[ZF,List.all_append,z4] at h |-;refine⟨λhm=>?_,h.2⟩;have:=z8.1 h.1 (hl,some q) (zo.2 ⟨q,hm,rfl⟩);simp only[zx,zJ,Nat.beq_refl,xY,zy,or_false] at this;omega
theorem DSt.call {hs:List Heap}{M M':Heap}{pend:List (Nat×(Heap->Prop))}{hl chg:Nat}{A R:List (Nat×Option Nat)}{s s':St}{pl pl':Nat->Value}(h:DSt hs M pend hl chg A R s.own pl) (hle:M.Le M') {Ts:List Nat}(hf:FrL Ts s s' pl pl' M M') (aT:0<hl) :
  Xz hs.length M' pend/\DSt (hs++[M']) M' pend (hl+1) hl (Ts.map (λt=>(hl-1,some t))++A) (R.map λr=>(r.1,none)) s'.own pl':=by
 have hr:∀ Q r,OL M s.own pl Q r->∀ U,M'.Le U->Q U:=λQ r ai U ht=>by
  unfold OL at ai;split at ai
  .exact ai U (hle.trans ht)
  .obtain⟨_,i,b,_,h2,h3,_⟩:=ai;exact h3 U (ht.2 _ _ (hle.2 _ _ h2))
 refine⟨KB λc hc hle=>?_,⟨by simp[h.len],λj U hj ht=>?_,λc hc=>?_,λj U q i ht hu cu hi=>?_⟩⟩
 .rcases h.pend c hc with h1|⟨r,h1,_,h2⟩
  .rw[h.len] at hle;omega
  .exact hr _ _ h2 _ (.refl _)
 .rcases JX ht with⟨h1,_⟩|⟨_,h1⟩
  .rw[h.len] at h1;omega
  .exact h1
 .rcases h.pend c hc with h1|⟨r,h1,h2,h3⟩
  .exact .inl (by omega)
  .exact .inr ⟨(r.1,none),zo.2 ⟨r,h1,rfl⟩,h2,hr _ _ h3⟩
 .rcases JX ht with⟨h1,h2⟩|⟨_,rfl⟩
  .rw[h.len] at h1;obtain⟨hq,cg⟩:=Hp hu (by omega);obtain⟨f1,f2,f3⟩:=hf q hq;rw[f1] at cu;rw[f2] at hi;rw[f3 cu i hi];exact h.fr j U q i h2 cg cu hi
  .rfl
theorem DSt.writeD {hs:List Heap}{M M':Heap}{pend:List (Nat×(Heap->Prop))}{hl chg:Nat}{A R:List (Nat×Option Nat)}{s s':St}{pl pl':Nat->Value}(h:DSt hs M pend hl chg A R s.own pl) {Ts:List Nat}(hf:FrL Ts s s' pl pl' M M') {mk:Bool}(hm:mk=true->M.Le M')
  (hc:Q11 mk R hl Ts=true) (aT:0<hl):Xz hs.length M' pend/\DSt (hs++[M']) M' pend (hl+1) hl (Ts.map (λt=>(hl-1,some t))++A) R s'.own pl':=by
 have hr:∀ Q:Heap->Prop,∀ r∈R,hl<=r.1->OL M s.own pl Q r.2->OL M' s'.own pl' Q r.2:=λQ r lW bB ai=>by
  have lX:=z8.1 hc r lW;have lX:(match r.2 with|some q=>Ts.all (λt=>!(Nat.beq (q / 2) t))|none=>mk)=true:=by rw[zx,zJ] at lX;exact lX.resolve_left (by omega)
  cases e:r.2 with
  |none =>rw[e] at ai lX;exactλU ht=>ai U ((hm lX).trans ht)
  |some q =>
   rw[e] at ai lX;obtain⟨k1,i,b,k2,k3,k4⟩:=ai;obtain⟨f1,f2,f3⟩:=hf (q / 2) λhq=>by have:=z8.1 lX (q / 2) hq;simp at this
   exact⟨by rw[f1];exact k1,i,b,by rw[f2];exact k2,by rw[f3 k1 i k2];exact k3,k4⟩
 have now:∀ Q:Heap->Prop,∀ r,OL M' s'.own pl' Q r->Q M':=λQ r ai=>by
  unfold OL at ai;split at ai
  .exact ai M' (.refl _)
  .obtain⟨_,i,b,_,h2,h3,_⟩:=ai;exact h3 M' h2
 refine⟨KB λc hc hle=>?_,⟨by simp[h.len],λj U hj ht=>?_,λc hc=>?_,λj U q i ht hu cu hi=>?_⟩⟩
 .rw[h.len] at hle;rcases h.pend c hc with h1|⟨r,h1,h2,h3⟩
  .omega
  .exact now _ _ (hr _ r h1 (by omega) h3)
 .rcases JX ht with⟨h1,_⟩|⟨_,h1⟩
  .rw[h.len] at h1;omega
  .exact h1
 .rcases h.pend c hc with h1|⟨r,h1,h2,h3⟩
  .exact .inl (by omega)
  .by_cases bB:hl<=r.1
   .exact .inr ⟨r,h1,h2,hr _ r h1 bB h3⟩
   .exact .inl (by omega)
 .rcases JX ht with⟨h1,h2⟩|⟨_,rfl⟩
  .rw[h.len] at h1;obtain⟨hq,cg⟩:=Hp hu (by omega);obtain⟨f1,f2,f3⟩:=hf q hq;rw[f1] at cu;rw[f2] at hi;rw[f3 cu i hi];exact h.fr j U q i h2 cg cu hi
  .rfl
theorem S6 {hl d j q:Nat}{A:List (Nat×Option Nat)}(h:ZF ((hl,none)::A) j q=true):ZF ([d].map (λt=>(hl,some t))++A) j q=true:=by simp only[ZF,zS,z4,zx,zy,or_false,zE,List.map_nil,zV,xt] at h |-;exact⟨.inl h.1,h.2⟩
theorem DSt.frozen {hs:List Heap}{M:Heap}{pend:List (Nat×(Heap->Prop))}{hl chg m d:Nat}{A R:List (Nat×Option Nat)}{own:Own}{pl:Nat->Value}(h:DSt hs M pend hl chg ([d].map (λt=>(m,some t))++A) R own pl):DSt hs M pend hl chg ((m,none)::A) R own pl :=
 ⟨h.len,h.same,h.pend,λj U q i ht hu=>h.fr j U q i ht (S6 hu)⟩
theorem Tk {ts:List Nat}{m j:Nat}{A:List (Nat×Option Nat)}(h:Bj (ts.map (λt=>(m,some t))++A) j=true):Bj A j=true:=by simp only[Bj,List.all_append,z4] at h;exact h.2
theorem RP {a:Nat×Option Nat}{j:Nat}{A:List (Nat×Option Nat)}(h:Bj (a::A) j=true):Bj A j=true:=by simp only[Bj,zS,z4] at h;exact h.2
theorem LN {C:Cx}{f:SV}{args:List SV}{cs:List Prop}{v:SV}(h:Q49 C f args=some (cs,v)):∃ c ty k xs nl,Ue C.cs f args=some (c,.lst 0,[.lst ty k xs nl])/\cs=[c,nl=true->xs=[]]/\v=.val (.list k) xs/\k.flat=true/\0<C.nt:=by
 unfold Q49 at h;split at h
 .rename_i heq;split at h
  .rename_i k xs nl;cases hc:(k.flat&&Nat.blt 0 C.nt) with
   |false=>rw[hc] at h;cases h
   |true =>rw[hc] at h;obtain⟨rfl,rfl⟩:=Ze h;simp only[z4,zJ] at hc;exact⟨_,_,_,_,_,heq,rfl,rfl,hc.1,hc.2⟩
  .cases h
 .cases h
theorem Et {b:OB}(h:b.here=true):b.live=true:=by cases b<;>first|rfl|cases h
theorem Kq {B F:Heap}{pl:Nat->Value}{tb:Nat->Option Bool}{s:St}{env:Env}{M:Heap}(hG:Gam P B F pl tb s env M) {o:VOp}{q:Nat}(h:Gl o (gev [] s.env) s.own=some q) {u:Value}{M2:Heap}(hv:Qa o (Q5 env) M=some (u,M2)) :
  (Qe s.own (q / 2)).live=true/\∃ i b,Oid (pl (q / 2)) i/\M.get i=some b/\(∀ U,U.get i=some b->Qa o (Q5 env) U=some (u,U))/\(q % 2=1->∃ es c wr,b=.obj (.map es c) wr/\∀ U bS c',LkE es bS->U.get i=some (.obj (.map bS c') wr)->Qa o (Q5 env) U=some (u,U)):=by
 have two:∀ q,2*q / 2=q:=λq=>by omega
 have oo:∀ q,(2*q+1) / 2=q:=λq=>by omega
 have odd:∀ {q} {X:Prop},2*q % 2=1->X:=λ{q X} h=>by omega
 unfold Gl at h;split at h
 .rename_i agg size a;have ha:=hG.evs (Gds.nil (tb:=tb)) a;have key:∀ q i off,(Qe s.own q).live=true->Oid (pl q) i->Q5 env a=.pointer (some ⟨i,off,none⟩)->(Qe s.own q).live=true/\∃ i b,Oid (pl q) i/\M.get i=some b/\∀ U,U.get i=some b->Qa (.load agg size a) (Q5 env) U=some (u,U):=λq i off hl hi he=>by
   simp only[Qa,he] at hv;cases hb:M.get i with
   |none=>rw[hb] at hv;cases hv
   |some b =>
    refine⟨hl,i,b,hi,hb,λU ht=>?_⟩;rw[hb] at hv;simp only[Qa,he,ht];cases b with
    |obj o wr=>cases hv
    |cells c e wr t =>
     simp only at hv |-;split at hv
     .obtain⟨rfl,rfl⟩:=Ze hv;rfl
     .cases hv
  split at h
  .rename_i q' off hx;rw[hx] at ha;simp only[SR] at ha;obtain⟨b,h1,h2⟩:=ha;cases hh:(Qe s.own q').here with
   |false=>rw[hh] at h;cases h
   |true =>rw[hh] at h;obtain rfl:=osj h;obtain⟨x1,y1,y2,y3,y4,y5⟩:=key q' b off (Et hh) (by rw[h1];rfl) h2;exact⟨by rw[two];exact x1,y1,y2,by rw[two];exact y3,y4,y5,odd⟩
  .rename_i q' i off sz hx;rw[hx] at ha;simp only[SR] at ha;obtain⟨b,len,cap,h1,h2,h3,h4⟩:=ha;cases hh:(Qe s.own q').here with
   |false=>rw[hh] at h;cases h
   |true =>rw[hh] at h;obtain rfl:=osj h;obtain⟨x1,y1,y2,y3,y4,y5⟩:=key q' b _ (Et hh) (by rw[h1];rfl) h4;exact⟨by rw[two];exact x1,y1,y2,by rw[two];exact y3,y4,y5,odd⟩
  .cases h
 .rename_i mk z x y;cases a_:stP mk z with
  |false=>rw[a_] at h;cases h
  |true =>
   rw[a_] at h;simp only[zl] at h;obtain⟨rfl,rfl⟩:=Q3o a_;split at h
   .rename_i q' hx;split at h
    .rename_i kk vk l ho;obtain rfl:=osj h;have ha:=hG.evs (Gds.nil (tb:=tb)) x;rw[hx] at ha;simp only[SR] at ha;have ao:=hG.obj q';rw[ho] at ao;obtain⟨id,es,c,h2,h3,_⟩:=ao;have aG:∀ (U:Heap) bS c' wr,U.get id=some (.obj (.map bS c') wr)->U.mapAt id=some (bS,c',wr):=λU bS c' wr hτ=>by simp[Heap.mapAt,hτ]
     simp only[Qa,ZL,ha.1,h2,aG _ _ _ _ h3] at hv;refine⟨by rw[oo,ho];rfl,id,_,by rw[oo,h2];rfl,h3,λU hτ=>?_,λ_=>⟨es,c,true,rfl,λU bS c' hl hτ=>?_⟩⟩
     .simp only[Qa,ZL,ha.1,h2,aG _ _ _ _ hτ];split at hv
      .rename_i fE;split at hv
       .rename_i gW;rw[z3 fE,z3 gW];cases he:Qo (Q5 env y) es with
        |some e=>rw[he] at hv;obtain⟨rfl,rfl⟩:=Ze hv;rfl
        |none=>rw[he] at hv;obtain⟨rfl,rfl⟩:=Ze hv;rfl
       .cases hv
      .cases hv
     .simp only[Qa,ZL,ha.1,h2,aG _ _ _ _ hτ];split at hv
      .rename_i fE;split at hv
       .rename_i gW;rw[z3 fE,z3 (hl.1 gW)];have ck:=hl.2 gW _ fE;cases he:Qo (Q5 env y) es with
        |some e =>
         rw[he] at hv ck;obtain⟨rfl,rfl⟩:=Ze hv;cases hm:Qo (Q5 env y) bS with
         |some e'=>rw[hm] at ck;simp only[Z2f] at ck;simp[ck]
         |none=>rw[hm] at ck;simp only[Z2f] at ck;simp[<-ck]
        |none =>
         rw[he] at hv ck;obtain⟨rfl,rfl⟩:=Ze hv;cases hm:Qo (Q5 env y) bS with
         |some e'=>rw[hm] at ck;simp only[Z2f] at ck;simp[ck]
         |none=>rfl
       .cases hv
      .cases hv
    .cases h
   .cases h
 .cases h
theorem Gt {r:Nat}{M:Heap}:∀ {l:List (Nat×(Heap->Prop))},Xz r M l->∀ {c},c∈l->r<=c.1->c.2 M
 |c::l,h,c',hc,hr=>by
  rcases zj.1 hc with rfl|hc
  .exact h.1 hr
  .exact Gt h.2 hc hr
theorem Gy {B F:Heap}{pl:Nat->Value}{tb:Nat->Option Bool}{s:St}{env:Env}{M:Heap}(hG:Gam P B F pl tb s env M) {gs:List Gd}(hg:Gds tb gs) {o:VOp}(h:Z2x o (gev gs s.env)=true) {u:Value}{M2:Heap}(hv:Qa o (Q5 env) M=some (u,M2)) :
  ∀ U,B.Le U->Qa o (Q5 env) U=some (u,U):=by
 unfold Z2x at h;split at h
 .rename_i agg size a;have ha:=hG.evs hg a;have key:∀ i off,(∃ b,B.get i=some b)->Q5 env a=.pointer (some ⟨i,off,none⟩)->∀ U,B.Le U->Qa (.load agg size a) (Q5 env) U=some (u,U):=λi off ⟨b,hb⟩ he U hτ=>by
   simp only[Qa,he,hG.leB.2 _ _ hb] at hv;simp only[Qa,he,hτ.2 _ _ hb];cases b with
   |obj o wr=>cases hv
   |cells c e wr t =>
    simp only at hv |-;split at hv
    .obtain⟨rfl,rfl⟩:=Ze hv;rfl
    .cases hv
  split at h
  .rename_i k l i off hx;rw[hx] at ha;simp only[SR] at ha;obtain⟨b,o,c,e,wr,t,_,_,h3,h4,_⟩:=ha;exact key b _ ⟨_,h3⟩ h4
  .rename_i l off hx;rw[hx] at ha;simp only[SR] at ha;obtain⟨b,c,e,wr,t,h3,h4,_⟩:=ha;exact key b _ ⟨_,h3⟩ h4
  .cases h
 .cases h
theorem Q1f {C:Cx}{B F:Heap}{pl:Nat->Value}{tb:Nat->Option Bool}{s:St}{env:Env}{M:Heap}(hG:Gam P B F pl tb s env M) {d:Nat}{o:VOp}{K:SV->St->Prop}(h:gn C d o (gev [] s.env) s K) (hc:IT o=false) :
  ∃ u M' pl' v s',Qa o (Q5 env) M=some (u,M')/\K v s'/\(Gam P B F pl' tb s' env M'/\Fr (QY d o (gev [] s.env)) s s' pl pl' M M')/\SR P B pl' tb v u /\
  (Lh o=true->(Qe s'.own (QY d o (gev [] s.env))).live=true/\pl' (QY d o (gev [] s.env))=pl (QY d o (gev [] s.env))/\∃ i es c bS c',pl (QY d o (gev [] s.env))=.map (some i)/\M.get i=some (.obj (.map es c) true)/\M'.get i=some (.obj (.map bS c') true)/\LkE es bS):=by
 cases he:Lh o with
 |false =>obtain⟨u,M',pl',v,s',h1,h2,h3,h4⟩:=Z5i hG h hc;exact⟨u,M',pl',v,s',h1,h2,h3,h4,λh=>by cases h⟩
 |true =>
  unfold Lh at he;split at he
  .rename_i mk z m kx;obtain⟨rfl,rfl⟩:=Q3o he;obtain⟨u,M',v,s',T,kv,aV,i,es,c,rfl,h1,h2,h3,h4,h5,h6,h7,h8,h9,b7,gK⟩:=R9 (hG.evs (Gds.nil (tb:=tb))) hG h;refine⟨u,M',pl,v,s',h1,h2,h3,h4,λ_=>⟨h5,rfl,i,es,c,_,_,h6,h7,h8,?_⟩⟩;have:aV=Z2f (Qo kv es):=by rw[gK];cases Qo kv es<;>rfl
   rw[this];exact Q4f h9
  .cases he
def JB (S:VSpecs):List DOper->Env->List Heap->Heap->List (Nat×(Heap->Prop))->(Env->Heap->Prop)->Prop
 |[],env,_,M,_,K=>K env M
 |o::rest,env,hs,M,pend,K=>Zo (Jy env o.guard) λb =>
   vif b (if o.kind=2 then Hn (λR=>vop S o.op env M R) λv M'=>Xz hs.length M' pend/\JB S rest (XQ env o.dst v) (hs++[M']) M' pend K
     else if o.kind=1 then Zo (Qa o.op (Q5 env) M) λp=>(∀ U∈hs.drop o.kmin,XE o.op (Q5 env) p.1 U) /\
      JB S rest (XQ env o.dst p.1) hs M (if hs.length<=o.kmax then (o.kmax,XE o.op (Q5 env) p.1)::pend else pend) K
     else Zo (Qa o.op (Q5 env) M) λp=>JB S rest (XQ env o.dst p.1) hs M pend K)
    (if o.kind=2 then Xz hs.length M pend/\JB S rest (XQ env o.dst undef) (hs++[M]) M pend K else JB S rest (XQ env o.dst undef) hs M pend K)
theorem R1 {α:Type}{o:Option α}{f g:α->Prop}(h:Zo o f) (uv:∀ a,f a->g a):Zo o g:=by
 cases o with
 |none=>exact h.elim
 |some a=>exact uv a h
theorem Yx {S:VSpecs}{K:Env->Heap->Prop}:∀ {ops:List DOper}{env:Env}{hs:List Heap}{M:Heap}{pend:List (Nat×(Heap->Prop))},JB S ops env hs M pend K->ZT S ops env hs M pend K
 |[],_,_,_,_,h=>h
 |o::r,env,hs,M,pend,h=>by
  simp only[JB] at h;simp only[ZT];refine R1 h λb h=>⟨λe=>?_,λe=>?_⟩
  .have h:=h.1 e;split at h
   .rename_i hk;rw[z3 hk];obtain⟨v,M',h1,h2,h3⟩:=h;exact .inl ⟨v,M',h1,h2,Yx h3⟩
   .rename_i hk;rw[z0 hk];split at h
    .rename_i bc;rw[z3 bc];exact R1 h λp h=>⟨h.1,Yx h.2⟩
    .rename_i bc;rw[z0 bc];exact R1 h λp h=>Yx h
  .have h:=h.2 e;split at h
   .rename_i hk;rw[z3 hk];exact⟨h.1,Yx h.2⟩
   .rename_i hk;rw[z0 hk];exact Yx h
theorem Qx {C:Cx}(aB:COk P C) (bz:C.xs=[]) {B0 F0 D0:Heap}:∀ (ops:List DOper),(∀ o∈ops,o.kind=o.op.kind)->∀ {s:St}{env:Env}{M:Heap}{B F:Heap}{pl:Nat->Value}{tb:Nat->Option Bool},GBase B0 F0 D0 B F M->Gam P B F pl tb s env M->∀ {hl chg:Nat}{A Rd:List (Nat×Option Nat)}{hs:List Heap}{pend pd:List (Nat×(Heap->Prop))},DSt hs M pd hl chg A Rd s.own pl->(∀ c∈pend,(∀ U,B.Le U->c.2 U)\/c∈pd)->(∀ j U,hs[j]?=some U->Bj A j=true->B.Le U)->chg<=hl->0<hl ->
  ∀ {K:St->Prop},XZ C ops s hl chg A Rd K->∀ {R:Env->Heap->Prop},(∀ s' ah M',K s'->GRel P B0 F0 D0 s' ah M'->R ah M')->JB (Q4 P) ops env hs M pend R
 |[],_,s,env,M,B,F,pl,tb,hB,hG,_,_,_,_,_,_,_,_,_,_,_,_,K,h,R,hK=>hK s env M h ⟨B,F,pl,tb,hB,hG⟩
 |o0::r,fA,s,env,M,B,F,pl,tb,hB,hG,hl,chg,A,Rd,hs,pend,pd,hD,hp,b9,dP,aT,K,h,R,hK=>by
  have eO:∀ {n:Nat}{U:Heap},B.Le U->Xz n U pd->Xz n U pend:=λ{n U} hb hv=>KB λc hc hn=>(hp c hc).elim (λh=>h U hb) λh=>Gt hv h hn;have snoc:∀ {U:Heap}{A':List (Nat×Option Nat)},B.Le U->(∀ j,Bj A' j=true->Bj A j=true)->∀ j U',(hs++[U])[j]?=some U'->Bj A' j=true->B.Le U':=λ{U A'} hb hA j U' hm hn=>by
   rcases JX hm with⟨_,h1⟩|⟨_,rfl⟩
   .exact b9 j U' h1 (hA j hn)
   .exact hb
  have b_:∀ o∈r,o.kind=o.op.kind:=λo' eT=>fA o' (ze _ eT);have lY:=fA o0 zf;unfold XZ at h;split at h
  .rename_i a_;have hw:=Vu hG a_;simp only[JB];rw[hw];refine⟨λe=>(by cases e),λ_=>?_⟩;have bT:=hG.put o0.dst (show SR P B pl tb .any undef by simp[SR]);by_cases al:o0.kind=2
   .rw[z3 al] at h |-;obtain⟨k1,k2⟩:=hD.stay;exact⟨eO hG.leB k1,Qx aB bz r b_ hB bT (by rw[ZE];exact k2) hp (snoc hG.leB λ_ h=>h) (by omega) (by omega) h hK⟩
   .rw[z0 al] at h |-;exact Qx aB bz r b_ hB bT (by rw[ZE];exact hD) hp b9 dP aT h hK
  have bN:(OS s.env o0).kind=(OS s.env o0).op.kind:=by unfold OS;split<;>exact lY
  have c_:JB (Q4 P) (OS s.env o0::r) env hs M pend R->JB (Q4 P) (o0::r) env hs M pend R:=λhv=>by
   unfold OS at hv;split at hv
   .rename_i a_;simp only[JB] at hv |-;rw[Vu hG a_];exact hv
   .exact hv
  refine c_ ?_;clear c_;generalize OS s.env o0=o at h bN |-
  replace h:=id h
  simp only[JB];by_cases al:o.kind=2
  .rw[z3 al] at h
   have fin:∀ {u:Value}{M':Heap}{ts:List Nat}{v:SV}{s':St}{pl':Nat->Value},(∀ R',R' u M'->vop (Q4 P) o.op env M R')->XZ C r (s'.put o.dst v) (hl+1) (bif ts.isEmpty then chg else hl) (ts.map (λt=>(hl-1,some t))++A) (bif ts.isEmpty then Rd else Rd.map λr=>(r.1,none)) K->Gam P B F pl' tb s' env M'->SR P B pl' tb v u->(ts=[]->M'=M/\pl'=pl/\s'=s)->M.Le M'->Dead M M'->FrL ts s s' pl pl' M M' ->
     Hn (λR=>vop (Q4 P) o.op env M R) λv M'=>Xz hs.length M' pend/\JB (Q4 P) r (XQ env o.dst v) (hs++[M']) M' pend R:=λ{u M' ts v s' pl'} bG oq bp jd he hle hd cP=>by
    cases ts with
    |nil =>obtain⟨rfl,rfl,rfl⟩:=he rfl;obtain⟨k1,k2⟩:=hD.stay;exact⟨u,M',bG _ ⟨rfl,rfl⟩,eO bp.leB k1,Qx aB bz r b_ (GS hB hd) (bp.put o.dst jd) (by rw[ZE];exact k2) hp (snoc bp.leB λ_ h=>h) (by simp only[List.isEmpty,zl] at *;omega) (by omega) oq hK⟩
    |cons t ts =>obtain⟨k1,k2⟩:=hD.call hle cP aT;exact⟨u,M',bG _ ⟨rfl,rfl⟩,eO bp.leB k1,Qx aB bz r b_ (GS hB hd) (bp.put o.dst jd) (by rw[ZE];exact k2) hp (snoc bp.leB λ_ h=>Tk h) (by simp only[List.isEmpty,zQ] at *;omega) (by omega) oq hK⟩
   split at h
   .rename_i f args bG;split at h
    .rename_i hg;rw[hg];refine⟨λ_=>?_,λe=>by cases e⟩;rw[z3 al];rw[bz] at h;simp only[QA] at h;obtain⟨g,a,b,u,M',e,v,s',pl',h1,h2,h3,h4,h5,h6,h7,h8,h9⟩:=WC aB hG h (show SR P M Xd J9 (.fn f [] []) (.func (.func f) #[] #[]) by simp only[SR,SRs];exact⟨[],[],rfl,rfl,rfl⟩) (hG.gcall Gds.nil args);obtain⟨rfl,rfl,rfl⟩:=(by simpa using h1:f=g/\#[]=a/\#[]=b);refine fin (u:=u) (M':=M') (λR' hr=>?_) h3 h4 h5 h6 h7 h8 h9;rw[bG];show VCalled P f (args.map (Q5 env)) M R';have:=h2.mono (R':=R') λu' aE ⟨e1,e2⟩=>by subst e1;subst e2;exact hr
     simpa using this
    .rename_i j want hg;rw[hg];split at h
     .exact h.elim
     .rename_i gs s1 dX;obtain⟨tb',bp,cS,b,hw,bk,bt⟩:=Wo hG dX;have aN:=KR dX;rw[hw];split at h
      .rename_i cs v dH;cases cE:U9 v with
       |false=>rw[cE] at h;exact h.elim
       |true =>
       rw[cE] at h;simp only[zl] at h;obtain⟨h1,h2⟩:=ZN h;obtain⟨k1,k2⟩:=hD.stay;have lT:∀ x,DSt (hs++[M]) M pd (hl+1) chg A Rd (s1.put o.dst x).own pl:=λx=>by rw[ZE,aN];exact k2
       refine⟨λe=>?_,λe=>?_⟩
       .rw[z3 al];have gy:Gds tb' gs:=λg hg=>⟨bk e g hg,cS g hg⟩;have lZ:∀ {v u},SR P B pl tb' v u->SR P B pl tb' (.grd gs (Bw v)) u:=λ{v u} hs=>by
         simp only[SR];obtain⟨h1,h2⟩:=T0 hs;exact⟨⟨cS,h2⟩,λ_=>h1,λ⟨g,hg,aw⟩=>absurd (bk e g hg) aw⟩
        simp only[gqc] at dH;split at dH
        .rename_i c v' heq;cases cF:v'.ret 0 with
         |false=>rw[cF] at dH;cases dH
         |true =>
          rw[cF] at dH;obtain⟨rfl,rfl⟩:=Ze dH;obtain⟨g,a,b',h3,h4,_⟩:=Jg aB.cs (show SR P M Xd J9 (.fn f [] []) (.func (.func f) #[] #[]) by simp only[SR,SRs];exact⟨[],[],rfl,rfl,rfl⟩) (bp.gcall gy args) heq cF rfl (h2 (bk e) _ (by simp));obtain⟨rfl,rfl,rfl⟩:=(by simpa using h3:f=g/\#[]=a/\#[]=b');refine⟨Ui Xd v',M,?_,eO hG.leB k1,Qx aB bz r b_ hB (bp.put o.dst (lZ ?_)) (lT _) hp (snoc hG.leB λ_ h=>h) (by omega) (by omega) (ZI h1) hK⟩
          .rw[bG];show VCalled P f (args.map (Q5 env)) M _;have:=h4.mono (R':=λu M'=>u=Ui Xd v'/\M'=M) λu M' hr=>by
            obtain⟨rfl,hu⟩:=hr.flat cF;exact⟨UJ v' u cF cE hu,rfl⟩
           simpa using this
          .exact SR.retd (λj hj=>by omega) _ _ cF (CY (P:=P) (pl:=Xd) (m:=0) (λj hj=>by omega) v' cF cE)
        .cases dH
       .rw[z3 al];obtain⟨g,dL,aw⟩:=bt e;exact⟨eO hG.leB k1,Qx aB bz r b_ hB (bp.put o.dst (by simp only[SR];exact⟨⟨cS,Th v⟩,λae=>absurd (ae g dL) aw,λ_=>trivial⟩)) (lT _) hp (snoc hG.leB λ_ h=>h) (by omega) (by omega) (ZI h1) hK⟩
      .split at h
       .rename_i cs v kJ;obtain⟨c,ty,k,xs,nl,heq,rfl,rfl,hk,dM⟩:=LN kJ;obtain⟨h1,h2⟩:=ZN h;have frz:∀ {B' M':Heap},B'.Le M'->∀ j U',(hs++[M'])[j]?=some U'->Bj ((hl-1,none)::A) j=true->B'.Le U':=λ{B' M'} hb j U' hm hn=>by
         rcases JX hm with⟨h1,_⟩|⟨_,rfl⟩
         .simp only[Bj,zS,z4,zx,zJ,Option.isSome_none,zy,or_false] at hn;have:=hD.len;omega
         .exact hb
        refine⟨λe=>?_,λe=>?_⟩
        .rw[z3 al];have gy:Gds tb' gs:=λg hg=>⟨bk e g hg,cS g hg⟩;have fE:=h2 (bk e) c (by simp);have gW:=h2 (bk e) (nl=true->xs=[]) (by simp);have dX:D9 C (C.off+o.dst.getD 0) (.fn f [] []) (PE s1.own (args.map (gev gs s1.env))) s1 (λts v' s'=>ts=[C.off+o.dst.getD 0]/\v'=.lst (C.off+o.dst.getD 0)/\s'=s1.make (C.off+o.dst.getD 0) (.lst ty k xs nl)):=by
          unfold D9;rw[heq];dsimp only;have ak:(SV.ret [OB.lst ty k xs nl].length (.lst 0)&&([OB.lst ty k xs nl].all OB.ret&&(Nat.blt 0 C.nt&&([OB.lst ty k xs nl].all OB.isL&&U9 (.lst 0)))))=true:=by simp only[SV.ret,xe,zS,List.all_nil,xW,OB.ret,hk,Bool.true_and,OB.isL,U9];rw[z4];exact⟨rfl,by rw[zJ];exact dM⟩
          rw[ak];simp only[zl,Q1d,OB.wf];refine⟨fE,gW,?_,?_,?_⟩
          .simp[List.range_succ]
          .simp[SV.ren]
          .simp[St.makes]
         obtain⟨g,a,b',u,M',ts,v',s',pl',h3,h4,⟨rfl,rfl,rfl⟩,h5,h6,_,h7,h8,h9⟩:=WC aB bp dX (show SR P M Xd J9 (.fn f [] []) (.func (.func f) #[] #[]) by simp only[SR,SRs];exact⟨[],[],rfl,rfl,rfl⟩) (bp.gcall gy args);obtain⟨rfl,rfl,rfl⟩:=(by simpa using h3:f=g/\#[]=a/\#[]=b');obtain⟨B',F',m1,m2,m3⟩:=CI bp.bf hk h5 h6 h8;have cP:FrL [C.off+o.dst.getD 0] s ((s1.make (C.off+o.dst.getD 0) .dead).put o.dst (.grd gs (.val (.list k) xs))) pl pl' M M':=λq hq=>by obtain⟨f1,f2,f3⟩:=h9 q hq;rw[aN] at f3;refine⟨?_,f2,f3⟩;rw[ZE,Ur _ _ _ (by simpa using hq),aN]
         obtain⟨k1,k2⟩:=hD.call h7 cP aT;refine⟨u,M',?_,eO (m1.b.trans m2.leB) k1,Qx aB bz r b_ (hB.trans m1) (m2.put o.dst ?_) k2.frozen (λc hc=>(hp c hc).imp (λh U hτ=>h U (m1.b.trans hτ)) id) (frz m2.leB) (by omega) (by omega) h1 hK⟩
         .rw[bG];show VCalled P f (args.map (Q5 env)) M _;simpa using h4
         .simp only[SR];exact⟨⟨cS,trivial⟩,λ_=>m3,λ⟨g,hg,aw⟩=>absurd (bk e g hg) aw⟩
        .rw[z3 al];obtain⟨g,dL,aw⟩:=bt e;have cP:FrL [C.off+o.dst.getD 0] s ((s1.make (C.off+o.dst.getD 0) .dead).put o.dst (.grd gs (.val (.list k) xs))) pl (X8 pl (C.off+o.dst.getD 0) undef) M M:=λq hq=>by
          have cA:q≠C.off+o.dst.getD 0:=by simpa using hq
          refine⟨?_,by simp[X8,cA],λ_ _ _=>rfl⟩;rw[ZE,Ur _ _ _ cA,aN]
         obtain⟨k1,k2⟩:=hD.call (.refl M) cP aT;refine⟨eO hG.leB k1,Qx aB bz r b_ hB ((bp.make (C.off+o.dst.getD 0) .dead undef bp.le (λ_ _ _ _ _=>rfl) trivial (λi hl _=>by cases hl)).put o.dst ?_) k2.frozen hp (frz hG.leB) (by omega) (by omega) h1 hK⟩;simp only[SR];exact⟨⟨cS,trivial⟩,λae=>absurd (ae g dL) aw,λ_=>trivial⟩
       .exact h.elim
   .rename_i f args bG;split at h
    .rename_i hg;rw[hg];refine⟨λ_=>?_,λe=>by cases e⟩;rw[z3 al];obtain⟨g,a,b,u,M',e,v,s',pl',h1,h2,h3,h4,h5,h6,h7,h8,h9⟩:=WC aB hG h (hG.gfun Gds.nil f) (hG.gcall Gds.nil args);refine fin (u:=u) (M':=M') (λR' hr=>?_) h3 h4 h5 h6 h7 h8 h9;rw[bG];exact Ga h1 (h2.mono (R':=R') λu' aE ⟨e1,e2⟩=>by subst e1;subst e2;exact hr)
    .exact h.elim
   .exact h.elim
   .exact h.elim
   .rename_i qL ny qM jL;split at h
    .rename_i hg;rw[hg];refine⟨λ_=>?_,λe=>by cases e⟩;rw[z3 al];have aC:IT o.op=false:=by
      cases ho:o.op<;>first|rfl|(exact absurd ho (qL _ _))|(exact absurd ho (ny _ _))|skip
      case ext x=>cases x<;>first|rfl|(exact absurd ho (qM _))|(exact absurd ho (jL _))
     cases kI:EG C (o.dst.getD 0) o.op (gev [] s.env) with
     |true =>
      rw[kI] at h;simp only[zl] at h;cases hm:Q11 (TN o.op) Rd hl (AI (C.off+o.dst.getD 0) o.op (gev [] s.env)) with
      |false=>rw[hm] at h;exact h.elim
      |true =>
       rw[hm] at h;simp only[zl] at h;obtain⟨u,M',pl',v,s',h1,h2,⟨h3,kG⟩,h4⟩:=RL (λx=>hG.evs (Gds.nil (tb:=tb)) x) hG h;have gf:∀ R',R' u M'->vop (Q4 P) o.op env M R':=λR' hr=>by
        have:vop (Q4 P) o.op env M R'=Zo (Qa o.op (Q5 env) M) λp=>R' p.1 p.2:=by
         cases ho:o.op with
         |callF f a=>rw[ho] at aC;cases aC
         |callV f a=>rw[ho] at aC;cases aC
         |ext x =>
          cases x with
          |nextMap y=>rw[ho] at h1;cases h1
          |_=>rfl
         |_=>rfl
        rw[this,h1];exact hr
       obtain⟨k1,k2⟩:=hD.writeD kG (λb6=>CW b6 h1) hm aT;exact⟨u,M',gf _ ⟨rfl,rfl⟩,eO h3.leB k1,Qx aB bz r b_ (GS hB (VC h1)) (h3.put o.dst h4) (by rw[ZE];exact k2) hp (snoc h3.leB λ_ h=>Tk h) (by omega) (by omega) h2 hK⟩
     |false =>
     rw[kI] at h;simp only[zQ] at h;cases hm:((TN o.op&&Eh Rd hl (QY (C.off+o.dst.getD 0) o.op (gev [] s.env)))||Lr Rd hl (QY (C.off+o.dst.getD 0) o.op (gev [] s.env))||(Lh o.op&&Z2v Rd hl (QY (C.off+o.dst.getD 0) o.op (gev [] s.env)))) with
     |false=>rw[hm] at h;exact h.elim
     |true =>
      rw[hm] at h;simp only[zl] at h;obtain⟨u,M',pl',v,s',h1,h2,⟨h3,kG⟩,h4,hE⟩:=Q1f hG h aC;have gf:∀ R',R' u M'->vop (Q4 P) o.op env M R':=λR' hr=>by
       have:vop (Q4 P) o.op env M R'=Zo (Qa o.op (Q5 env) M) λp=>R' p.1 p.2:=by
        cases ho:o.op with
        |callF f a=>rw[ho] at aC;cases aC
        |callV f a=>rw[ho] at aC;cases aC
        |ext x =>
         cases x with
         |nextMap y=>rw[ho] at h1;cases h1
         |_=>rfl
        |_=>rfl
       rw[this,h1];exact hr
      obtain⟨k1,k2⟩:=hD.write kG (λb6=>CW b6 h1) hE hm aT;exact⟨u,M',gf _ ⟨rfl,rfl⟩,eO h3.leB k1,Qx aB bz r b_ (GS hB (VC h1)) (h3.put o.dst h4) (by rw[ZE];exact k2) hp (snoc h3.leB λ_ h=>RP h) (by omega) (by omega) h2 hK⟩
    .exact h.elim
  .rw[z0 al] at h;have l5:o.op.kind≠2:=by rw[<-bN];exact al
   by_cases bc:o.kind=1
   .rw[z3 bc] at h
    have rd:∀ (rq:Option Nat),(∀ q,rq=some q->Gl o.op (gev [] s.env) s.own=some q)->(Nat.ble chg o.kmin||To A o.kmin rq)=true->gd1 C o s (λs'=>XZ C r s' hl chg A ((o.kmax,rq)::Rd) K) ->
      Zo (Jy env o.guard) λb=>vif b (if o.kind=2 then Hn (λR=>vop (Q4 P) o.op env M R) λv M'=>Xz hs.length M' pend/\JB (Q4 P) r (XQ env o.dst v) (hs++[M']) M' pend R
       else if o.kind=1 then Zo (Qa o.op (Q5 env) M) λp=>(∀ U∈hs.drop o.kmin,XE o.op (Q5 env) p.1 U) /\
        JB (Q4 P) r (XQ env o.dst p.1) hs M (if hs.length<=o.kmax then (o.kmax,XE o.op (Q5 env) p.1)::pend else pend) R
       else Zo (Qa o.op (Q5 env) M) λp=>JB (Q4 P) r (XQ env o.dst p.1) hs M pend R)
      (if o.kind=2 then Xz hs.length M pend/\JB (Q4 P) r (XQ env o.dst undef) (hs++[M]) M pend R else JB (Q4 P) r (XQ env o.dst undef) hs M pend R):=λrq ot hc h=>by
     obtain⟨b,hw,h1,h2⟩:=Uo hG h;rw[hw];have l6:DSt hs M pd hl chg A ((o.kmax,rq)::Rd) s.own pl:=⟨hD.len,hD.same,λc hc=>(hD.pend c hc).imp id λ⟨r,k1,k2⟩=>⟨r,ze _ k1,k2⟩,hD.fr⟩;refine⟨λe=>?_,λe=>?_⟩
     .obtain⟨u,s',tb',h3,h4,aN,h5⟩:=h1 e;rw[z0 al,z3 bc,h3];refine⟨λU hτ=>?_,?_⟩
      .obtain⟨j,hj⟩:=xd.1 hτ;rw[zC] at hj;rw[zx] at hc;rcases hc with hc|hc
       .have:=hD.same (o.kmin+j) U (by have:=zF hc;omega) hj;subst this;exact Jf h3
       .unfold To at hc;split at hc
        .rename_i q;obtain⟨k1,i,bl,k2,k3,k4,k5⟩:=Kq hG (ot q rfl) h3;have hu:ZF A (o.kmin+j) (q / 2)=true:=by
          simp only[ZF,z8,zx,zJ] at hc |-;exactλa ha=>(hc a ha).imp (λh=>by omega) id
         have:=hD.fr (o.kmin+j) U (q / 2) i hj hu k1 k2;exact Jf (k4 U (by rw[this];exact k3))
        .cases hc
      .by_cases hle:hs.length<=o.kmax
       .rw[z3 hle];refine Qx aB bz r b_ hB h5 (A:=A) (Rd:=(o.kmax,rq)::Rd) (hl:=hl) (chg:=chg) (pd:=(o.kmax,XE o.op (Q5 env) u)::pd) ?_ (λc hc=>?_) b9 dP aT h4 hK
        .rw[aN];refine⟨hD.len,hD.same,λc hc=>?_,hD.fr⟩;rcases zj.1 hc with rfl|hc
         .refine .inr ⟨_,zf,z7 _,?_⟩;cases rq with
          |none=>exactλU hτ=>Jf (RJ l5 h3 hτ)
          |some q =>obtain⟨k1,i,bl,k2,k3,k4,k5⟩:=Kq hG (ot q rfl) h3;exact⟨k1,i,bl,k2,k3,λU ht=>Jf (k4 U ht),λho=>(let ⟨es,c,wr,x1,x2⟩:=k5 ho;⟨es,c,wr,x1,λU bS c' hl ht=>Jf (x2 U bS c' hl ht)⟩)⟩
         .exact l6.pend c hc
        .rcases zj.1 hc with rfl|hc
         .exact .inr zf
         .exact(hp c hc).imp id λh=>ze _ h
       .rw[z0 hle];exact Qx aB bz r b_ hB h5 (A:=A) (Rd:=(o.kmax,rq)::Rd) (hl:=hl) (chg:=chg) (pd:=pd) (by rw[aN];exact l6) hp b9 dP aT h4 hK
     .obtain⟨s',tb',h4,aN,h5⟩:=h2 e;rw[z0 al];exact Qx aB bz r b_ hB h5 (by rw[aN];exact l6) hp b9 dP aT h4 hK
    have ro:Bj A o.kmin=true->(∀ u,Qa o.op (Q5 env) M=some (u,M)->(Jy env o.guard=some true)->∀ U,B.Le U->Qa o.op (Q5 env) U=some (u,U))->gd1 C o s (λs'=>XZ C r s' hl chg A Rd K) ->
      Zo (Jy env o.guard) λb=>vif b (if o.kind=2 then Hn (λR=>vop (Q4 P) o.op env M R) λv M'=>Xz hs.length M' pend/\JB (Q4 P) r (XQ env o.dst v) (hs++[M']) M' pend R
       else if o.kind=1 then Zo (Qa o.op (Q5 env) M) λp=>(∀ U∈hs.drop o.kmin,XE o.op (Q5 env) p.1 U) /\
        JB (Q4 P) r (XQ env o.dst p.1) hs M (if hs.length<=o.kmax then (o.kmax,XE o.op (Q5 env) p.1)::pend else pend) R
       else Zo (Qa o.op (Q5 env) M) λp=>JB (Q4 P) r (XQ env o.dst p.1) hs M pend R)
      (if o.kind=2 then Xz hs.length M pend/\JB (Q4 P) r (XQ env o.dst undef) (hs++[M]) M pend R else JB (Q4 P) r (XQ env o.dst undef) hs M pend R):=λjM bK h=>by
     obtain⟨b,hw,h1,h2⟩:=Uo hG h;rw[hw];refine⟨λe=>?_,λe=>?_⟩
     .obtain⟨u,s',tb',h3,h4,aN,h5⟩:=h1 e;have bK:=bK u h3 (by rw[hw,e]);rw[z0 al,z3 bc,h3];refine⟨λU hτ=>?_,?_⟩
      .obtain⟨j,hj⟩:=xd.1 hτ;rw[zC] at hj;refine Jf (bK U (b9 _ U hj ?_));simp only[Bj,z8,zx,zJ] at jM |-;exactλa ha=>(jM a ha).imp (λh=>by omega) id
      refine Qx aB bz r b_ hB h5 (A:=A) (Rd:=Rd) (hl:=hl) (chg:=chg) (pd:=pd) (by rw[aN];exact hD) (λc hc=>?_) b9 dP aT h4 hK;split at hc
      .rcases zj.1 hc with rfl|hc
       .exact .inl λU hτ=>Jf (bK U hτ)
       .exact hp c hc
      .exact hp c hc
     .obtain⟨s',tb',h4,aN,h5⟩:=h2 e;rw[z0 al];exact Qx aB bz r b_ hB h5 (by rw[aN];exact hD) hp b9 dP aT h4 hK
    split at h
    .rename_i hg;cases hr:(Z2x o.op (gev [] s.env)&&Bj A o.kmin) with
     |true =>rw[hr] at h;rw[z4] at hr;exact ro hr.2 (λu hu _=>Gy hG Gds.nil hr.1 hu) h
     |false =>
     rw[hr] at h;simp only[zQ] at h;cases hb:(Nat.ble chg o.kmin||To A o.kmin (Gl o.op (gev [] s.env) s.own)) with
     |false=>rw[hb] at h;exact h.elim
     |true =>rw[hb] at h;exact rd _ (λq hq=>hq) hb h
    .rename_i j want hg;cases hr:(Q1z s j want o.op&&Bj A o.kmin) with
     |true =>
      rw[hr] at h;rw[z4] at hr;obtain⟨hr,jM⟩:=hr;refine ro jM (λu hu hw=>?_) h;unfold Q1z at hr;split at hr
      .rename_i gs s1 dX;obtain⟨tb',bp,cS,b,dk,bk,bt⟩:=Wo hG dX;rw[hg,dk] at hw;have e:=osj hw;exact Gy bp (λg hg=>⟨bk e g hg,cS g hg⟩) hr hu
      .cases hr
     |false =>
     rw[hr] at h;simp only[zQ] at h;cases hb:Nat.ble chg o.kmin with
     |false=>rw[hb] at h;exact h.elim
     |true =>rw[hb] at h;exact rd none (λq hq=>by cases hq) (by rw[hb];rfl) h
   .rw[z0 bc] at h;obtain⟨b,hw,h1,h2⟩:=Uo hG h;rw[hw];refine⟨λe=>?_,λe=>?_⟩
    .obtain⟨u,s',tb',h3,h4,aN,h5⟩:=h1 e;rw[z0 al,z0 bc,h3];exact Qx aB bz r b_ hB h5 (by rw[aN];exact hD) hp b9 dP aT h4 hK
    .obtain⟨s',tb',h4,aN,h5⟩:=h2 e;rw[z0 al];exact Qx aB bz r b_ hB h5 (by rw[aN];exact hD) hp b9 dP aT h4 hK
theorem Qz {C:Cx}(aB:COk P C) {B0 F0 D0:Heap}:∀ (ops:List DOper),(∀ o∈ops,o.kind=o.op.kind)->∀ {s:St}{env:Env}{M:Heap}{B F:Heap}{pl:Nat->Value}{tb:Nat->Option Bool},GBase B0 F0 D0 B F M->Gam P B F pl tb s env M->∀ {hl chg:Nat}{A Rd:List (Nat×Option Nat)}{hs:List Heap}{pend pd:List (Nat×(Heap->Prop))},DSt hs M pd hl chg A Rd s.own pl->(∀ c∈pend,(∀ U,B.Le U->c.2 U)\/c∈pd)->(∀ j U,hs[j]?=some U->Bj A j=true->B.Le U)->chg<=hl->0<hl ->
  ∀ {K:St->Prop},XZ C ops s hl chg A Rd K->∀ {R:Env->Heap->Prop},(∀ s' ah M',K s'->GRel P B0 F0 D0 s' ah M'->R ah M')->ZT (Q4 P) ops env hs M pend R
 |[],_,s,env,M,B,F,pl,tb,hB,hG,_,_,_,_,_,_,_,_,_,_,_,_,K,h,R,hK=>hK s env M h ⟨B,F,pl,tb,hB,hG⟩
 |o0::r,fA,s,env,M,B,F,pl,tb,hB,hG,hl,chg,A,Rd,hs,pend,pd,hD,hp,b9,dP,aT,K,h,R,hK=>by
  have eO:∀ {n:Nat}{U:Heap},B.Le U->Xz n U pd->Xz n U pend:=λ{n U} hb hv=>KB λc hc hn=>(hp c hc).elim (λh=>h U hb) λh=>Gt hv h hn;have snoc:∀ {U:Heap}{A':List (Nat×Option Nat)},B.Le U->(∀ j,Bj A' j=true->Bj A j=true)->∀ j U',(hs++[U])[j]?=some U'->Bj A' j=true->B.Le U':=λ{U A'} hb hA j U' hm hn=>by
   rcases JX hm with⟨_,h1⟩|⟨_,rfl⟩
   .exact b9 j U' h1 (hA j hn)
   .exact hb
  have b_:∀ o∈r,o.kind=o.op.kind:=λo' eT=>fA o' (ze _ eT);have lY:=fA o0 zf;unfold XZ at h;split at h
  .rename_i a_;have hw:=Vu hG a_;simp only[ZT];rw[hw];refine⟨λe=>(by cases e),λ_=>?_⟩;have bT:=hG.put o0.dst (show SR P B pl tb .any undef by simp[SR]);by_cases al:o0.kind=2
   .rw[z3 al] at h |-;obtain⟨k1,k2⟩:=hD.stay;exact⟨eO hG.leB k1,Qz aB r b_ hB bT (by rw[ZE];exact k2) hp (snoc hG.leB λ_ h=>h) (by omega) (by omega) h hK⟩
   .rw[z0 al] at h |-;exact Qz aB r b_ hB bT (by rw[ZE];exact hD) hp b9 dP aT h hK
  have bN:(OS s.env o0).kind=(OS s.env o0).op.kind:=by unfold OS;split<;>exact lY
  have c_:ZT (Q4 P) (OS s.env o0::r) env hs M pend R->ZT (Q4 P) (o0::r) env hs M pend R:=λhv=>by
   unfold OS at hv;split at hv
   .rename_i a_;simp only[ZT] at hv |-;rw[Vu hG a_];exact hv
   .exact hv
  refine c_ ?_;clear c_;generalize OS s.env o0=o at h bN |-
  replace h:=id h
  simp only[ZT];by_cases al:o.kind=2
  .rw[z3 al] at h
   have fin:∀ {u:Value}{M':Heap}{ts:List Nat}{v:SV}{s':St}{pl':Nat->Value},(∀ R',R' u M'->vop (Q4 P) o.op env M R')->XZ C r (s'.put o.dst v) (hl+1) (bif ts.isEmpty then chg else hl) (ts.map (λt=>(hl-1,some t))++A) (bif ts.isEmpty then Rd else Rd.map λr=>(r.1,none)) K->Gam P B F pl' tb s' env M'->SR P B pl' tb v u->(ts=[]->M'=M/\pl'=pl/\s'=s)->M.Le M'->Dead M M'->FrL ts s s' pl pl' M M' ->
     Hn (λR=>vop (Q4 P) o.op env M R) λv M'=>Xz hs.length M' pend/\ZT (Q4 P) r (XQ env o.dst v) (hs++[M']) M' pend R:=λ{u M' ts v s' pl'} bG oq bp jd he hle hd cP=>by
    cases ts with
    |nil =>obtain⟨rfl,rfl,rfl⟩:=he rfl;obtain⟨k1,k2⟩:=hD.stay;exact⟨u,M',bG _ ⟨rfl,rfl⟩,eO bp.leB k1,Qz aB r b_ (GS hB hd) (bp.put o.dst jd) (by rw[ZE];exact k2) hp (snoc bp.leB λ_ h=>h) (by simp only[List.isEmpty,zl] at *;omega) (by omega) oq hK⟩
    |cons t ts =>obtain⟨k1,k2⟩:=hD.call hle cP aT;exact⟨u,M',bG _ ⟨rfl,rfl⟩,eO bp.leB k1,Qz aB r b_ (GS hB hd) (bp.put o.dst jd) (by rw[ZE];exact k2) hp (snoc bp.leB λ_ h=>Tk h) (by simp only[List.isEmpty,zQ] at *;omega) (by omega) oq hK⟩
   split at h
   .rename_i f args bG;split at h
    .rename_i hg;rw[hg];refine⟨λ_=>?_,λe=>by cases e⟩;rw[z3 al]
     have ou:∀ {K':List Nat->SV->St->Prop},D9 C (C.off+o.dst.getD 0) (.fn f [] []) (PE s.own (args.map (gev [] s.env))) s K'->(∀ ts v s',K' ts v s'->XZ C r (s'.put o.dst v) (hl+1) (bif ts.isEmpty then chg else hl) (ts.map (λt=>(hl-1,some t))++A) (bif ts.isEmpty then Rd else Rd.map λr=>(r.1,none)) K) ->
       Hn (λR=>vop (Q4 P) o.op env M R) λv M'=>Xz hs.length M' pend/\ZT (Q4 P) r (XQ env o.dst v) (hs++[M']) M' pend R:=λ{K'} h qN=>by
      obtain⟨g,a,b,u,M',e,v,s',pl',h1,h2,h3,h4,h5,h6,h7,h8,h9⟩:=WC aB hG h (show SR P M Xd J9 (.fn f [] []) (.func (.func f) #[] #[]) by simp only[SR,SRs];exact⟨[],[],rfl,rfl,rfl⟩) (hG.gcall Gds.nil args);obtain⟨rfl,rfl,rfl⟩:=(by simpa using h1:f=g/\#[]=a/\#[]=b);refine fin (u:=u) (M':=M') (λR' hr=>?_) (qN _ _ _ h3) h4 h5 h6 h7 h8 h9;rw[bG];show VCalled P f (args.map (Q5 env)) M R';have:=h2.mono (R':=R') λu' aE ⟨e1,e2⟩=>by subst e1;subst e2;exact hr
      simpa using this
     split at h
     .rename_i x hx;split at h
      .rename_i jf uw;split at h
       .rename_i tt ux;cases gH:(waits o.dst.toList r&&Q11 false Rd hl [tt]) with
        |false=>rw[gH] at h;exact h.elim
        |true =>rw[gH] at h;simp only[zl] at h;rw[z4] at gH;refine .inr ⟨gH.1,?_⟩;rw[bG];show VCalled P f (args.map (Q5 env)) M _;refine aB.xf f jf uw x hx B F pl tb s env M _ _ _ _ _ tt hG (SRs.map λx _=>hG.evs Gds.nil x) ux h λv s' u M' k1 k2 k3 k4 k5=>?_;obtain⟨q1,q2⟩:=hD.writeD k5 (mk:=false) (λh=>by cases h) gH.2 aT;exact⟨eO k3.leB q1,Qz aB r b_ (GS hB k2) (k3.put o.dst k4) (by rw[ZE];exact q2) hp (snoc k3.leB λ_ h=>RP h) (by omega) (by omega) k1 hK⟩
       .exact h.elim
      .cases gH:(waits o.dst.toList r&&Rd.all (λq=>Nat.blt q.1 hl)) with
       |false=>rw[gH] at h;simp only[zQ] at h;exact .inl (ou h λ_ _ _ h=>h)
       |true =>
        rw[gH] at h;simp only[zl] at h;rw[z4] at gH;refine .inr ⟨gH.1,?_⟩;rw[bG];show VCalled P f (args.map (Q5 env)) M _;have az:∀ args:List Operand,SRs P B pl tb (args.map (gev [] s.env)) (args.map (Q5 env)):=λargs=>SRs.map λx _=>hG.evs Gds.nil x;refine aB.xs f x hx B F pl tb s env M _ _ _ _ _ hG (az args) h λv s' B' F' pl' tb' u M' k1 k2 k3 k4=>?_;have ae:∀ c∈pd,c.1<hl:=λc hc=>by
         rcases hD.pend c hc with h1|⟨q,h1,h2,_⟩
         .exact h1
         .have:=z8.1 gH.2 q h1;rw[zJ] at this;omega
        have kj:Xz hs.length M' pd:=KB λc hc hle=>by have:=ae c hc;have:=hD.len;omega
        have qO:Xz hs.length M' pend:=KB λc hc hn=>(hp c hc).elim (λh=>h M' (k2.b.trans k3.leB)) λh=>Gt kj h hn;refine⟨qO,Qz aB r b_ (hB.trans k2) (k3.put o.dst k4) (pd:=pd) ⟨by simp[hD.len],λj U hj ht=>?_,λc hc=>.inl (by have:=ae c hc;omega),λj U q i ht hu cu hi=>?_⟩ (λc hc=>(hp c hc).imp (λh U hτ=>h U (k2.b.trans hτ)) id) (λj U ht hn=>?_) (by omega) (by omega) k1 hK⟩
        .rcases JX ht with⟨h1,_⟩|⟨_,h1⟩
         .rw[hD.len] at h1;omega
         .exact h1
        .rcases JX ht with⟨h1,_⟩|⟨_,h1⟩
         .exfalso;rw[hD.len] at h1;simp only[ZF,zS,z4,zx,zJ,zy,or_false] at hu;omega
         .rw[h1]
        .rcases JX ht with⟨h1,_⟩|⟨_,h1⟩
         .exfalso;rw[hD.len] at h1;simp only[Bj,zS,z4,zx,zJ,Option.isSome_none,zy,or_false] at hn;omega
         .rw[h1];exact k3.leB
     .exact .inl (ou h λ_ _ _ h=>h)
    .rename_i j want hg;rw[hg];split at h
     .exact h.elim
     .rename_i gs s1 dX;obtain⟨tb',bp,cS,b,hw,bk,bt⟩:=Wo hG dX;have aN:=KR dX;rw[hw];split at h
      .rename_i cs v dH;cases cE:U9 v with
       |false=>rw[cE] at h;exact h.elim
       |true =>
       rw[cE] at h;simp only[zl] at h;obtain⟨h1,h2⟩:=ZN h;obtain⟨k1,k2⟩:=hD.stay;have lT:∀ x,DSt (hs++[M]) M pd (hl+1) chg A Rd (s1.put o.dst x).own pl:=λx=>by rw[ZE,aN];exact k2
       refine⟨λe=>?_,λe=>?_⟩
       .rw[z3 al];have gy:Gds tb' gs:=λg hg=>⟨bk e g hg,cS g hg⟩;have lZ:∀ {v u},SR P B pl tb' v u->SR P B pl tb' (.grd gs (Bw v)) u:=λ{v u} hs=>by
         simp only[SR];obtain⟨h1,h2⟩:=T0 hs;exact⟨⟨cS,h2⟩,λ_=>h1,λ⟨g,hg,aw⟩=>absurd (bk e g hg) aw⟩
        simp only[gqc] at dH;split at dH
        .rename_i c v' heq;cases cF:v'.ret 0 with
         |false=>rw[cF] at dH;cases dH
         |true =>
          rw[cF] at dH;obtain⟨rfl,rfl⟩:=Ze dH;obtain⟨g,a,b',h3,h4,_⟩:=Jg aB.cs (show SR P M Xd J9 (.fn f [] []) (.func (.func f) #[] #[]) by simp only[SR,SRs];exact⟨[],[],rfl,rfl,rfl⟩) (bp.gcall gy args) heq cF rfl (h2 (bk e) _ (by simp));obtain⟨rfl,rfl,rfl⟩:=(by simpa using h3:f=g/\#[]=a/\#[]=b');refine .inl ⟨Ui Xd v',M,?_,eO hG.leB k1,Qz aB r b_ hB (bp.put o.dst (lZ ?_)) (lT _) hp (snoc hG.leB λ_ h=>h) (by omega) (by omega) (ZI h1) hK⟩
          .rw[bG];show VCalled P f (args.map (Q5 env)) M _;have:=h4.mono (R':=λu M'=>u=Ui Xd v'/\M'=M) λu M' hr=>by
            obtain⟨rfl,hu⟩:=hr.flat cF;exact⟨UJ v' u cF cE hu,rfl⟩
           simpa using this
          .exact SR.retd (λj hj=>by omega) _ _ cF (CY (P:=P) (pl:=Xd) (m:=0) (λj hj=>by omega) v' cF cE)
        .cases dH
       .rw[z3 al];obtain⟨g,dL,aw⟩:=bt e;exact⟨eO hG.leB k1,Qz aB r b_ hB (bp.put o.dst (by simp only[SR];exact⟨⟨cS,Th v⟩,λae=>absurd (ae g dL) aw,λ_=>trivial⟩)) (lT _) hp (snoc hG.leB λ_ h=>h) (by omega) (by omega) (ZI h1) hK⟩
      .split at h
       .rename_i cs v kJ;obtain⟨c,ty,k,xs,nl,heq,rfl,rfl,hk,dM⟩:=LN kJ;obtain⟨h1,h2⟩:=ZN h;have frz:∀ {B' M':Heap},B'.Le M'->∀ j U',(hs++[M'])[j]?=some U'->Bj ((hl-1,none)::A) j=true->B'.Le U':=λ{B' M'} hb j U' hm hn=>by
         rcases JX hm with⟨h1,_⟩|⟨_,rfl⟩
         .simp only[Bj,zS,z4,zx,zJ,Option.isSome_none,zy,or_false] at hn;have:=hD.len;omega
         .exact hb
        refine⟨λe=>?_,λe=>?_⟩
        .rw[z3 al];have gy:Gds tb' gs:=λg hg=>⟨bk e g hg,cS g hg⟩;have fE:=h2 (bk e) c (by simp);have gW:=h2 (bk e) (nl=true->xs=[]) (by simp);have dX:D9 C (C.off+o.dst.getD 0) (.fn f [] []) (PE s1.own (args.map (gev gs s1.env))) s1 (λts v' s'=>ts=[C.off+o.dst.getD 0]/\v'=.lst (C.off+o.dst.getD 0)/\s'=s1.make (C.off+o.dst.getD 0) (.lst ty k xs nl)):=by
          unfold D9;rw[heq];dsimp only;have ak:(SV.ret [OB.lst ty k xs nl].length (.lst 0)&&([OB.lst ty k xs nl].all OB.ret&&(Nat.blt 0 C.nt&&([OB.lst ty k xs nl].all OB.isL&&U9 (.lst 0)))))=true:=by simp only[SV.ret,xe,zS,List.all_nil,xW,OB.ret,hk,Bool.true_and,OB.isL,U9];rw[z4];exact⟨rfl,by rw[zJ];exact dM⟩
          rw[ak];simp only[zl,Q1d,OB.wf];refine⟨fE,gW,?_,?_,?_⟩
          .simp[List.range_succ]
          .simp[SV.ren]
          .simp[St.makes]
         obtain⟨g,a,b',u,M',ts,v',s',pl',h3,h4,⟨rfl,rfl,rfl⟩,h5,h6,_,h7,h8,h9⟩:=WC aB bp dX (show SR P M Xd J9 (.fn f [] []) (.func (.func f) #[] #[]) by simp only[SR,SRs];exact⟨[],[],rfl,rfl,rfl⟩) (bp.gcall gy args);obtain⟨rfl,rfl,rfl⟩:=(by simpa using h3:f=g/\#[]=a/\#[]=b');obtain⟨B',F',m1,m2,m3⟩:=CI bp.bf hk h5 h6 h8;have cP:FrL [C.off+o.dst.getD 0] s ((s1.make (C.off+o.dst.getD 0) .dead).put o.dst (.grd gs (.val (.list k) xs))) pl pl' M M':=λq hq=>by obtain⟨f1,f2,f3⟩:=h9 q hq;rw[aN] at f3;refine⟨?_,f2,f3⟩;rw[ZE,Ur _ _ _ (by simpa using hq),aN]
         obtain⟨k1,k2⟩:=hD.call h7 cP aT;refine .inl ⟨u,M',?_,eO (m1.b.trans m2.leB) k1,Qz aB r b_ (hB.trans m1) (m2.put o.dst ?_) k2.frozen (λc hc=>(hp c hc).imp (λh U hτ=>h U (m1.b.trans hτ)) id) (frz m2.leB) (by omega) (by omega) h1 hK⟩
         .rw[bG];show VCalled P f (args.map (Q5 env)) M _;simpa using h4
         .simp only[SR];exact⟨⟨cS,trivial⟩,λ_=>m3,λ⟨g,hg,aw⟩=>absurd (bk e g hg) aw⟩
        .rw[z3 al];obtain⟨g,dL,aw⟩:=bt e;have cP:FrL [C.off+o.dst.getD 0] s ((s1.make (C.off+o.dst.getD 0) .dead).put o.dst (.grd gs (.val (.list k) xs))) pl (X8 pl (C.off+o.dst.getD 0) undef) M M:=λq hq=>by
          have cA:q≠C.off+o.dst.getD 0:=by simpa using hq
          refine⟨?_,by simp[X8,cA],λ_ _ _=>rfl⟩;rw[ZE,Ur _ _ _ cA,aN]
         obtain⟨k1,k2⟩:=hD.call (.refl M) cP aT;refine⟨eO hG.leB k1,Qz aB r b_ hB ((bp.make (C.off+o.dst.getD 0) .dead undef bp.le (λ_ _ _ _ _=>rfl) trivial (λi hl _=>by cases hl)).put o.dst ?_) k2.frozen hp (frz hG.leB) (by omega) (by omega) h1 hK⟩;simp only[SR];exact⟨⟨cS,trivial⟩,λae=>absurd (ae g dL) aw,λ_=>trivial⟩
       .exact h.elim
   .rename_i f args bG;split at h
    .rename_i hg;rw[hg];refine⟨λ_=>?_,λe=>by cases e⟩;rw[z3 al];refine .inl ?_;obtain⟨g,a,b,u,M',e,v,s',pl',h1,h2,h3,h4,h5,h6,h7,h8,h9⟩:=WC aB hG h (hG.gfun Gds.nil f) (hG.gcall Gds.nil args);refine fin (u:=u) (M':=M') (λR' hr=>?_) h3 h4 h5 h6 h7 h8 h9;rw[bG];exact Ga h1 (h2.mono (R':=R') λu' aE ⟨e1,e2⟩=>by subst e1;subst e2;exact hr)
    .exact h.elim
   .exact h.elim
   .exact h.elim
   .rename_i qL ny qM jL;split at h
    .rename_i hg;rw[hg];refine⟨λ_=>?_,λe=>by cases e⟩;rw[z3 al];have aC:IT o.op=false:=by
      cases ho:o.op<;>first|rfl|(exact absurd ho (qL _ _))|(exact absurd ho (ny _ _))|skip
      case ext x=>cases x<;>first|rfl|(exact absurd ho (qM _))|(exact absurd ho (jL _))
     cases kI:EG C (o.dst.getD 0) o.op (gev [] s.env) with
     |true =>
      rw[kI] at h;simp only[zl] at h;cases hm:Q11 (TN o.op) Rd hl (AI (C.off+o.dst.getD 0) o.op (gev [] s.env)) with
      |false=>rw[hm] at h;exact h.elim
      |true =>
       rw[hm] at h;simp only[zl] at h;obtain⟨u,M',pl',v,s',h1,h2,⟨h3,kG⟩,h4⟩:=RL (λx=>hG.evs (Gds.nil (tb:=tb)) x) hG h;have gf:∀ R',R' u M'->vop (Q4 P) o.op env M R':=λR' hr=>by
        have:vop (Q4 P) o.op env M R'=Zo (Qa o.op (Q5 env) M) λp=>R' p.1 p.2:=by
         cases ho:o.op with
         |callF f a=>rw[ho] at aC;cases aC
         |callV f a=>rw[ho] at aC;cases aC
         |ext x =>
          cases x with
          |nextMap y=>rw[ho] at h1;cases h1
          |_=>rfl
         |_=>rfl
        rw[this,h1];exact hr
       obtain⟨k1,k2⟩:=hD.writeD kG (λb6=>CW b6 h1) hm aT;exact .inl ⟨u,M',gf _ ⟨rfl,rfl⟩,eO h3.leB k1,Qz aB r b_ (GS hB (VC h1)) (h3.put o.dst h4) (by rw[ZE];exact k2) hp (snoc h3.leB λ_ h=>Tk h) (by omega) (by omega) h2 hK⟩
     |false =>
     rw[kI] at h;simp only[zQ] at h;cases hm:((TN o.op&&Eh Rd hl (QY (C.off+o.dst.getD 0) o.op (gev [] s.env)))||Lr Rd hl (QY (C.off+o.dst.getD 0) o.op (gev [] s.env))||(Lh o.op&&Z2v Rd hl (QY (C.off+o.dst.getD 0) o.op (gev [] s.env)))) with
     |false=>rw[hm] at h;exact h.elim
     |true =>
      rw[hm] at h;simp only[zl] at h;obtain⟨u,M',pl',v,s',h1,h2,⟨h3,kG⟩,h4,hE⟩:=Q1f hG h aC;have gf:∀ R',R' u M'->vop (Q4 P) o.op env M R':=λR' hr=>by
       have:vop (Q4 P) o.op env M R'=Zo (Qa o.op (Q5 env) M) λp=>R' p.1 p.2:=by
        cases ho:o.op with
        |callF f a=>rw[ho] at aC;cases aC
        |callV f a=>rw[ho] at aC;cases aC
        |ext x =>
         cases x with
         |nextMap y=>rw[ho] at h1;cases h1
         |_=>rfl
        |_=>rfl
       rw[this,h1];exact hr
      obtain⟨k1,k2⟩:=hD.write kG (λb6=>CW b6 h1) hE hm aT;exact .inl ⟨u,M',gf _ ⟨rfl,rfl⟩,eO h3.leB k1,Qz aB r b_ (GS hB (VC h1)) (h3.put o.dst h4) (by rw[ZE];exact k2) hp (snoc h3.leB λ_ h=>RP h) (by omega) (by omega) h2 hK⟩
    .exact h.elim
  .rw[z0 al] at h;have l5:o.op.kind≠2:=by rw[<-bN];exact al
   by_cases bc:o.kind=1
   .rw[z3 bc] at h
    have rd:∀ (rq:Option Nat),(∀ q,rq=some q->Gl o.op (gev [] s.env) s.own=some q)->(Nat.ble chg o.kmin||To A o.kmin rq)=true->gd1 C o s (λs'=>XZ C r s' hl chg A ((o.kmax,rq)::Rd) K) ->
      Zo (Jy env o.guard) λb=>vif b (if o.kind=2 then (Hn (λR=>vop (Q4 P) o.op env M R) λv M'=>Xz hs.length M' pend/\ZT (Q4 P) r (XQ env o.dst v) (hs++[M']) M' pend R)\/(waits o.dst.toList r=true/\vop (Q4 P) o.op env M λv M'=>Xz hs.length M' pend/\ZT (Q4 P) r (XQ env o.dst v) (hs++[M']) M' pend R)
       else if o.kind=1 then Zo (Qa o.op (Q5 env) M) λp=>(∀ U∈hs.drop o.kmin,XE o.op (Q5 env) p.1 U) /\
        ZT (Q4 P) r (XQ env o.dst p.1) hs M (if hs.length<=o.kmax then (o.kmax,XE o.op (Q5 env) p.1)::pend else pend) R
       else Zo (Qa o.op (Q5 env) M) λp=>ZT (Q4 P) r (XQ env o.dst p.1) hs M pend R)
      (if o.kind=2 then Xz hs.length M pend/\ZT (Q4 P) r (XQ env o.dst undef) (hs++[M]) M pend R else ZT (Q4 P) r (XQ env o.dst undef) hs M pend R):=λrq ot hc h=>by
     obtain⟨b,hw,h1,h2⟩:=Uo hG h;rw[hw];have l6:DSt hs M pd hl chg A ((o.kmax,rq)::Rd) s.own pl:=⟨hD.len,hD.same,λc hc=>(hD.pend c hc).imp id λ⟨r,k1,k2⟩=>⟨r,ze _ k1,k2⟩,hD.fr⟩;refine⟨λe=>?_,λe=>?_⟩
     .obtain⟨u,s',tb',h3,h4,aN,h5⟩:=h1 e;rw[z0 al,z3 bc,h3];refine⟨λU hτ=>?_,?_⟩
      .obtain⟨j,hj⟩:=xd.1 hτ;rw[zC] at hj;rw[zx] at hc;rcases hc with hc|hc
       .have:=hD.same (o.kmin+j) U (by have:=zF hc;omega) hj;subst this;exact Jf h3
       .unfold To at hc;split at hc
        .rename_i q;obtain⟨k1,i,bl,k2,k3,k4,k5⟩:=Kq hG (ot q rfl) h3;have hu:ZF A (o.kmin+j) (q / 2)=true:=by
          simp only[ZF,z8,zx,zJ] at hc |-;exactλa ha=>(hc a ha).imp (λh=>by omega) id
         have:=hD.fr (o.kmin+j) U (q / 2) i hj hu k1 k2;exact Jf (k4 U (by rw[this];exact k3))
        .cases hc
      .by_cases hle:hs.length<=o.kmax
       .rw[z3 hle];refine Qz aB r b_ hB h5 (A:=A) (Rd:=(o.kmax,rq)::Rd) (hl:=hl) (chg:=chg) (pd:=(o.kmax,XE o.op (Q5 env) u)::pd) ?_ (λc hc=>?_) b9 dP aT h4 hK
        .rw[aN];refine⟨hD.len,hD.same,λc hc=>?_,hD.fr⟩;rcases zj.1 hc with rfl|hc
         .refine .inr ⟨_,zf,z7 _,?_⟩;cases rq with
          |none=>exactλU hτ=>Jf (RJ l5 h3 hτ)
          |some q =>obtain⟨k1,i,bl,k2,k3,k4,k5⟩:=Kq hG (ot q rfl) h3;exact⟨k1,i,bl,k2,k3,λU ht=>Jf (k4 U ht),λho=>(let ⟨es,c,wr,x1,x2⟩:=k5 ho;⟨es,c,wr,x1,λU bS c' hl ht=>Jf (x2 U bS c' hl ht)⟩)⟩
         .exact l6.pend c hc
        .rcases zj.1 hc with rfl|hc
         .exact .inr zf
         .exact(hp c hc).imp id λh=>ze _ h
       .rw[z0 hle];exact Qz aB r b_ hB h5 (A:=A) (Rd:=(o.kmax,rq)::Rd) (hl:=hl) (chg:=chg) (pd:=pd) (by rw[aN];exact l6) hp b9 dP aT h4 hK
     .obtain⟨s',tb',h4,aN,h5⟩:=h2 e;rw[z0 al];exact Qz aB r b_ hB h5 (by rw[aN];exact l6) hp b9 dP aT h4 hK
    have ro:Bj A o.kmin=true->(∀ u,Qa o.op (Q5 env) M=some (u,M)->(Jy env o.guard=some true)->∀ U,B.Le U->Qa o.op (Q5 env) U=some (u,U))->gd1 C o s (λs'=>XZ C r s' hl chg A Rd K) ->
      Zo (Jy env o.guard) λb=>vif b (if o.kind=2 then (Hn (λR=>vop (Q4 P) o.op env M R) λv M'=>Xz hs.length M' pend/\ZT (Q4 P) r (XQ env o.dst v) (hs++[M']) M' pend R)\/(waits o.dst.toList r=true/\vop (Q4 P) o.op env M λv M'=>Xz hs.length M' pend/\ZT (Q4 P) r (XQ env o.dst v) (hs++[M']) M' pend R)
       else if o.kind=1 then Zo (Qa o.op (Q5 env) M) λp=>(∀ U∈hs.drop o.kmin,XE o.op (Q5 env) p.1 U) /\
        ZT (Q4 P) r (XQ env o.dst p.1) hs M (if hs.length<=o.kmax then (o.kmax,XE o.op (Q5 env) p.1)::pend else pend) R
       else Zo (Qa o.op (Q5 env) M) λp=>ZT (Q4 P) r (XQ env o.dst p.1) hs M pend R)
      (if o.kind=2 then Xz hs.length M pend/\ZT (Q4 P) r (XQ env o.dst undef) (hs++[M]) M pend R else ZT (Q4 P) r (XQ env o.dst undef) hs M pend R):=λjM bK h=>by
     obtain⟨b,hw,h1,h2⟩:=Uo hG h;rw[hw];refine⟨λe=>?_,λe=>?_⟩
     .obtain⟨u,s',tb',h3,h4,aN,h5⟩:=h1 e;have bK:=bK u h3 (by rw[hw,e]);rw[z0 al,z3 bc,h3];refine⟨λU hτ=>?_,?_⟩
      .obtain⟨j,hj⟩:=xd.1 hτ;rw[zC] at hj;refine Jf (bK U (b9 _ U hj ?_));simp only[Bj,z8,zx,zJ] at jM |-;exactλa ha=>(jM a ha).imp (λh=>by omega) id
      refine Qz aB r b_ hB h5 (A:=A) (Rd:=Rd) (hl:=hl) (chg:=chg) (pd:=pd) (by rw[aN];exact hD) (λc hc=>?_) b9 dP aT h4 hK;split at hc
      .rcases zj.1 hc with rfl|hc
       .exact .inl λU hτ=>Jf (bK U hτ)
       .exact hp c hc
      .exact hp c hc
     .obtain⟨s',tb',h4,aN,h5⟩:=h2 e;rw[z0 al];exact Qz aB r b_ hB h5 (by rw[aN];exact hD) hp b9 dP aT h4 hK
    split at h
    .rename_i hg;cases hr:(Z2x o.op (gev [] s.env)&&Bj A o.kmin) with
     |true =>rw[hr] at h;rw[z4] at hr;exact ro hr.2 (λu hu _=>Gy hG Gds.nil hr.1 hu) h
     |false =>
     rw[hr] at h;simp only[zQ] at h;cases hb:(Nat.ble chg o.kmin||To A o.kmin (Gl o.op (gev [] s.env) s.own)) with
     |false=>rw[hb] at h;exact h.elim
     |true =>rw[hb] at h;exact rd _ (λq hq=>hq) hb h
    .rename_i j want hg;cases hr:(Q1z s j want o.op&&Bj A o.kmin) with
     |true =>
      rw[hr] at h;rw[z4] at hr;obtain⟨hr,jM⟩:=hr;refine ro jM (λu hu hw=>?_) h;unfold Q1z at hr;split at hr
      .rename_i gs s1 dX;obtain⟨tb',bp,cS,b,dk,bk,bt⟩:=Wo hG dX;rw[hg,dk] at hw;have e:=osj hw;exact Gy bp (λg hg=>⟨bk e g hg,cS g hg⟩) hr hu
      .cases hr
     |false =>
     rw[hr] at h;simp only[zQ] at h;cases hb:Nat.ble chg o.kmin with
     |false=>rw[hb] at h;exact h.elim
     |true =>rw[hb] at h;exact rd none (λq hq=>by cases hq) (by rw[hb];rfl) h
   .rw[z0 bc] at h;obtain⟨b,hw,h1,h2⟩:=Uo hG h;rw[hw];refine⟨λe=>?_,λe=>?_⟩
    .obtain⟨u,s',tb',h3,h4,aN,h5⟩:=h1 e;rw[z0 al,z0 bc,h3];exact Qz aB r b_ hB h5 (by rw[aN];exact hD) hp b9 dP aT h4 hK
    .obtain⟨s',tb',h4,aN,h5⟩:=h2 e;rw[z0 al];exact Qz aB r b_ hB h5 (by rw[aN];exact hD) hp b9 dP aT h4 hK
def Mk (pl:Nat->Value) (mp:List (Nat×Option Nat)):Nat->Value:=λt=>match QA mp t with
 |some (some a)=>pl a
 |_=>.slice none 0 0
theorem EW {h:Heap}{k k':Kind}{x:k.T}{y:k'.T}(e:GR x y) {cs:List Value}(hk:KC h k' y cs):KC h k x cs:=by
 unfold GR at e;split at e
 .rename_i z hz;obtain rfl:=L1 hz;obtain rfl:=Lj hz;subst e;exact hk
 .exact e.elim
mutual
theorem KN {B:Heap}{pl:Nat->Value}{tb:Nat->Option Bool}{mp:List (Nat×Option Nat)}:∀ (p a:SV) (v:Value),PS mp p a->SR P B pl tb a v->SR P B (Mk pl mp) J9 p v
 |.any,a,v,_,_=>trivial
 |.val k x,a,v,h,hs=>by
  simp only[PS] at h;split at h
  .simp only[SR] at hs |-;exact EW h hs
  .simp only[SR] at hs |-;exact EW h (by simp[KC,hs.1])
  .split at h
   .subst h;simp only[SR] at hs |-;subst hs;exact⟨_,rfl,.inl ⟨rfl,rfl⟩⟩
   .exact h.elim
  .exact h.elim
 |.lst t,a,v,h,hs=>by
  simp only[PS] at h;split at h
  .split at h
   .rename_i e;simp only[SR,Mk,e] at hs |-;exact hs
   .exact h.elim
  .split at h
   .rename_i e;simp only[SR,Mk,e] at hs |-;exact⟨hs,_,_,_,hs⟩
   .exact h.elim
  .exact h.elim
 |.box t off,a,v,h,hs=>by
  simp only[PS] at h;split at h
  .split at h
   .rename_i e;obtain⟨e,rfl⟩:=e;simp only[SR,Mk,e] at hs |-;exact hs
   .exact h.elim
  .exact h.elim
 |.map t,a,v,h,hs=>by
  simp only[PS] at h;split at h
  .split at h
   .rename_i e;simp only[SR,Mk,e] at hs |-;exact hs
   .exact h.elim
  .exact h.elim
 |.dd t w,a,v,h,hs=>by
  simp only[PS] at h;split at h
  .split at h
   .simp only[SR] at hs |-;simp only[DR];exact .inl ⟨h,hs⟩
   .split at h
    .rename_i e;obtain⟨e,rfl⟩:=e;simp only[SR,DR,Mk,e] at hs |-;obtain⟨b,h1,h2⟩:=hs;exact .inr ⟨h,b,by rw[h1];rfl,h2⟩
    .exact h.elim
   .split at h
    .split at h
     .rename_i e;subst h;simp only[SR,DR,Mk,e] at hs |-;exact hs
     .exact h.elim
    .exact h.elim
   .exact h.elim
  .split at h
   .split at h
    .split at h
     .rename_i e;simp only[SR,Mk,e] at hs |-;exact hs
     .exact h.elim
    .exact h.elim
   .exact h.elim
  .split at h
   .split at h
    .split at h
     .rename_i e;simp only[SR,Mk,e] at hs |-;exact hs
     .exact h.elim
    .exact h.elim
   .split at h
    .rename_i e;simp only[SR,Mk,e] at hs |-;exact⟨hs,_,_,_,hs⟩
    .exact h.elim
   .exact h.elim
  .exact h.elim
 |.agg l,a,v,h,hs=>by
  simp only[PS] at h;split at h
  .rename_i l';simp only[SR] at hs |-;obtain⟨cs,h1,h2⟩:=hs;exact⟨cs,h1,Zp l l' cs h h2⟩
  .exact h.elim
 |.tup l,a,v,h,hs=>by
  simp only[PS] at h;split at h
  .rename_i l';simp only[SR] at hs |-;obtain⟨cs,h1,h2⟩:=hs;exact⟨cs,h1,Zp l l' cs h h2⟩
  .exact h.elim
 |.fn f x y,a,v,h,hs=>by
  simp only[PS] at h;split at h
  .split at h
   .rename_i e;subst e;simp only[SR] at hs |-;obtain⟨cs,ds,h1,h2,h3⟩:=hs;exact⟨cs,ds,h1,Zp x _ cs h.1 h2,Zp y _ ds h.2 h3⟩
   .exact h.elim
  .exact h.elim
 |.nilS,a,v,h,hs=>by
  simp only[PS] at h;split at h
  .simp only[SR] at hs |-;exact hs
  .exact h.elim
 |.nilP,a,v,h,hs=>by
  simp only[PS] at h;split at h
  .simp only[SR] at hs |-;exact hs
  .exact h.elim
 |.nilM,a,v,h,hs=>by
  simp only[PS] at h;split at h
  .simp only[SR] at hs |-;exact hs
  .exact h.elim
 |.nilF,a,v,h,hs=>by
  simp only[PS] at h;split at h
  .simp only[SR] at hs |-;exact hs
  .exact h.elim
 |.cp l off,a,v,h,hs=>by
  simp only[PS] at h;cases qP:SVs.pure l with
  |true =>rw[qP] at h;simp only[zl] at h;obtain⟨rfl,_⟩:=h;simp only[SR] at hs |-;obtain⟨b,c,e,wr,t,h1,h2,h3⟩:=hs;exact⟨b,c,e,wr,t,h1,h2,Zq l c qP h3⟩
  |false =>
   rw[qP] at h;simp only[zQ] at h;split at h
   .split at h
    .rename_i l' dE he;subst he;simp only[SR] at hs |-;obtain⟨b,c,e,wr,t,h1,h2,h3⟩:=hs;exact⟨b,c,e,wr,t,h1,h2,Zp l l' c h h3⟩
    .exact h.elim
   .exact h.elim
 |.pf ks r cR p,a,v,h,hs=>by simp only[PS] at h;subst h;simp only[SR] at hs |-;exact hs
 |.sub t lo n sz,a,v,h,hs=>by
  simp only[PS] at h;split at h
  .split at h
   .rename_i e;obtain⟨rfl,rfl,rfl⟩:=h;simp only[SR,Mk,e] at hs |-;exact hs
   .exact h.elim
  .exact h.elim
 |.elp _ _ _ _,_,_,h,_|.grd _ _,_,_,h,_|.bid _ _,_,_,h,_|.rop _ _ _ _,_,_,h,_=>by simp only[PS] at h
theorem Zp {B:Heap}{pl:Nat->Value}{tb:Nat->Option Bool}{mp:List (Nat×Option Nat)}:∀ (p a:List SV) (v:List Value),UH mp p a->SRs P B pl tb a v->SRs P B (Mk pl mp) J9 p v
 |[],a,v,h,hs=>by simp only[UH] at h;subst h;exact hs
 |s::ss,[],v,h,hs=>by simp only[UH] at h
 |s::ss,a::bM,v,h,hs=>by simp only[UH] at h;simp only[SRs] at hs |-;obtain⟨x,y,h1,h2,h3⟩:=hs;exact⟨x,y,h1,KN s a x h.1 h2,Zp ss bM y h.2 h3⟩
theorem L2 {B:Heap}{pl pl':Nat->Value}{tb tb':Nat->Option Bool}:∀ (s:SV) (v:Value),s.pure=true->SR P B pl tb s v->SR P B pl' tb' s v
 |.any,v,_,_=>trivial
 |.val k x,v,_,h=>by simp only[SR] at h |-;exact h
 |.nilS,v,_,h|.nilP,v,_,h|.nilM,v,_,h|.nilF,v,_,h=>by simp only[SR] at h |-;exact h
 |.rop k l i off,v,_,h=>by simp only[SR] at h |-;exact h
 |.pf ks r cR p,v,_,h=>by simp only[SR] at h |-;exact h
 |.agg l,v,hp,h=>by simp only[SR] at h |-;obtain⟨cs,h1,h2⟩:=h;exact⟨cs,h1,Zq l cs hp h2⟩
 |.tup l,v,hp,h=>by simp only[SR] at h |-;obtain⟨cs,h1,h2⟩:=h;exact⟨cs,h1,Zq l cs hp h2⟩
 |.cp l off,v,hp,h=>by simp only[SR] at h |-;obtain⟨b,c,e,wr,t,h1,h2,h3⟩:=h;exact⟨b,c,e,wr,t,h1,h2,Zq l c hp h3⟩
 |.fn f a b,v,hp,h=>by simp only[SV.pure,z4] at hp;simp only[SR] at h |-;obtain⟨x,y,h1,h2,h3⟩:=h;exact⟨x,y,h1,Zq a x hp.1 h2,Zq b y hp.2 h3⟩
 |.lst _,_,h,_|.sub _ _ _ _,_,h,_|.elp _ _ _ _,_,h,_|.box _ _,_,h,_|.map _,_,h,_|.grd _ _,_,h,_|.bid _ _,_,h,_=>by cases h
theorem Zq {B:Heap}{pl pl':Nat->Value}{tb tb':Nat->Option Bool}:∀ (s:List SV) (v:List Value),SVs.pure s=true->SRs P B pl tb s v->SRs P B pl' tb' s v
 |[],v,_,h=>by simp only[SRs] at h |-;exact h
 |s::ss,v,hp,h=>by simp only[SVs.pure,z4] at hp;simp only[SRs] at h |-;obtain⟨x,y,h1,h2,h3⟩:=h;exact⟨x,y,h1,L2 s x hp.1 h2,Zq ss y hp.2 h3⟩
end
end
end Go.V
namespace Go.V
open Go
section
variable {P:Program}{B F:Heap}{pl:Nat->Value}{tb:Nat->Option Bool}{s:St}{env:Env}{M:Heap}
theorem Ns {k k':Kind}{xs:List k.T}{ys:List k'.T}(h:GR (k:=.list k) xs (k':=.list k') ys):∃ e:k'=k,e▸ys=xs:=by
 unfold GR at h;split at h
 .rename_i z hz;have e:=L1 hz;obtain rfl:=Kind.list.inj e;obtain rfl:=Lj hz;exact⟨rfl,h⟩
 .exact h.elim
theorem Zl (hG:Gam P B F pl tb s env M) {mp:List (Nat×Option Nat)}{t:Nat}{b:OB}(h:Q4p s mp t b) :
  OR P B (Mk pl mp) J9 M (Mk pl mp t) b/\(b.live=true->∀ i,Oid (Mk pl mp t) i->∃ a,QA mp t=some (some a)/\(Qe s.own a).live=true/\Oid (pl a) i):=by
 unfold Q4p at h;split at h
 .rename_i a ha;have aU:Mk pl mp t=pl a:=by simp[Mk,ha]
  rw[aU];have ao:=hG.obj a;split at h
  .exact⟨trivial,λh=>by cases h⟩
  .rename_i ty k xs nl jc k' cG jJ ho;split at h
   .rename_i e;subst e;obtain⟨h1,rfl⟩:=h;obtain⟨rfl,rfl⟩:=Ns h1;rw[ho] at ao;exact⟨ao,λ_ i hi=>⟨a,ha,by rw[ho];rfl,hi⟩⟩
   .exact h.elim
  .rename_i l u l' u' ho;split at h
   .rename_i e0;subst e0;rw[ho] at ao;obtain⟨i,c,e,t',h1,h2,h3,h4⟩:=ao;exact⟨⟨i,c,e,t',h1,h2,Zp l l' c h h3,h4⟩,λ_ i hi=>⟨a,ha,by rw[ho];rfl,hi⟩⟩
   .exact h.elim
  .rename_i kk vk m jK lR m' ho;split at h
   .obtain⟨e,h1⟩:=Ns h;obtain⟨rfl,rfl⟩:=Kind.pair.inj e;subst h1;rw[ho] at ao;exact⟨ao,λ_ i hi=>⟨a,ha,by rw[ho];rfl,hi⟩⟩
   .exact h.elim
  .rename_i l vals l' kD ho;rw[ho] at ao;obtain⟨rfl,h⟩:=h;exact⟨Zp l l' vals h ao,λh=>by cases h⟩
  .rename_i l q u l' q' u' ho;rw[ho] at ao;split at h
   .obtain⟨rfl,h⟩:=h;exact⟨⟨ao.1,Zp l l' q.vals h ao.2.1,ao.2.2⟩,λ_ i hi=>⟨a,ha,by rw[ho];rfl,hi⟩⟩
   .obtain⟨rfl,h⟩:=h;exact⟨⟨ao.1,Zp l l' q.vals h ao.2.1,ao.2.2⟩,λh=>by cases h⟩
   .exact h.elim
  .rename_i kk vk m dn jK lR m' rV ho;split at h
   .obtain⟨h,rfl⟩:=h;obtain⟨e,h1⟩:=Ns h;obtain⟨rfl,rfl⟩:=Kind.pair.inj e;subst h1;rw[ho] at ao;exact⟨ao,λ_ i hi=>⟨a,ha,by rw[ho];rfl,hi⟩⟩
   .exact h.elim
  .rename_i ty q k xs nl h0 jc q' k' cG jJ rH ho;split at h
   .rename_i e;obtain⟨rfl,rfl⟩:=e;split at h
    .obtain⟨h1,rfl⟩:=h;obtain⟨rfl,rfl⟩:=Ns h1;rw[ho] at ao;exact⟨ao,λ_ i hi=>⟨a,ha,by rw[ho];rfl,hi⟩⟩
    .exact h.elim
   .exact h.elim
  .exact h.elim
 .rename_i ha;have aU:Mk pl mp t=.slice none 0 0:=by simp[Mk,ha]
  rw[aU];split at h
  .exact⟨.inl ⟨h.2,h.1,rfl⟩,λ_ i hi=>by cases hi⟩
  .split at h
   .obtain⟨rfl,rfl⟩:=h;refine⟨⟨[],λi=>⟨λh=>(by cases h),λ⟨b,h⟩=>(by cases h)⟩,List.nodup_nil,.inl ⟨rfl,rfl,rfl⟩,λi=>⟨λ⟨b,h⟩=>(by cases h),λh=>(by cases h)⟩,(λi b h=>by cases h),by simp[phd]⟩,λ_ i hi=>by cases hi⟩
   .exact h.elim
  .exact h.elim
 .exact h.elim
theorem VQ {α:Type _}(l:List (Nat×α)) (t:Nat) (x:α) (d:Nat):QA (l++[(t,x)]) d=match QA l d with|some y=>some y|none=>if t=d then some x else none:=by
 induction l with
 |nil =>
  simp only[xt,QA];by_cases h:t=d
  .subst h;simp
  .rw[ZP h];simp[h]
 |cons p l ih =>obtain⟨k,y⟩:=p;simp only[zV,QA,ih];cases Nat.beq k d<;>rfl
theorem E2 {α:Type _}{l:List (Nat×α)}{d:Nat}{x:α}(h:QA l d=some x):∃ p∈l,p.1=d/\p.2=x:=by
 induction l with
 |nil=>cases h
 |cons p l ih =>
  obtain⟨k,y⟩:=p;simp only[QA] at h;cases hb:Nat.beq k d with
  |true=>rw[hb] at h;obtain rfl:=osj h;exact⟨_,zf,zI hb,rfl⟩
  |false =>rw[hb] at h;obtain⟨p,h1,h2⟩:=ih h;exact⟨p,ze _ h1,h2⟩
def Inj (mp:List (Nat×Option Nat)):Prop:=∀ t t' a,QA mp t=some (some a)->QA mp t'=some (some a)->t=t'
theorem Tg:∀ (l:List (Nat×Src)) (mp b8:List (Nat×Option Nat)),Z3a s l mp=some b8->Inj mp->Inj b8
 |[],mp,b8,h,hi=>by obtain rfl:=osj h;exact hi
 |(t,src)::r,mp,b8,h,hi=>by
  simp only[Z3a] at h;split at h
  .rename_i a _;split at h
   .cases h
   .rename_i hc;refine Tg r _ _ h ?_;have cP:∀ d,QA mp d≠some (some a):=λd hd=>by
     obtain⟨p,h1,h2,h3⟩:=E2 hd;apply hc;simp only[zx];exact .inl (xF.2 ⟨p,h1,by rw[h3];simp⟩)
    intro t1 t2 a' h1 h2;rw[VQ] at h1 h2;split at h1
    .rename_i y1 e1;split at h2
     .rename_i y2 e2;obtain rfl:=osj h1;obtain rfl:=osj h2;exact hi t1 t2 a' e1 e2
     .split at h2
      .obtain rfl:=osj (osj h2);obtain rfl:=osj h1;exact absurd e1 (cP t1)
      .cases h2
    .split at h1
     .rename_i e1;obtain rfl:=osj (osj h1);split at h2
      .rename_i y2 e2;obtain rfl:=osj h2;exact absurd e2 (cP t2)
      .split at h2
       .rename_i e2;omega
       .cases h2
     .cases h1
  .split at h
   .cases h
   .refine Tg r _ _ h ?_;intro t1 t2 a' h1 h2;rw[VQ] at h1 h2;split at h1
    .rename_i y1 e1;split at h2
     .rename_i y2 e2;obtain rfl:=osj h1;obtain rfl:=osj h2;exact hi t1 t2 a' e1 e2
     .split at h2<;>cases h2
    .split at h1<;>cases h1
  .cases h
theorem CB {mp:List (Nat×Option Nat)}:∀ {ow:List (Nat×Src×OB)},gmatch.obs s mp ow->∀ p∈ow,Q4p s mp p.1 p.2.2
 |[],_,p,hp=>by cases hp
 |(t,src,b)::r,h,p,hp=>by
  simp only[gmatch.obs] at h;rcases zj.1 hp with rfl|hp
  .exact h.1
  .exact CB h.2 p hp
theorem UB {f:List (Nat×Src×OB)}:∀ (own:Own) (t:Nat),(∃ p∈f,p.1=t/\Qe (f.foldl (λo p=>oset o p.1 p.2.2) own) t=p.2.2)\/Qe (f.foldl (λo p=>oset o p.1 p.2.2) own) t=Qe own t:=by
 induction f with
 |nil=>intro own t;exact .inr rfl
 |cons p f ih =>
  intro own t;simp only[wc];rcases ih (oset own p.1 p.2.2) t with⟨q,h1,h2⟩|h
  .exact .inl ⟨q,ze _ h1,h2⟩
  .rw[h,Qr];by_cases e:t=p.1
   .rw[z3 e];exact .inl ⟨p,zf,e.symm,rfl⟩
   .rw[z0 e];exact .inr rfl
theorem TZ (hG:Gam P B F pl tb s env M) {mp:List (Nat×Option Nat)}:∀ (st:List (Nat×SV)) {e:List SV}{eV:Env},gmatch.slots s mp st->SRs P B (Mk pl mp) J9 e eV->SRs P B (Mk pl mp) J9 (st.foldl (λe p=>e.set p.1 p.2) e) (Wk (st.map (·.1)) (PH (st.map (·.1)) env) eV)
 |[],e,eV,_,h=>h
 |(j,v)::r,e,eV,hs,h=>by simp only[gmatch.slots] at hs;simp only[wc,zE,PH,Wk];exact TZ hG r hs.2 (h.set j (KN v _ _ hs.1 (hG.env.getD j poison)))
theorem Q3d {B:Heap}{pl:Nat->Value}{tb:Nat->Option Bool}:∀ n,SRs P B pl tb (List.replicate n .any) (List.replicate n poison)
 |0=>by simp[SRs]
 |n+1=>by simp only[xD,SRs];exact⟨_,_,rfl,by simp[SR],Q3d n⟩
theorem Pt {B0 F0 D0:Heap}(hR:GRel P B0 F0 D0 s env M) {st:List (Nat×SV)}{ow:List (Nat×Src×OB)}(h:gmatch s st ow) (len:Nat):GRel P B0 F0 D0 (ZD len st ow) (Wk (st.map (·.1)) (PH (st.map (·.1)) env) (List.replicate len poison)) M:=by
 obtain⟨B,F,pl,tb,hB,hG⟩:=hR;unfold gmatch at h;split at h
 .rename_i mp l7;obtain⟨h1,h2⟩:=h;have eW:=Tg _ _ _ l7 (λt t' a h=>by cases h);have aI:=CB h2;have ao:∀ t,(Qe (ZD len st ow).own t).live=true->Q4p s mp t (Qe (ZD len st ow).own t):=λt hl=>by
   rcases UB (f:=ow) [] t with⟨p,h3,h4,h5⟩|h3
   .have:=aI p h3;rw[h4,<-h5] at this;exact this
   .simp only[ZD] at hl;rw[h3] at hl;cases hl
  refine⟨B,F,Mk pl mp,J9,hB,hG.bf,hG.le,TZ hG st h1 (Q3d len),λt=>?_,λt i hl hi=>?_,λt t' i aw hl cu hi cD=>?_,λ_ _=>rfl⟩
  .cases hl:(Qe (ZD len st ow).own t).live with
   |true=>exact(Zl hG (ao t hl)).1
   |false =>
    cases ho:Qe (ZD len st ow).own t with
    |dead=>trivial
    |stk l vals =>
     rcases UB (f:=ow) [] t with⟨p,h3,h4,h5⟩|h3
     .have:=aI p h3;simp only[ZD] at ho;rw[<-h5,ho] at this;have h6:=(Zl hG this).1;rw[h4] at h6;exact h6
     .simp only[ZD] at ho;rw[h3] at ho;cases ho
    |lpf l q u =>
     rcases UB (f:=ow) [] t with⟨p,h3,h4,h5⟩|h3
     .have:=aI p h3;simp only[ZD] at ho;rw[<-h5,ho] at this;have h6:=(Zl hG this).1;rw[h4] at h6;exact h6
     .simp only[ZD] at ho;rw[h3] at ho;cases ho
    |_=>rw[ho] at hl;cases hl
  .obtain⟨a,_,h4,h5⟩:=(Zl hG (ao t hl)).2 hl i hi;exact hG.fresh a i h4 h5
  .obtain⟨a,e1,h4,h5⟩:=(Zl hG (ao t hl)).2 hl i hi;obtain⟨a',e2,gN,qQ⟩:=(Zl hG (ao t' cu)).2 cu i cD;by_cases e:a=a'
   .subst e;exact aw (eW t t' a e1 e2)
   .exact hG.sep a a' i e h4 gN h5 qQ
 .exact h.elim
theorem HZ:∀ {dD cJ:List SV}{vs:List Value}{B F:Heap}{s s':St},Gam P B F pl tb s env M->SRs P B pl tb dD vs->Z25 s dD=some (s',cJ) ->
  ∃ B' F',GBase B F M B' F' M/\Gam P B' F' pl tb s' env M/\SRs P B' Xd J9 cJ vs/\s'.env=s.env
 |[],cJ,vs,B,F,s,s',hG,hs,h=>by simp only[Z25,x9,Prod.mk.injEq] at h;obtain⟨rfl,rfl⟩:=h;exact⟨B,F,.of hG.bf (.refl _),hG,hs,rfl⟩
 |v::dD,cJ,vs,B,F,s,s',hG,hs,h=>by
  simp only[SRs] at hs;obtain⟨u,us,rfl,h1,h2⟩:=hs
  have ov:∀ w:SV,SR P B pl tb w u->(bif w.pure then (match Z25 s dD with|some (s',r)=>some (s',w::r)|none=>none) else none)=some (s',cJ) ->
    ∃ B' F',GBase B F M B' F' M/\Gam P B' F' pl tb s' env M/\SRs P B' Xd J9 cJ (u::us)/\s'.env=s.env:=λw hw h=>by
   cases hp:w.pure with
   |false=>rw[hp] at h;cases h
   |true =>
    rw[hp] at h;simp only[zl] at h;split at h
    .rename_i s1 r heq;simp only[x9,Prod.mk.injEq] at h;obtain⟨rfl,rfl⟩:=h;obtain⟨B',F',k1,k2,k3,k4⟩:=HZ hG h2 heq;exact⟨B',F',k1,k2,by simp only[SRs];exact⟨u,us,rfl,SR.mono k1.b (λ_ _ h=>h) _ _ (L2 w u hp hw),k3⟩,k4⟩
    .cases h
  simp only[Z25] at h;split at h
  .rename_i o;split at h
   .rename_i l _ ho;cases hp:SVs.pure l with
    |false=>rw[hp] at h;cases h
    |true =>
     rw[hp] at h;simp only[zl] at h;split at h
     .rename_i s1 r heq;simp only[x9,Prod.mk.injEq] at h;obtain⟨rfl,rfl⟩:=h;have ao:=hG.obj o;rw[ho] at ao;obtain⟨i,c,e,t,e1,e2,e3,_⟩:=ao;obtain⟨k1,k2⟩:=hG.freeze (o:=o) (i:=i) (by rw[ho];rfl) (by rw[e1];rfl);obtain⟨B',F',j1,j2,j3,j4⟩:=HZ k2 (SRs.mono k1.b (λ_ _ h=>h) _ _ h2) heq;refine⟨B',F',k1.trans j1,j2,?_,j4⟩;simp only[SRs];refine⟨u,us,rfl,?_,j3⟩;simp only[SR] at h1 |-;obtain⟨b,q1,q2⟩:=h1;rw[e1] at q1;obtain rfl:i=b:=by simpa using q1
      refine⟨i,c,e,true,t,j1.b.2 _ _ ?_,q2,SRs.mono (k1.trans j1).b (λ_ _ h=>h) _ _ (Zq l c hp e3)⟩;rw[Heap.q0m];exact e2
     .cases h
   .cases h
  .exact ov _ h1 h
theorem Gam.lpUpd (hG:Gam P B F pl tb s env M) {n:Nat}{b b0:Blk}(hF:F.get n=some b0) (hB:B.get n=none):Gam P B (F.upd n b) pl tb s env (M.upd n b):=by
 have aw:∀ {d i},(Qe s.own d).live=true->Oid (pl d) i->i≠n:=λh1 h2 e=>by have:=hG.fresh _ _ h1 h2;subst e;rw[hF] at this;cases this
 refine⟨⟨hG.bf.1,λi c hc=>?_⟩,⟨hG.le.1,λi c hc=>?_⟩,hG.env,λd=>(hG.obj d).mono (.refl _) (λ_ _ h=>h) λh1 i h2=>Heap.q0b _ _ (aw h1 h2),λd i h1 h2=>?_,hG.sep,hG.free⟩
 .have:i≠n:=by rintro rfl;rw[hB] at hc;cases hc
  rw[Heap.q0b _ _ this];exact hG.bf.2 _ _ hc
 .by_cases e:i=n
  .subst e;rw[Heap.q0d _ _ (F.lt hF)] at hc;rw[Heap.q0d _ _ (x7 (F.lt hF) hG.le.1)];exact hc
  .rw[Heap.q0b _ _ e] at hc |-;exact hG.le.2 _ _ hc
 .rw[Heap.q0b _ _ (aw h1 h2)];exact hG.fresh _ _ h1 h2
theorem Gam.lpKill (hG:Gam P B F pl tb s env M) {n:Nat}{b0:Blk}(hF:F.get n=some b0) (hB:B.get n=none):Gam P B (F.kill n) pl tb s env (M.kill n):=by
 have aw:∀ {d i},(Qe s.own d).live=true->Oid (pl d) i->i≠n:=λh1 h2 e=>by have:=hG.fresh _ _ h1 h2;subst e;rw[hF] at this;cases this
 refine⟨⟨hG.bf.1,λi c hc=>?_⟩,⟨hG.le.1,λi c hc=>?_⟩,hG.env,λd=>(hG.obj d).mono (.refl _) (λ_ _ h=>h) λh1 i h2=>Heap.q0c _ (aw h1 h2),λd i h1 h2=>?_,hG.sep,hG.free⟩
 .have:i≠n:=by rintro rfl;rw[hB] at hc;cases hc
  rw[Heap.q0c _ this];exact hG.bf.2 _ _ hc
 .by_cases e:i=n
  .subst e;rw[Heap.q0f] at hc;cases hc
  .rw[Heap.q0c _ e] at hc |-;exact hG.le.2 _ _ hc
 .rw[Heap.q0c _ (aw h1 h2)];exact hG.fresh _ _ h1 h2
theorem GRel.lpUpd {B1 F1 D0:Heap}(h:GRel P B1 F1 D0 s env M) {n:Nat}{b b0:Blk}(hF:F1.get n=some b0) (hB:B1.get n=none):GRel P B1 (F1.upd n b) D0 s env (M.upd n b):=by
 obtain⟨B,F,pl,tb,dI,hG⟩:=h;have ox:=dI.f.2 _ _ hF;have oy:=dI.x _ _ hF hB;refine⟨B,F.upd n b,pl,tb,⟨dI.b,⟨dI.f.1,λi c hc=>?_⟩,λi c h1 h2=>?_,⟨dI.d.1,λi h1 h2=>?_⟩⟩,hG.lpUpd ox oy⟩
 .by_cases e:i=n
  .subst e;rw[Heap.q0d _ _ (F1.lt hF)] at hc;rw[Heap.q0d _ _ (F.lt ox)];exact hc
  .rw[Heap.q0b _ _ e] at hc |-;exact dI.f.2 _ _ hc
 .by_cases e:i=n
  .subst e;exact oy
  .rw[Heap.q0b _ _ e] at h1;exact dI.x _ _ h1 h2
 .have hd:=dI.d.2 i h1 h2;have:i≠n:=by rintro rfl;rw[hG.le.2 _ _ ox] at hd;cases hd
  rw[Heap.q0b _ _ this];exact hd
theorem GRel.lpKill {B1 F1 D0:Heap}(h:GRel P B1 F1 D0 s env M) {n:Nat}{b0:Blk}(hF:F1.get n=some b0) (hB:B1.get n=none):GRel P B1 (F1.kill n) D0 s env (M.kill n):=by
 obtain⟨B,F,pl,tb,dI,hG⟩:=h;have ox:=dI.f.2 _ _ hF;have oy:=dI.x _ _ hF hB;refine⟨B,F.kill n,pl,tb,⟨dI.b,⟨dI.f.1,λi c hc=>?_⟩,λi c h1 h2=>?_,⟨dI.d.1,λi h1 h2=>?_⟩⟩,hG.lpKill ox oy⟩
 .by_cases e:i=n
  .subst e;rw[Heap.q0f] at hc;cases hc
  .rw[Heap.q0c _ e] at hc |-;exact dI.f.2 _ _ hc
 .by_cases e:i=n
  .subst e;exact oy
  .rw[Heap.q0c _ e] at h1;exact dI.x _ _ h1 h2
 .have hd:=dI.d.2 i h1 h2;by_cases e:i=n
  .subst e;exact Heap.q0f _ _
  .rw[Heap.q0c _ e];exact hd
theorem GRel.base {B0 F0 B1 F1 D0:Heap}(h:GRel P B1 F1 D0 s env M) (hb:B0.Le B1) (hf:F0.Le F1) (hx:∀ i b,F0.get i=some b->B0.get i=none->B1.get i=none):GRel P B0 F0 D0 s env M:=by obtain⟨B,F,pl,tb,dI,hG⟩:=h;exact⟨B,F,pl,tb,⟨hb.trans dI.b,hf.trans dI.f,λi b h1 h2=>dI.x i b (hf.2 _ _ h1) (hx i b h1 h2),dI.d⟩,hG⟩
theorem Pb (hG:Gam P B F pl tb s env M) {mp:List (Nat×Option Nat)}:∀ (st:List (Nat×SV)) {e:List SV},gmatch.slots s mp st->SRs P B (Mk pl mp) J9 e env->SRs P B (Mk pl mp) J9 (st.foldl (λe p=>e.set p.1 p.2) e) env
 |[],e,_,h=>h
 |(j,v)::r,e,hs,h=>by
  simp only[gmatch.slots] at hs;simp only[wc];refine Pb hG r hs.2 ?_;have:=h.set j (KN v _ _ hs.1 (hG.env.getD j poison));by_cases hj:j<env.length
  .rwa [z6,z5 hj,Option.getD_some,List.set_getElem_self] at this
  .rw[List.set_eq_of_length_le (by rw[h.length];omega)];exact h
theorem Oi {B:Heap}{pl:Nat->Value}{tb:Nat->Option Bool}:∀ (env:Env),SRs P B pl tb (List.replicate (List.length env) .any) env
 |[]=>by simp[SRs]
 |v::env=>by simp only[zT,xD,SRs];exact⟨_,_,rfl,by simp[SR],Oi env⟩
theorem Nv {B0 F0 D0:Heap}(hR:GRel P B0 F0 D0 s env M) {st:List (Nat×SV)}{ow:List (Nat×Src×OB)}(h:gmatch s st ow):GRel P B0 F0 D0 (ZD (List.length env) st ow) env M:=by
 obtain⟨B,F,pl,tb,hB,hG⟩:=hR;unfold gmatch at h;split at h
 .rename_i mp l7;obtain⟨h1,h2⟩:=h;have eW:=Tg _ _ _ l7 (λt t' a h=>by cases h);have aI:=CB h2;have ao:∀ t,(Qe (ZD (List.length env) st ow).own t).live=true->Q4p s mp t (Qe (ZD (List.length env) st ow).own t):=λt hl=>by
   rcases UB (f:=ow) [] t with⟨p,h3,h4,h5⟩|h3
   .have:=aI p h3;rw[h4,<-h5] at this;exact this
   .simp only[ZD] at hl;rw[h3] at hl;cases hl
  refine⟨B,F,Mk pl mp,J9,hB,hG.bf,hG.le,Pb hG st h1 (Oi env),λt=>?_,λt i hl hi=>?_,λt t' i aw hl cu hi cD=>?_,λ_ _=>rfl⟩
  .cases hl:(Qe (ZD (List.length env) st ow).own t).live with
   |true=>exact(Zl hG (ao t hl)).1
   |false =>
    cases ho:Qe (ZD (List.length env) st ow).own t with
    |dead=>trivial
    |stk l vals =>
     rcases UB (f:=ow) [] t with⟨p,h3,h4,h5⟩|h3
     .have:=aI p h3;simp only[ZD] at ho;rw[<-h5,ho] at this;have h6:=(Zl hG this).1;rw[h4] at h6;exact h6
     .simp only[ZD] at ho;rw[h3] at ho;cases ho
    |lpf l q u =>
     rcases UB (f:=ow) [] t with⟨p,h3,h4,h5⟩|h3
     .have:=aI p h3;simp only[ZD] at ho;rw[<-h5,ho] at this;have h6:=(Zl hG this).1;rw[h4] at h6;exact h6
     .simp only[ZD] at ho;rw[h3] at ho;cases ho
    |_=>rw[ho] at hl;cases hl
  .obtain⟨a,_,h4,h5⟩:=(Zl hG (ao t hl)).2 hl i hi;exact hG.fresh a i h4 h5
  .obtain⟨a,e1,h4,h5⟩:=(Zl hG (ao t hl)).2 hl i hi;obtain⟨a',e2,gN,qQ⟩:=(Zl hG (ao t' cu)).2 cu i cD;by_cases e:a=a'
   .subst e;exact aw (eW t t' a e1 e2)
   .exact hG.sep a a' i e h4 gN h5 qQ
 .exact h.elim
theorem Cy {α:Type}{o:Option α}{f:α->Prop}(h:Zo o f):∃ a,f a:=by
 cases o with
 |none=>exact h.elim
 |some a=>exact⟨a,h⟩
theorem COk.nx {C:Cx}(h:COk P C):COk P C.nx:=⟨h.cs,λf x hx=>(by cases hx),h.it,h.yl,h.iy,λf j _ x hx=>(by cases hx)⟩
theorem YC {S:VSpecs}{Q:Prop}:∀ {ops:List DOper}{env:Env}{hs:List Heap}{M:Heap}{pend:List (Nat×(Heap->Prop))},JB S ops env hs M pend (λ_ _=>Q)->Q
 |[],_,_,_,_,h=>h
 |o::r,env,hs,M,pend,h=>by
  simp only[JB] at h;obtain⟨b,h⟩:=Cy h;cases b with
  |true =>
   have h:=h.1 rfl;split at h
   .obtain⟨v,M',_,_,h⟩:=h;exact YC h
   .split at h
    .obtain⟨p,_,h⟩:=Cy h;exact YC h
    .obtain⟨p,h⟩:=Cy h;exact YC h
  |false =>
   have h:=h.2 rfl;split at h
   .exact YC h.2
   .exact YC h
theorem Ro {C:Cx}{s:St}{st:List (Nat×SV)}{ow:List (Nat×Src×OB)}{Q:Prop}:∀ (ls:List (List DOper)),Z01 C ls s st ow Q->(∀ l∈ls,XZ C.nx l s 1 0 [] [] λs'=>HR s.env.length s' st ow)/\Q
 |[],h=>⟨λl hl=>(by cases hl),h⟩
 |l::ls,h=>by obtain⟨h1,h2⟩:=h;obtain⟨h3,h4⟩:=Ro ls h2;exact⟨λl' cu=>(zj.1 cu).elim (λe=>e▸h1) (h3 l'),h4⟩
theorem N4 {B0 F0 D0:Heap}{s:St}{env:Env}{M:Heap}{n:Nat}(hR:GRel P B0 F0 D0 s env M) {st:List (Nat×SV)}{ow:List (Nat×Src×OB)}(h:HR n s st ow):GRel P B0 F0 D0 (ZD n st ow) env M:=by
 unfold HR at h;cases hb:Nat.beq s.env.length n with
 |false=>rw[hb] at h;exact h.elim
 |true =>
  rw[hb] at h;have hl:env.length=n:=by rw[<-zI hb];obtain⟨_,_,_,_,_,hG⟩:=hR;exact hG.env.length.symm
  rw[<-hl];exact Nv hR h
theorem YL {C:Cx}(aB:COk P C) {B0 F0 D0:Heap}:∀ (aR:List DSeg) {s:St}{env:Env}{M:Heap},GRel P B0 F0 D0 s env M->∀ {K:St->Prop},LZ C aR s K->∀ {R:Env->Heap->Prop},(∀ s' ah M',K s'->GRel P B0 F0 D0 s' ah M'->R ah M')->GN (Q4 P) aR env M R
 |[],s,env,M,hR,K,h,R,hK=>hK s env M h hR
 |.one o::r,s,env,M,hR,K,h,R,hK=>by refine GC aB [o] hR (K:=λs'=>LZ C r s' K) h λs' ah M' h1 h2=>?_;exact YL aB r h2 h1 hK
 |.alts [l]::r,s,env,M,hR,K,h,R,hK=>by
  simp only[LZ] at h;cases hd:Q8y l with
  |false =>
   rw[hd] at h;simp only[zQ] at h;cases hk:l.all (λo=>o.kind==o.op.kind) with
   |false=>rw[hk] at h;exact h.elim
   |true =>
    rw[hk] at h;simp only[zl] at h;intro ops ho;obtain rfl:=zd.1 ho;obtain⟨B,F,pl,tb,hB,hG⟩:=hR;have one:∀ (j:Nat) (U:Heap),([M]:List Heap)[j]?=some U->U=M:=λj U ht=>by
     cases j with
     |zero=>simpa using ht.symm
     |succ j=>simp at ht
    exact Qz aB ops (λo ho=>by simpa using z8.1 hk o ho) hB hG (hl:=1) (chg:=0) (A:=[]) (Rd:=[]) ⟨rfl,λj U _ ht=>one j U ht,(λc hc=>absurd hc (by simp)),λj U q i ht _ _ _=>by rw[one j U ht]⟩ (pend:=[]) (pd:=[]) (λc hc=>absurd hc (by simp)) (λj U ht _=>by rw[one j U ht];exact hG.leB) (Nat.zero_le _) (Nat.succ_pos _) h λs' ah M' h1 h2=>⟨ah,M',.refl _ _ _,YL aB r h2 h1 hK⟩
  |true =>rw[hd] at h;refine Q1q (l:=l) hd ?_;exact GC aB _ hR h λs' ah M' h1 h2=>YL aB r h2 h1 hK
 |.alts []::r,s,env,M,hR,K,h,R,hK=>h.elim
 |.alts (l::l2::ls)::r,s,env,M,hR,K,h,R,hK=>by
  simp only[LZ] at h;cases hk:(l::l2::ls).all (λl=>l.all λo=>o.kind==o.op.kind) with
  |false=>rw[hk] at h;exact h.elim
  |true =>
   rw[hk] at h;simp only[zl] at h;obtain⟨B,F,pl,tb,hB,hG⟩:=hR;have one:∀ (j:Nat) (U:Heap),([M]:List Heap)[j]?=some U->U=M:=λj U ht=>by
    cases j with
    |zero=>simpa using ht.symm
    |succ j=>simp at ht
   have run:∀ l'∈l::l2::ls,∀ {K':St->Prop},XZ C.nx l' s 1 0 [] [] K'->∀ {R':Env->Heap->Prop},(∀ s' ah M',K' s'->GRel P B0 F0 D0 s' ah M'->R' ah M')->JB (Q4 P) l' env [M] M [] R':=λl' cu K' h' R' qN =>
    Qx aB.nx rfl l' (λo ho=>by simpa using z8.1 (z8.1 hk l' cu) o ho) hB hG (hl:=1) (chg:=0) (A:=[]) (Rd:=[]) ⟨rfl,λj U _ ht=>one j U ht,(λc hc=>absurd hc (by simp)),λj U q i ht _ _ _=>by rw[one j U ht]⟩ (pend:=[]) (pd:=[]) (λc hc=>absurd hc (by simp)) (λj U ht _=>by rw[one j U ht];exact hG.leB) (Nat.zero_le _) (Nat.succ_pos _) h' qN
   obtain⟨s0,h0,h1⟩:=YC (run l zf h (R':=λ_ _=>∃ s0:St,_) λs' _ _ h' _=>⟨s',h'⟩);obtain⟨h2,h3⟩:=Ro _ h1;intro ops ho;rcases zj.1 ho with rfl|eT
   .refine Yx ?_;exact run ops ho h λs' ah M' h' qR=>⟨ah,M',.refl _ _ _,by
     obtain⟨k1,k2⟩:=h';exact YL aB r (N4 qR k1) (Ro _ k2).2 hK⟩
   .refine Yx ?_;exact run ops ho (h2 ops eT) λs' ah M' h' qR=>⟨ah,M',.refl _ _ _,YL aB r (N4 qR h') h3 hK⟩
theorem Ry:∀ (l:List Nat) (vs:List SV),(Z2w l vs).map (·.1)=l
 |[],_=>rfl
 |j::js,[]=>by simp[Z2w,Ry js []]
 |j::js,v::vs=>by simp[Z2w,Ry js vs]
theorem Gn {B:Heap}{pl:Nat->Value}{tb:Nat->Option Bool}:∀ {ps:List Nat}{xs:List SV}{us:List Value}{e:List SV}{env:Env},SRs P B pl tb xs us->SRs P B pl tb e env->SRs P B pl tb (Hy e ps xs) (TP env ps us)
 |[],xs,us,e,env,_,h=>by simpa [Hy,TP] using h
 |p::ps,[],us,e,env,hx,h=>by simp only[SRs] at hx;subst hx;simpa [Hy,TP] using h
 |p::ps,x::xs,us,e,env,hx,h=>by simp only[SRs] at hx;obtain⟨u,jb,rfl,h1,h2⟩:=hx;simp only[Hy,TP];exact Gn h2 (h.set p h1)
def Z9k (F0:Heap):Option Nat->Prop
 |none=>True
 |some i=>∃ env r st pend,F0.get i=some (.obj (.lp env r st pend) true)
theorem Gam.dropLp {B F:Heap}{pl:Nat->Value}{tb:Nat->Option Bool}{s:St}{env:Env}{M:Heap}(hG:Gam P B F pl tb s env M) {o:Nat}{l:List SV}{q:LpD}{u:LpS}(ho:Qe s.own o=.lpf l q u) (hl:u.live=true) :
  Gam P B F pl tb ⟨l,oset s.own o .dead,s.nx⟩ q.vals (M.kill q.i)/\M.get q.i=some (.obj (.lp q.vals q.r u.st u.pend) true):=by
 have ao:=hG.obj o;rw[ho] at ao;obtain⟨h1,h2,h3⟩:=ao;have ju:(Qe s.own o).live=true:=by rw[ho];exact hl
 have jN:Oid (pl o) q.i:=by rw[h1];rfl
 have hF:=hG.fresh o q.i ju jN;have lv:∀ d,(Qe (oset s.own o .dead) d).live=true->d≠o/\(Qe s.own d).live=true:=λd h=>by
  rw[Qr] at h;by_cases e:d=o
  .rw[z3 e] at h;cases h
  .rw[z0 e] at h;exact⟨e,h⟩
 refine⟨⟨hG.bf,⟨hG.le.1,λj b hb=>?_⟩,h2,λd=>?_,λd i hd hi=>hG.fresh d i (lv d hd).2 hi,λd d' i e h h'=>hG.sep d d' i e (lv d h).2 (lv d' h').2,hG.free⟩,h3 hl⟩
 .have e:j≠q.i:=by rintro rfl;rw[hF] at hb;cases hb
  rw[Heap.q0c _ e];exact hG.le.2 _ _ hb
 .rw[Qr];by_cases e:d=o
  .rw[z3 e];trivial
  .rw[z0 e];refine (hG.obj d).mono (.refl _) (λ_ _ h=>h) λhd i hi=>?_;have:i≠q.i:=by rintro rfl;exact hG.sep d o q.i e hd ju hi jN
   exact Heap.q0c _ this
theorem Q2t (s:St) (o:Nat) (b:OB) (j:Nat):Qe (s.make o b).own j=if j=o then b else (Qe s.own j).kill o:=by
 simp only[St.make,Qr];by_cases h:j=o
 .subst h;simp
 .simp only[h,if_false,St.kill,Uu]
theorem Gam.enterLp {B F:Heap}{pl:Nat->Value}{tb:Nat->Option Bool}{s:St}{env:Env}{M:Heap}(hG:Gam P B F pl tb s env M) {o aK:Nat}{l:List SV}{q:LpD}(ho:Qe s.own o=.lpf l q .rdy) (aw:o≠aK)
  {args:List SV}{us:List Value}(az:SRs P B pl tb args us) (ps:List Nat) :
  Gam P B (F.ins M q.i hG.le.1) (X8 pl aK poison) tb ⟨Hy (SVs.kill aK l) ps (SVs.kill aK args),oset (Fj aK env s).own o (.lpf (SVs.kill aK l) q .busy),s.nx⟩ (TP q.vals ps us) M:=by
 have q3:Gam P B F (X8 pl aK poison) tb (Fj aK env s) env M:=by refine hG.make aK _ poison hG.le (λ_ _ _ _ _=>rfl) ?_ (λi hl _=>by cases hl);exact SRs.upd (.refl _) (λ_ _ h=>h) (λj hj=>by simp[X8,hj]) _ _ hG.env
 have ao:=hG.obj o;rw[ho] at ao;obtain⟨h1,h2,h3⟩:=ao;have ju:(Qe s.own o).live=true:=by rw[ho];rfl
 have gY:X8 pl aK poison o=.pointer (some ⟨q.i,0,none⟩):=by simp[X8,aw,h1]
 have uy:Qe (Fj aK env s).own o=.lpf (SVs.kill aK l) q .rdy:=by have:=Q2t s aK (.stk (SVs.kill aK s.env) env) o;unfold Fj;rw[this,z0 aw,ho];rfl
 have oz:(Qe (Fj aK env s).own o).live=true:=by rw[uy];rfl
 have jN:Oid (X8 pl aK poison o) q.i:=by rw[gY];rfl
 have hF:=q3.fresh o q.i oz jN;have ck:SRs P B (X8 pl aK poison) tb (SVs.kill aK l) q.vals:=SRs.upd (.refl _) (λ_ _ h=>h) (λj hj=>by simp[X8,hj]) _ _ h2;have uz:SRs P B (X8 pl aK poison) tb (SVs.kill aK args) us:=SRs.upd (.refl _) (λ_ _ h=>h) (λj hj=>by simp[X8,hj]) _ _ az;have lv:∀ d,(Qe (oset (Fj aK env s).own o (.lpf (SVs.kill aK l) q .busy)) d).live=true->d≠o/\(Qe (Fj aK env s).own d).live=true:=λd h=>by
  rw[Qr] at h;by_cases e:d=o
  .rw[z3 e] at h;cases h
  .rw[z0 e] at h;exact⟨e,h⟩
 refine⟨q3.bf.trans (hG.le.ins _),hG.le.q1v _,Gn uz ck,λd=>?_,λd i hd hi=>?_,λd d' i e h h'=>q3.sep d d' i e (lv d h).2 (lv d' h').2,q3.free⟩
 .show OR P B _ tb M _ (Qe (oset _ o _) d);rw[Qr];by_cases e:d=o
  .subst e;rw[z3 rfl];exact⟨gY,ck,λh=>by cases h⟩
  .rw[z0 e];exact q3.obj d
 .obtain⟨e,r8⟩:=lv d hd;have:i≠q.i:=by rintro rfl;exact q3.sep d o q.i e r8 oz hi jN
  rw[Heap.q1c _ _ _ this];exact q3.fresh d i r8 hi
theorem Gam.leaveLp {B F:Heap}{pl:Nat->Value}{tb:Nat->Option Bool}{s:St}{env:Env}{M:Heap}(hG:Gam P B F pl tb s env M) {o aK:Nat}{l l2:List SV}{kE:List Value}{q:LpD}{b0:Blk}(hF:F.get q.i=some b0) (hB:B.get q.i=none)
  (h2:Qe s.own aK=.stk l2 kE) (ho:Qe s.own o=.lpf l q .busy) (u:LpS) :
  Gam P B (F.kill q.i) pl tb ⟨l2,oset (oset s.own aK .dead) o (.lpf l q u),s.nx⟩ kE (M.upd q.i (.obj (.lp q.vals q.r u.st u.pend) true)):=by
 have ao:=hG.obj o;rw[ho] at ao;obtain⟨k1,k2,_⟩:=ao;have hk:=hG.obj aK;rw[h2] at hk;have hi:q.i<M.n:=M.lt (hG.le.2 _ _ hF);have aw:∀ {d i},(Qe s.own d).live=true->Oid (pl d) i->i≠q.i:=λh1 h2 e=>by have:=hG.fresh _ _ h1 h2;subst e;rw[hF] at this;cases this
 have jN:∀ i,Oid (pl o) i->i=q.i:=λi h=>by rw[k1] at h;exact(osj h).symm
 have hg:∀ d,Qe (oset (oset s.own aK .dead) o (.lpf l q u)) d=if d=o then .lpf l q u else if d=aK then .dead else Qe s.own d:=λd=>by rw[Qr,Qr]
 have lv:∀ d,d≠o->(Qe (oset (oset s.own aK .dead) o (.lpf l q u)) d).live=true->(Qe s.own d).live=true:=λd e h=>by
  rw[hg,z0 e] at h;split at h
  .cases h
  .exact h
 refine⟨⟨hG.bf.1,λj b hb=>?_⟩,⟨hG.le.1,λj b hb=>?_⟩,hk,λd=>?_,λd i hd cD=>?_,λd d' i e h h' h1 ja=>?_,hG.free⟩
 .have e:j≠q.i:=by rintro rfl;rw[hB] at hb;cases hb
  rw[Heap.q0c _ e];exact hG.bf.2 _ _ hb
 .by_cases e:j=q.i
  .subst e;rw[Heap.q0f] at hb;cases hb
  .rw[Heap.q0c _ e] at hb;rw[Heap.q0b _ _ e];exact hG.le.2 _ _ hb
 .show OR P B pl tb _ _ (Qe (oset _ o _) d);rw[hg];by_cases e:d=o
  .subst e;rw[z3 rfl];exact⟨k1,k2,λ_=>Heap.q0d _ _ hi⟩
  .rw[z0 e];split
   .trivial
   .exact(hG.obj d).mono (.refl _) (λ_ _ h=>h) λhd i hi=>Heap.q0b _ _ (aw hd hi)
 .by_cases e:d=o
  .subst e;rw[jN i cD];exact Heap.q0f _ _
  .rw[Heap.q0c _ (aw (lv d e hd) cD)];exact hG.fresh d i (lv d e hd) cD
 .by_cases e1:d=o
  .subst e1;have e2:d'≠d:=λh=>e h.symm;exact aw (lv d' e2 h') ja (jN i h1)
  .by_cases e2:d'=o
   .subst e2;exact aw (lv d e1 h) h1 (jN i ja)
   .exact hG.sep d d' i e (lv d e1 h) (lv d' e2 h') h1 ja
theorem V3 {C:Cx}(aB:COk P C) {L:List (Nat×LoopAnn)}(vc:VCode):∀ {B0 F0 D0:Heap}(n:Nat) (K:Exit->St->Prop) (s:St) (env:Env) (M:Heap) (ro:Option Nat) (Q:Exit->Env->Heap->Prop),Z9k F0 ro->GRel P B0 F0 D0 s env M->gwp C L vc n K s->(∀ e s' ah M',K e s'->GRel P B0 F0 D0 s' ah M'->Q e ah M')->vwp (Q4 P) vc ro Q env M:=by
 induction vc with
 |skip=>intro B0 F0 D0 n K s env M ro Q bK hR h hK;exact hK _ _ _ _ h hR
 |region ops=>intro B0 F0 D0 n K s env M ro Q bK hR h hK;exact GC aB ops hR h λs' ah M' h1 h2=>hK _ _ _ _ h1 h2
 |regionD aR=>intro B0 F0 D0 n K s env M ro Q bK hR h hK;exact YL aB aR hR h λs' ah M' h1 h2=>hK _ _ _ _ h1 h2
 |rangeF g ps a b fv eY =>
  intro B0 F0 D0 n K s env M ro Q bK hR h hK;simp only[gwp] at h;split at h
  .rename_i f first dD hg
   split at h
   .
    rename_i x hx;obtain⟨B,F,pl,tb,hB,hG⟩:=hR;have gG:=hG.evs (Gds.nil (tb:=tb)) g;rw[hg] at gG;simp only[SR] at gG;obtain⟨x',y',bB,l8,oA⟩:=gG;obtain⟨ic,mO⟩:=aB.iy f x hx;show vwp (Q4 P) (.rangeF g ps a b) ro Q env M;simp only[vwp,F9,bB];have l9:(Q4 P).it f=some λi Y args M K=>U6 P i Y->VCallsTo P f args M K:=by simp only[Q4];rw[z3 ic]
    rw[l9];refine⟨?_,λr hY=>?_⟩
    .cases ro with
     |none=>trivial
     |some i =>obtain⟨e1,r1,st1,qS,hi⟩:=bK;exact⟨e1,r1,st1,qS,hG.le.2 _ _ (hB.f.2 _ _ hi)⟩
    generalize jZ:C.off+2000000+n=o at h;generalize fH:100000*(o+1)-1=aK at h;have ai:o≠aK:=by omega
    let q:LpD:=⟨M.n,env,r⟩;let rdy:Blk:=.obj (.lp env r .ready none) true;let ff:Blk:=.obj (.lp env r .busy none) true;let p0:Value:=.pointer (some ⟨M.n,0,none⟩);have iJ:Gam P B F (X8 pl o p0) tb (J07 o q s) env (M.push rdy):=by refine hG.push o (.lpf (SVs.kill o s.env) q .rdy) p0 rdy rfl ⟨rfl,SRs.upd (.refl _) (λ_ _ h=>h) (λj hj=>by simp[X8,hj]) _ _ hG.env,λ_=>Heap.q0a _ _⟩
    have kl:∀ {xs us},SRs P B pl tb xs us->SRs P B (X8 pl o p0) tb (SVs.kill o xs) us:=λh=>SRs.upd (.refl _) (λ_ _ h=>h) (λj hj=>by simp[X8,hj]) _ _ h;have az:SRs P B (X8 pl o p0) tb (SVs.kill o first++(.dd o .yv::SVs.kill o dD)) (x'++(.func (.yield M.n) #[] #[]::y')):=by refine (kl l8).append ?_;simp only[SRs,SR,DR];exact⟨_,_,rfl,⟨M.n,by simp[X8,p0],rfl⟩,kl oA⟩
    have uA:Q7g P o (Q55 o aK ps.length q (λK' s'=>gwp C L a n (Q71 (λs3=>gwp C L b n K' s3) λ_ _=>False) s') ps):=by
     intro B F pl tb s ah M args us K R i hG ha hy gY hK;unfold Q55 at hy;split at hy
     .rename_i l q' u ho;split at hy
      .cases hlen:Nat.beq args.length ps.length with
       |false=>rw[hlen] at hy;exact hy.elim
       |true =>
       rw[hlen] at hy;simp only[zl] at hy;obtain⟨rfl,hy⟩:=hy;have ao:=hG.obj o;rw[ho] at ao;have hi:i=q.i:=by have h1:=ao.1;rw[gY] at h1;have:=osj (Value.pointer.inj h1);exact(Addr.mk.inj this).1
       subst hi;have l_:M.get q.i=some rdy:=ao.2.2 rfl;have ju:(Qe s.own o).live=true:=by rw[ho];rfl
       have mP:F.get q.i=none:=hG.fresh o q.i ju (by rw[ao.1];rfl);have r9:B.get q.i=none:=by
        cases hb:B.get q.i with
        |none=>rfl
        |some b=>rw[hG.bf.2 _ _ hb] at mP;cases mP
       have kK:=hG.enterLp ho ai ha ps;have iK:(F.ins M q.i hG.le.1).get q.i=some rdy:=by rw[Heap.q0m];exact l_
       have fB:(F.ins M q.i hG.le.1).n=M.n:=rfl;have aQ:q.i<M.n:=M.lt l_;refine hY us M R ⟨l_,by rw[<-ha.length];exact(zI hlen),?_⟩;refine fv (B0:=B) (F0:=F.ins M q.i hG.le.1) (D0:=M) n _ _ _ M (some q.i) _ ⟨env,r,_,_,iK⟩ ⟨B,_,_,tb,.of kK.bf (Dead.refl _),kK⟩ (hy ah) λe s3 qT σ3 h7 h8=>?_;cases e with
       |normal =>
        have jy:σ3.get q.i=some rdy:=by obtain⟨B',F',pl',tb',q1,q2⟩:=h8;exact q2.le.2 _ _ (q1.f.2 _ _ iK)
        refine⟨jy,?_⟩;have h9:=h8.lpUpd (b:=ff) iK r9;have mR:((F.ins M q.i hG.le.1).upd q.i ff).get q.i=some ff:=Heap.q0d _ _ (by rw[fB];exact aQ);refine eY (B0:=B) (F0:=(F.ins M q.i hG.le.1).upd q.i ff) (D0:=M) n _ _ _ _ (some q.i) _ ⟨env,r,_,_,mR⟩ h9 h7 λe s4 qU σ4 b7 gK=>?_;obtain⟨B',F',pl',tb',q1,q2⟩:=gK;have pC:=q1.f.2 _ _ mR;have qV:=q1.x _ _ mR r9;have iL:σ4.get q.i=some ff:=q2.le.2 _ _ pC;unfold gyK at b7;split at b7
        .rename_i l2 kE l3 q3 u3 al qW;split at b7
         .obtain⟨rfl,rfl,b7⟩:=b7;have base:∀ b,GBase B F M B' (F'.kill q.i) (σ4.upd q.i b):=λb=>by
           refine⟨q1.b,⟨?_,λj c hc=>?_⟩,λj c h1 h2=>?_,q1.d.trans (Dead.upd _ _ _ (by rw[iL];rfl))⟩
           .have h1:=q1.f.1;have h2:=hG.le.1;show F.n<=F'.n;have h3:((F.ins M q.i hG.le.1).upd q.i ff).n=M.n:=rfl;omega
           .have e:j≠q.i:=by rintro rfl;rw[mP] at hc;cases hc
            rw[Heap.q0c _ e];refine q1.f.2 _ _ ?_;rw[Heap.q0b _ _ e,Heap.q1c _ _ _ e];exact hc
           .have e:j≠q.i:=by rintro rfl;rw[mP] at h1;cases h1
            refine q1.x j c ?_ h2;rw[Heap.q0b _ _ e,Heap.q1c _ _ _ e];exact h1
          refine⟨iL,?_⟩;cases e with
          |normal=>exact hK _ _ B' _ pl' tb' _ _ b7 (base _) (q2.leaveLp pC qV al qW .rdy) (by simp[SR,KC])
          |ret=>exact hK _ _ B' _ pl' tb' _ _ b7 (base _) (q2.leaveLp pC qV al qW .ret) (by simp[SR,KC])
          |exit id=>exact hK _ _ B' _ pl' tb' _ _ b7 (base _) (q2.leaveLp pC qV al qW (.exit id)) (by simp[SR,KC])
          |_=>exact b7.elim
         .exact b7.elim
        .exact b7.elim
       |_=>exact h7.elim
      .exact hy.elim
     .exact hy.elim
    have aX:=mO B F _ tb _ env (M.push rdy) o _ _ _ (Z0a o q K) (λU=>Q6r Q env M.n poison U) iJ az uA (h q) λs' B' F' pl' tb' ah M' hk hb dL=>by
     unfold Z0a at hk;split at hk
     .rename_i l q' u ho;have fin:∀ {e:Exit},u.live=true->q'=q->K e ⟨l,oset s'.own o .dead,s'.nx⟩->Q e env (M'.kill M.n)/\M'.get M.n=some (.obj (.lp env r u.st u.pend) true):=λ{e} hu hq uB=>by
       subst hq;obtain⟨g1,g2⟩:=dL.dropLp ho hu;refine⟨hK _ _ _ _ uB ⟨B',F',pl',tb',⟨hB.b.trans hb.b,hB.f.trans hb.f,λj c h1 h2=>hb.x j c (hB.f.2 _ _ h1) (hB.x j c h1 h2),hB.d.trans ((Dead.push _ _).trans (hb.d.trans (Dead.kill _ _)))⟩,g1⟩,g2⟩
      cases u with
      |busy=>exact hk.elim
      |rdy =>obtain⟨hq,hk⟩:=hk;obtain⟨k1,k2⟩:=fin rfl hq hk;unfold Q6r;rw[k2];exact⟨(by intro h;cases h),k1⟩
      |ret =>obtain⟨hq,hk⟩:=hk;obtain⟨k1,k2⟩:=fin rfl hq hk;unfold Q6r;rw[k2];exact⟨(by intro h;cases h),k1⟩
      |exit id =>obtain⟨hq,hk⟩:=hk;obtain⟨k1,k2⟩:=fin rfl hq hk;unfold Q6r;rw[k2];exact⟨(by intro h;cases h),k1⟩
     .exact hk.elim
    refine VCallsTo.mono (R:=λ_ U=>Q6r Q env M.n poison U) (by simpa using aX) λv U h=>h
   split at h
   rotate_left
   .exact h.elim
   split at h
   .rename_i it s1 cJ A nE qX hA;split at h
    .rename_i c m ar xs hc;cases ek:Nat.beq ps.length ar with
     |false=>rw[ek] at h;exact h.elim
     |true =>
     rw[ek] at h;simp only[zl] at h;obtain⟨ep,p,d0,fl,I,uC,r_,sd⟩:=h;have ek:=zI ek;have hlen:s.env.length=env.length:=by obtain⟨B,F,pl,tb,_,hG⟩:=hR;exact hG.env.length
     rw[hlen] at r_ sd;have oi:=hR;obtain⟨B,F,pl,tb,hB,hG⟩:=hR;have gG:=hG.evs Gds.nil g;rw[hg] at gG;simp only[SR] at gG;obtain⟨x,y,bB,hx,hy⟩:=gG;simp only[SRs] at hx;subst hx;obtain⟨B1,F1,oB,oC,uD,j8⟩:=HZ hG hy qX;obtain⟨ic,qY⟩:=aB.it f it nE;obtain⟨oD,qZ⟩:=qY B1 cJ y c m ar xs uD hc ep;have uE:GRel P B1 F1 D0 (ZD (List.length env) (A.st p d0) (A.own p d0)) env M:=Nv ⟨B1,F1,pl,tb,⟨.refl _,.refl _,λ_ _ _ h=>h,(hB.trans oB).d⟩,oC⟩ fl;have mS:B1.get M.n=none:=B1.wf _ oC.leB.1;have uF:F1.get M.n=none:=F1.wf _ oC.le.1;show vwp (Q4 P) (.rangeF g ps a b) ro Q env M;simp only[vwp,F9,bB];have l9:(Q4 P).it f=some λi Y args M K=>U6 P i Y->VCallsTo P f args M K:=by simp only[Q4];rw[z3 ic]
     rw[l9];refine⟨?_,λr hY=>?_⟩
     .cases ro with
      |none=>trivial
      |some i =>obtain⟨e1,r1,st1,qS,hi⟩:=bK;exact⟨e1,r1,st1,qS,hG.le.2 _ _ (hB.f.2 _ _ hi)⟩
     .let rdy:Blk:=.obj (.lp env r .ready none) true;let ff:Blk:=.obj (.lp env r .busy none) true;have kL:F1.Le (M.push rdy):=oC.le.push rdy;let Fr:=F1.ins (M.push rdy) M.n kL.1;have iK:Fr.get M.n=some rdy:=by
       show (F1.ins _ _ _).get M.n=_;rw[Heap.q0m,Heap.q0a]
      have fB:Fr.n=M.n+1:=rfl;have uG:F1.Le Fr:=kL.ins M.n;let J:Nat->Heap->Prop:=λk U=>∃ d,I k d/\GRel P B1 Fr D0 (ZD (List.length env) (A.st p d) (A.own p d)) env U;let E:Heap->Prop:=λU=>∃ cd e,U.get M.n=some (.obj (.lp env r .done (some cd)) true)/\((cd=.ret/\e=Exit.ret)\/∃ id,cd=.exit id/\e=Exit.exit id)/\Q e env (U.kill M.n);have back:∀ {s':St}{U:Heap},GRel P B1 (Fr.upd M.n ff) D0 s' env U->∀ b,GRel P B1 ((Fr.upd M.n ff).upd M.n b) D0 s' env (U.upd M.n b):=λh b =>
       h.lpUpd (b0:=ff) (Heap.q0d _ _ (by rw[fB];omega)) mS
      have iM:∀ {Fx:Heap}{b0:Blk}{s':St}{U:Heap},Fx.get M.n=some b0->(∀ i,i≠M.n->Fx.get i=F1.get i)->Fx.n=M.n+1->GRel P B1 Fx D0 s' env U->GRel P B0 F0 D0 s' env (U.kill M.n):=λ{Fx b0 s' U} h1 h2 h3 h4=>by
       refine (h4.lpKill h1 mS).base (hB.b.trans oB.b) ⟨?_,λi b hb=>?_⟩ λi b k1 k2=>(hB.trans oB).x i b k1 k2
       .show F0.n<=Fx.n;rw[h3];have:=(hB.trans oB).f.1;have:=oC.le.1;omega
       .have bk:=(hB.trans oB).f.2 _ _ hb;have e:i≠M.n:=by rintro rfl;rw[uF] at bk;cases bk
        rw[Heap.q0c _ e,h2 i e];exact bk
      have jO:∀ i,i≠M.n->Fr.get i=F1.get i:=λi e=>Heap.q1c _ _ _ e;have aX:=qZ M.n _ J E (M.push rdy) hY (λk U ⟨d,_,hd⟩=>?_) (λk us U hk ⟨d,q6,hd⟩ ef=>?_) ⟨d0,uC,?_⟩
      .refine VCallsTo.mono (R:=λ_ U=>J m U\/E U) (by simpa using aX) λv U qq=>?_;unfold Q6r;rcases qq with⟨d,q6,hd⟩|⟨cd,e,h1,h2,h3⟩
       .have l_:U.get M.n=some rdy:=by
         obtain⟨B',F',pl',tb',q1,q2⟩:=hd;exact q2.le.2 _ _ (q1.f.2 _ _ iK)
        rw[l_];exact⟨(by intro h;cases h),hK _ _ _ _ (sd d q6) (iM iK jO fB hd)⟩
       .rw[h1];refine⟨(by intro h;cases h),?_⟩;rcases h2 with⟨rfl,rfl⟩|⟨id,rfl,rfl⟩<;>exact h3
      .obtain⟨B',F',pl',tb',q1,q2⟩:=hd;exact q1.b.trans q2.leB
      .
       have l_:U.get M.n=some rdy:=by obtain⟨B',F',pl',tb',q1,q2⟩:=hd;exact q2.le.2 _ _ (q1.f.2 _ _ iK)
       refine⟨l_,by rw[ek,<-(oD k).1,ef.length],?_⟩;have hF:=r_ k d hk q6 env;have a_:GRel P B1 Fr D0 ⟨Hy (Fj (2000000+n) env (ZD (List.length env) (A.st p d) (A.own p d))).env ps (xs k),(Fj (2000000+n) env (ZD (List.length env) (A.st p d) (A.own p d))).own,0⟩ (TP env ps us) U:=by
        obtain⟨B',F',pl',tb',q1,q2⟩:=hd;have q3:Gam P B' F' (X8 pl' (2000000+n) poison) tb' (Fj (2000000+n) env (ZD (List.length env) (A.st p d) (A.own p d))) env U:=by refine q2.make (2000000+n) _ poison q2.le (λ_ _ _ _ _=>rfl) ?_ (λi hl _=>by cases hl);exact SRs.upd (.refl _) (λ_ _ h=>h) (λj hj=>by simp[X8,hj]) _ _ q2.env
        refine⟨B',F',X8 pl' (2000000+n) poison,tb',q1,⟨q3.bf,q3.le,Gn ?_ q3.env,q3.obj,q3.fresh,q3.sep,?_⟩⟩
        .exact SRs.mono q1.b (λ_ _ h=>h) _ _ (Zq _ _ (oD k).2 ef)
        .exact q3.free
       refine fv (B0:=B1) (F0:=Fr) n _ _ _ U (some M.n) _ ⟨env,r,_,_,iK⟩ a_ hF λe s3 qT σ3 h7 h8=>?_;cases e with
       |normal =>
        have jy:σ3.get M.n=some rdy:=by obtain⟨B',F',pl',tb',q1,q2⟩:=h8;exact q2.le.2 _ _ (q1.f.2 _ _ iK)
        refine⟨jy,?_⟩;have h9:=h8.lpUpd (b:=ff) iK mS;have mR:(Fr.upd M.n ff).get M.n=some ff:=Heap.q0d _ _ (by rw[fB];omega);refine eY (B0:=B1) (F0:=Fr.upd M.n ff) n _ _ _ _ (some M.n) _ ⟨env,r,_,_,mR⟩ h9 h7 λe s4 qU σ4 b7 gK=>?_;have iL:σ4.get M.n=some ff:=by obtain⟨B',F',pl',tb',q1,q2⟩:=gK;exact q2.le.2 _ _ (q1.f.2 _ _ mR)
        have se:M.n<σ4.n:=σ4.lt iL;unfold Q2n at b7;split at b7
        .rename_i l vs gg;obtain⟨rfl,b7⟩:=b7;have cP:GRel P B1 (Fr.upd M.n ff) D0 ⟨l,s4.own,s4.nx⟩ vs σ4:=by
          obtain⟨B',F',pl',tb',q1,q2⟩:=gK;have:=q2.obj (2000000+n);rw[gg] at this;exact⟨B',F',pl',tb',q1,q2.bf,q2.le,this,q2.obj,q2.fresh,q2.sep,q2.free⟩
         have ma:∀ b,((Fr.upd M.n ff).upd M.n b).get M.n=some b:=λb=>Heap.q0d _ _ (by show M.n<Fr.n;rw[fB];omega);have q_:∀ b i,i≠M.n->((Fr.upd M.n ff).upd M.n b).get i=F1.get i:=λb i e=>by rw[Heap.q0b _ _ e,Heap.q0b _ _ e,jO i e]
         refine⟨iL,?_⟩;cases e with
         |normal =>
          obtain⟨d',lS,uH⟩:=b7;refine .inl ⟨rfl,d',uH,?_⟩;have:=(back (Nv cP lS) rdy).base (B0:=B1) (F0:=Fr) (.refl _) ⟨z7 _,λi b hb=>?_⟩ λi b k1 k2=>k2
          .exact this
          .by_cases e:i=M.n
           .subst e;rw[iK] at hb;rw[ma];exact hb
           .rw[q_ _ _ e,<-jO i e];exact hb
         |ret =>refine .inr ⟨rfl,_,_,Heap.q0d _ _ se,.inl ⟨rfl,rfl⟩,hK _ _ _ _ b7 (iM (ma _) (q_ _) (by show Fr.n=_;exact fB) (back cP _))⟩
         |exit id =>refine .inr ⟨rfl,_,_,Heap.q0d _ _ se,.inr ⟨id,rfl,rfl⟩,hK _ _ _ _ b7 (iM (ma _) (q_ _) (by show Fr.n=_;exact fB) (back cP _))⟩
         |_=>exact b7.elim
        .exact b7.elim
       |_=>exact h7.elim
      .
       obtain⟨B',F',pl',tb',q1,q2⟩:=uE;have hle:F'.Le (M.push rdy):=q2.le.push rdy;have uI:F'.get M.n=none:=F'.wf _ q2.le.1;have ao:∀ d i,(Qe (ZD (List.length env) (A.st p d0) (A.own p d0)).own d).live=true->Oid (pl' d) i->i<M.n:=λd i h1 h2=>(q2.obj d).q1a h1 h2;refine⟨B',F'.ins (M.push rdy) M.n hle.1,pl',tb',⟨q1.b,Heap.q1w q1.f _ _ _,λi b k1 k2=>?_,q1.d.trans (Dead.push _ _)⟩,⟨q2.bf.trans (hle.ins _),hle.q1v _,q2.env,λd=>(q2.obj d).mono (.refl _) (λ_ _ h=>h) λh1 i h2=>Heap.q0i _ _ (ao d i h1 h2),λd i h1 h2=>?_,q2.sep,q2.free⟩⟩
       .by_cases e:i=M.n
        .subst e;exact B'.wf _ q2.leB.1
        .rw[jO i e] at k1;exact q1.x i b k1 k2
       .rw[Heap.q1c _ _ _ (Nat.ne_of_lt (ao d i h1 h2))];exact q2.fresh d i h1 h2
    .exact h.elim
   .exact h.elim
  .exact h.elim
 |bad=>intro B0 F0 D0 n K s env M ro Q bK hR h hK;exact h.elim
 |ret=>intro B0 F0 D0 n K s env M ro Q bK hR h hK;exact hK _ _ _ _ h hR
 |exit id=>intro B0 F0 D0 n K s env M ro Q bK hR h hK;exact hK _ _ _ _ h hR
 |seq a b fv eY =>
  intro B0 F0 D0 n K s env M ro Q bK hR h hK;refine fv n _ s env M ro _ bK hR h λe s' ah M' h1 h2=>?_;cases e with
  |normal=>exact eY n K s' ah M' ro Q bK h2 h1 hK
  |_=>exact hK _ _ _ _ h1 h2
 |cond c a b fv eY =>
  intro B0 F0 D0 n K s env M ro Q bK hR h hK;simp only[gwp] at h;split at h
  .rename_i t ht;have oi:=hR;obtain⟨B,F,pl,tb,hB,hG⟩:=hR;have:=G1 hG ht;simp only[vwp,this,Q2g];cases t with
   |true=>exact⟨λ_=>fv n K s env M ro Q bK oi h hK,λe=>by cases e⟩
   |false=>exact⟨(λe=>by cases e),λ_=>eY n K s env M ro Q bK oi h hK⟩
  split at h
  .rename_i t ht;obtain⟨B,F,pl,tb,hB,hG⟩:=hR;have:=Wi ht (hG.evs Gds.nil c);simp only[vwp,this,Q2g];split at h
   .rename_i A hA;obtain⟨p,I,hF,hI⟩:=h;have fin:∀ e s' ah M',Z20 s.env.length A p I K e s'->GRel P B0 F0 D0 s' ah M'->Q e ah M':=λe s' ah M' h1 h2=>by
     cases e with
     |normal =>obtain⟨d,h3,h4⟩:=h1;exact hK _ _ _ _ (hI d h4) (N4 h2 h3)
     |_=>exact hK _ _ _ _ h1 h2
    exact⟨λe=>fv n _ s env M ro Q bK ⟨B,F,pl,tb,hB,hG⟩ (hF.1 e) fin,λe=>eY n _ s env M ro Q bK ⟨B,F,pl,tb,hB,hG⟩ (hF.2 e) fin⟩
   exact⟨λe=>fv n K s env M ro Q bK ⟨B,F,pl,tb,hB,hG⟩ (h.1 e) hK,λe=>eY n K s env M ro Q bK ⟨B,F,pl,tb,hB,hG⟩ (h.2 e) hK⟩
  .exact h.elim
 |block id b ih =>
  intro B0 F0 D0 n K s env M ro Q bK hR h hK;refine ih id _ s env M ro _ bK hR h λe s' ah M' h1 h2=>?_;cases e with
  |exit g9 =>
   simp only[Q39] at h1;simp only[Oo];split
   .rename_i e;rw[z3 e] at h1;exact hK _ _ _ _ h1 h2
   .rename_i e;rw[z0 e] at h1;exact hK _ _ _ _ h1 h2
  |_=>exact hK _ _ _ _ h1 h2
 |loop b ih =>
  intro B0 F0 D0 n K s env M ro Q bK hR h hK;simp only[gwp] at h;split at h
  .rename_i A hA;obtain⟨p,d0,h1,I,μ,h2,h3⟩:=h;have hlen:s.env.length=env.length:=by obtain⟨B,F,pl,tb,_,hG⟩:=hR;exact hG.env.length
   have hk:∀ d,(A.st p d).map (·.1)=A.sl:=λd=>Ry _ _;refine⟨A.sl,λm vs M'=>∃ d,I d/\μ d=m/\GRel P B0 F0 D0 (ZD s.env.length (A.st p d) (A.own p d)) (Wk A.sl vs (List.replicate env.length poison)) M',μ d0,⟨d0,h2,rfl,?_⟩,λm vs M' ⟨d,h4,h5,h6⟩=>?_⟩
   .have:=Pt hR h1 s.env.length;rw[hk d0,hlen] at this;rw[hlen];exact this
   .refine ih n _ _ _ M' ro _ bK h6 (h3 d h4) λe s' ah aE h7 h8=>?_;cases e with
    |normal =>
     simp only[Q7i] at h7;cases nY:Z8s s'.own with
     |false=>rw[nY] at h7;exact h7.elim
     |true =>
     rw[nY] at h7;obtain⟨d',h9,b7,gK⟩:=h7;refine⟨μ d',by omega,d',b7,rfl,?_⟩;have:=Pt h8 h9 s.env.length;rw[hk d',hlen] at this;rw[hlen];exact this
    |_=>exact hK _ _ _ _ h7 h8
  .exact h.elim
end
end Go.V