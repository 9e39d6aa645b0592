/- A framework for walks, contracts of functions, and their proofs: part 3. -/
import Derived.Test.YtfblnfcecfjbpaaGreatProg
import Derived.Test.YtfblnfcecfjbpaaGreatQ2
noncomputable section
namespace Go.V
open Go
structure FRel (e:ET) (env:Env):Prop where
 m:e.m=List.length env
 sm:e.m<=1000000
 get:∀ i,env.getD i undef=e.get i
theorem ET.q0v {e:ET}{i:Nat}(hi:i<e.m):e.get i=e.t.get undef i:=by unfold ET.get;rw[show Nat.blt i e.m=true from Nat.ble_eq_true_of_le hi]
theorem ET.q0u {e:ET}{i:Nat}(hi:e.m<=i):e.get i=undef:=by
 unfold ET.get;cases hb:Nat.blt i e.m with
 |false=>rfl
 |true=>have:=zG hb;omega
theorem ET.q2e {e:ET}{i:Nat}{v:Value}(hi:i<e.m):e.set i v=⟨e.t.set undef 32 i v,e.m⟩:=by unfold ET.set;rw[show Nat.blt i e.m=true from Nat.ble_eq_true_of_le hi]
theorem ET.q2f {e:ET}{i:Nat}{v:Value}(hi:e.m<=i):e.set i v=e:=by
 unfold ET.set;cases hb:Nat.blt i e.m with
 |false=>rfl
 |true=>have:=zG hb;omega
theorem ET.q2m (e:ET) (i:Nat) (v:Value):(e.set i v).m=e.m:=by
 rcases zn i e.m with h|h
 .rw[ET.q2e h]
 .rw[ET.q2f h]
theorem ET.q1e {e:ET}(hs:e.m<=1000000) (i:Nat) (v:Value) (j:Nat):(e.set i v).get j=if j=i/\i<e.m then v else e.get j:=by
 rcases zn i e.m with hi|hi
 .rw[ET.q2e hi];rcases zn j e.m with hj|hj
  .rw[ET.q0v (e:=⟨e.t.set undef 32 i v,e.m⟩) hj,ET.q0v hj];show (e.t.set undef 32 i v).get undef j=_;rw[GT.q1e undef 32 _ _ _ _ (by omega)];by_cases h:j=i
   .rw[z8 h,z8 ⟨h,hi⟩]
   .rw[zd h,zd (λe=>h e.1)]
  .rw[ET.q0u (e:=⟨e.t.set undef 32 i v,e.m⟩) hj,ET.q0u hj,zd (by rintro⟨rfl,_⟩;omega)]
 .rw[ET.q2f hi,zd (by rintro⟨_,h⟩;omega)]
theorem FRel.set {e:ET}{env:Env}(h:FRel e env) (i:Nat) (v:Value):FRel (e.set i v) (env.set i v):=by
 refine⟨by rw[ET.q2m,xK];exact h.m,by rw[ET.q2m];exact h.sm,λj=>?_⟩;rw[ET.q1e h.sm,<-h.get,ze,ze,xI,h.m];by_cases cq:i=j
 .subst cq;rcases zn i (List.length env) with hi|hi
  .rw[z8 rfl,z8 hi,z8 ⟨rfl,hi⟩];rfl
  .rw[z8 rfl,zd (by omega),zd (by rintro⟨_,h⟩;omega),zm hi]
 .rw[zd cq,zd (λe=>cq e.1.symm)]
theorem FRel.put {e:ET}{env:Env}(h:FRel e env) (d:Option Nat) (v:Value):FRel (e.put d v) (X0 env d v):=by
 cases d with
 |none=>exact h
 |some d=>exact h.set d v
theorem Hb {e:ET}{env:Env}(h:FRel e env):Gm e=Q3 env:=by
 funext x
 cases x with
 |tmp t=>exact(h.get t).symm
 |_=>rfl
theorem CR {e:ET}{env:Env}(h:FRel e env) (g:Option (Nat×Bool)):FY e g=J3 env g:=by
 cases g with
 |none=>rfl
 |some p =>obtain⟨d,w⟩:=p;simp only[FY,J3,h.get];cases e.get d<;>rfl
theorem Tx:∀ (ps:List Nat) (vs:List Value) {e:ET}{env:Env},FRel e env->FRel (Q27 e ps vs) (Pf env ps vs)
 |[],vs,e,env,h=>by cases vs<;>exact h
 |p::ps,[],e,env,h=>h
 |p::ps,v::vs,e,env,h=>Tx ps vs (h.set p v)
theorem Fl:∀ (l:List Value) (i:Nat) (t:GT Value) (j:Nat),i+l.length<=1000000->(etL l i t).get undef j=if i<=j/\j<i+l.length then l.getD (j-i) undef else t.get undef j
 |[],i,t,j,_=>by rw[zd (by simp only[List.length_nil];omega)];rfl
 |v::l,i,t,j,h=>by
  have h:i+(l.length+1)<=1000000:=h;show (etL l (i+1) (t.set undef 32 i v)).get undef j=_;rw[Fl l (i+1) _ j (by omega),GT.q1e undef 32 _ _ _ _ (by omega)];by_cases aM:j=i
  .subst aM;rw[zd (by omega),z8 rfl,z8 (by simp)];simp
  .by_cases hc:i+1<=j/\j<i+1+l.length
   .rw[z8 hc,z8 (by simp;omega),show j-i=j-(i+1)+1 by omega];rfl
   .rw[zd hc,zd aM,zd (by simp;omega)]
theorem ET.q1q {args:List Value}{nt:Nat}(h:(ET.of args nt).m<=1000000):FRel (ET.of args nt) (args++List.replicate (nt-args.length) undef):=by
 refine⟨by simp[ET.of],h,λi=>?_⟩;have hm:(ET.of args nt).m=args.length+(nt-args.length):=rfl;rw[hm] at h;rcases zn i (ET.of args nt).m with hi|hi
 .rw[ET.q0v hi];show _=(etL args 0 .nil).get undef i;rw[Fl _ _ _ _ (by omega),ze,List.getElem?_append];rw[hm] at hi;by_cases hl:i<args.length
  .rw[z8 hl,z8 (by omega)];simp[ze]
  .rw[zd hl,zd (by omega),wG,z8 (by omega)];rfl
 .rw[ET.q0u hi];rw[hm] at hi;rw[ze,zm (by simp;omega)];rfl
def NX (P:Program) (f:FuncId) (m:Memo):Prop :=
 VCalled P f m.args (Qt m.bl []) (λu Z=>u=m.v/\Z=Qt m.bl m.fr)/\∀ b∈m.fr,b.c.all QK=true
structure TabOk (P:Program) (T:Tab):Prop where
 code:∀ f vc rs nt,T f=some (.code vc rs nt)->Fun P f vc rs nt
 codeJ:∀ f vc rs nt,T f=some (.codeJ vc rs nt)->Fun P f vc rs nt
 codeM:∀ f vc rs nt ms,T f=some (.codeM vc rs nt ms)->Fun P f vc rs nt/\∀ m∈ms,NX P f m
 same:∀ f,T f=some .same->∀ (v:Value) (U:Heap) (K:Value->Heap->Prop),K v U->VCalled P f [v] U K
section
variable {P:Program}{T:Tab}{ev:Q66}
abbrev VZ:=Nat->Env×Loop
def YOk (P:Program) (ys:Ys) (rs:VZ) (n:Nat):Prop :=
 ∀ i c,ys.find i=some c->i<n/\FRel c.env (rs i).1/\Ke P i (Ck (vwp (Q2 P) c.a (some i)) (vwp (Q2 P) c.b (some i)) c.ps (rs i).1 (rs i).2 i)
theorem YOk.mono {ys:Ys}{rs bp:VZ}{n n':Nat}(h:YOk P ys rs n) (hn:n<=n') (hr:∀ i,i<n->bp i=rs i):YOk P ys bp n':=λi c hc=>by obtain⟨h1,h2,h3⟩:=h i c hc;rw[hr i h1];exact⟨by omega,h2,h3⟩
def Q68 {A:Type}(G:A->Prop) (rs:VZ) (h:CH) (k:Value->CH->A) (K:Value->Heap->Prop):Prop :=
 ∀ v h' bp U',h.n<=h'.n->(∀ i,i<h.n->bp i=rs i)->CSim bp h' U'->G (k v h')->K v U'
def Q07 {A:Type}(G:A->Prop) (rs:VZ) (h:CH) (m:Nat) (k:Exit->ET->CH->A) (Q:Exit->Env->Heap->Prop):Prop :=
 ∀ e dU h' bp U' af,h.n<=h'.n->(∀ i,i<h.n->bp i=rs i)->CSim bp h' U'->FRel dU af->List.length af=m->G (k e dU h')->Q e af U'
def Oi {A:Type}(G:A->Prop) (rs:VZ) (h:CH) (m:Nat) (k:ET->CH->A) (K:Env->Heap->Prop):Prop :=
 ∀ dU h' bp U' af,h.n<=h'.n->(∀ i,i<h.n->bp i=rs i)->CSim bp h' U'->FRel dU af->List.length af=m->G (k dU h')->K af U'
def Sd (P:Program) (ev:Q66):Prop:=∀ {A:Type}(R:AnsOps A) (G:A->Prop),Good R G->∀ (ys:Ys) (c:VCode) (ro:Option Nat) (et:ET) (env:Env) (h:CH) (k:Exit->ET->CH->A) (rs:VZ) (U:Heap) (Q:Exit->Env->Heap->Prop),
 YOk P ys rs h.n->CSim rs h U->FRel et env->G (ev R ys c ro et h k)->Q07 G rs h (List.length env) k Q->vwp (Q2 P) c ro Q env U
theorem G_ {rs:VZ}{h:CH}{U:Heap}(hs:CSim rs h U) {et:ET}{env:Env}(hE:FRel et env) {r:VResult}{v:Value}(hr:PG et h r=some v):Jq env U r=some v:=by
 cases r with
 |tmp t=>simp only[PG] at hr;simp only[Jq,hE.get];exact hr
 |cell a agg size =>
  simp only[PG] at hr;split at hr
  .rename_i p hp;rw[<-hE.get] at hp;obtain⟨_,U',h1,_⟩:=Kv (o:=.load agg size (.tmp a)) (ev:=Q3 env) hs hp;simp only[Jq,h1,z_];exact hr
  .cases hr
theorem MT {rs:VZ}{h:CH}{U:Heap}(hs:CSim rs h U) {et:ET}{env:Env}(hE:FRel et env):∀ (l:List VResult) (vs:List Value),GQ et h l=some vs->l.mapM (Jq env U)=some vs
 |[],vs,hr=>by simp[GQ] at hr;subst hr;rfl
 |r::l,vs,hr=>by
  simp only[GQ] at hr;split at hr
  .cases hr
  .rename_i v hv;split at hr
   .cases hr
   .rename_i ws hw;obtain rfl:=osj hr;rw[xt,G_ hs hE hv];simp[MT hs hE l ws hw]
theorem MU {rs:VZ}{h:CH}{U:Heap}(hs:CSim rs h U) {et:ET}{env:Env}(hE:FRel et env) {l:List VResult}{v:Value}(hr:Ml et h l=some v):Zu env U l=some v:=by
 unfold Ml at hr;split at hr
 .exact G_ hs hE hr
 .rename_i aB;split at hr
  .rename_i vs cN;unfold Zu;split
   .rename_i r;exact absurd rfl (aB r)
   .rw[MT hs hE _ _ cN];exact hr
  .cases hr
variable {A:Type}{R:AnsOps A}{G:A->Prop}
theorem Mk (hG:Good R G) {rl:List VResult}{k:Value->CH->A}{rs:VZ}{h:CH}{U:Heap}{K:Value->Heap->Prop}{m:Nat}(hk:Q68 G rs h k K):Q07 G rs h m (Q47 R.fail rl k) (Z0o U rl K):=by
 intro e dU h' bp U' af hn hr aZ b_ _ hg;have fin:G (match Ml dU h' rl with|some v=>k v h'|none=>R.fail)->QS (Zu af U' rl) λv=>∃ v' aE,DropTo U v U' v' aE/\K v' aE:=by
  intro hg;split at hg
  .rename_i v hv;rw[MU aZ b_ hv];exact⟨v,U',.refl _ _ _,hk v h' bp U' hn hr aZ hg⟩
  .exact(hG.fail hg).elim
 cases e with
 |normal=>exact fin hg
 |ret=>exact fin hg
 |_=>exact(hG.fail hg).elim
def CH.toHeap (rs:VZ) (h:CH):Heap:=⟨λi=>(h.get i).map (EB.to (rs i)),h.n,λi hi=>by rw[CH.q0u hi];rfl⟩
theorem Be {rs:VZ}{h:CH}(hr:h.n<=1000000001):CSim rs h (h.toHeap rs):=⟨rfl,hr,λ_=>rfl⟩
theorem CSim.eq {rs:VZ}{h:CH}{U:Heap}(hs:CSim rs h U):U=h.toHeap rs:=Heap.ext' (λj=>hs.get j) hs.n.symm
def Ar (x:Value×CH) (a:Option (Value×CH)):Prop:=∃ y,a=some y/\y.1=x.1/\y.2.n=x.2.n/\∀ i,y.2.get i=x.2.get i
theorem CN {h h':CH}(hs:h.same h'=true):h.n=h'.n/\∀ i,h.get i=h'.get i:=by
 simp only[CH.same,z7,zg,zF,Nat.beq_eq] at hs;refine⟨hs.1,λi=>?_⟩;rcases zn i h.n with hi|hi
 .have:=hs.2 i hi;split at this
  .rename_i h1 h2;rw[h1,h2]
  .rename_i a b h1 h2;rw[h1,h2,EB.beq_eq this]
  .cases this
 .rw[CH.q0u hi,CH.q0u (by rw[<-hs.1];exact hi)]
theorem RM (x:Value×CH):Good joinOps (Ar x):=by
 refine⟨λ⟨y,h,_⟩=>(by cases h),λa b h=>?_⟩;obtain⟨y,h1,h2,h3,h4⟩:=h;cases a with
 |none=>cases h1
 |some xa =>
  cases b with
  |none=>cases h1
  |some xb =>
   simp only[joinOps] at h1;split at h1
   .rename_i hc;obtain rfl:=osj h1;have e1:=NQ _ _ _ hc.1;obtain⟨e2,e3⟩:=CN hc.2;exact⟨⟨xa,rfl,h2,h3,h4⟩,xb,rfl,by rw[<-e1];exact h2,by rw[<-e2];exact h3,λi=>by rw[<-e3 i];exact h4 i⟩
   .cases h1
theorem F6 {b:EB}{q:Env×Loop}(h:b.plainE=true):(b.to q).plain=true/\∀ q',b.to q'=b.to q:=by cases b<;>first|exact⟨h,λ_=>rfl⟩|cases h
def gcP (n0:Nat) (refs:List Nat) (i:Nat):Nat:=if i<n0 then i else refs.getD (i-n0) 0
def RExt (n0:Nat) (a b:List Nat):Prop:=(∃ t,b=a++t/\∀ x∈t,n0<=x)/\(a.Nodup->b.Nodup)
theorem RExt.refl (n0:Nat) (a:List Nat):RExt n0 a a:=⟨⟨[],by simp,λx hx=>by cases hx⟩,id⟩
theorem RExt.trans {n0:Nat}{a b c:List Nat}(h:RExt n0 a b) (k:RExt n0 b c):RExt n0 a c:=by obtain⟨⟨t,rfl,ht⟩,h2⟩:=h;obtain⟨⟨u,rfl,hu⟩,k2⟩:=k;exact⟨⟨t++u,by simp,λx hx=>(zQ.1 hx).elim (ht x) (hu x)⟩,λh=>k2 (h2 h)⟩
def Sub (a b:List Nat):Prop:=∃ t,b=a++t
theorem Sub.trans {a b c:List Nat}(h:Sub a b) (k:Sub b c):Sub a c:=by obtain⟨t,rfl⟩:=h;obtain⟨u,rfl⟩:=k;exact⟨t++u,by simp⟩
theorem RExt.sub {n0:Nat}{a b:List Nat}(h:RExt n0 a b):Sub a b:=by obtain⟨⟨t,h,_⟩,_⟩:=h;exact⟨t,h⟩
theorem Hd (n0:Nat) (refs:List Nat) (i:Nat):RExt n0 refs (gcI n0 refs i).2/\∀ (all:List Nat),Sub (gcI n0 refs i).2 all->(gcI n0 refs i).1<n0+all.length/\gcP n0 all (gcI n0 refs i).1=i:=by
 unfold gcI;split
 .rename_i hi;exact⟨RExt.refl _ _,λall _=>⟨by simp only;omega,by simp[gcP,hi]⟩⟩
 .rename_i hi;split
  .rename_i hc;have hm:i∈refs:=by simpa using hc
   have ah:=List.idxOf_lt_length_of_mem hm;refine⟨RExt.refl _ _,λall ⟨t,ht⟩=>?_⟩;simp only at ht;have cf:refs.idxOf i<all.length:=by rw[ht,zJ];omega
   refine⟨by simp only;omega,?_⟩;simp only[gcP,zd (show ¬ n0+refs.idxOf i<n0 by omega),show n0+refs.idxOf i-n0=refs.idxOf i by omega,ze];rw[ht,xe ah,z6 ah];simp
  .rename_i hc;have hm:i∉refs:=by simpa using hc
   refine⟨⟨⟨[i],rfl,λx hx=>by simp at hx;omega⟩,λh1=>List.nodup_append.2 ⟨h1,by simp,λa ha b hb=>by simp at hb;subst hb;rintro rfl;exact hm ha⟩⟩,λall ⟨t,ht⟩=>?_⟩;simp only at ht;have ah:refs.length<all.length:=by rw[ht];simp
   refine⟨by simp only;omega,?_⟩;simp only[gcP,zd (show ¬ n0+refs.length<n0 by omega),show n0+refs.length-n0=refs.length by omega];simp[ht,ze]
def Q8j (n0:Nat) (refs fQ:List Nat) (v' v:Value):Prop:=RExt n0 refs fQ/\∀ (all:List Nat),Sub fQ all->Ren (n0+all.length) (gcP n0 all) v' v
def Z3k (n0:Nat) (refs fQ:List Nat) (v' v:List Value):Prop:=RExt n0 refs fQ/\∀ (all:List Nat),Sub fQ all->LRen (n0+all.length) (gcP n0 all) v' v
theorem Yo {n0:Nat}{g:List Nat->Value->Option (Value×List Nat)}(hg:∀ refs v p,g refs v=some p->Q8j n0 refs p.2 p.1 v):∀ (vs:List Value) (refs:List Nat) (p:List Value×List Nat),IW g vs refs=some p->Z3k n0 refs p.2 p.1 vs
 |[],refs,p,h=>by obtain rfl:=osj h;exact⟨RExt.refl _ _,λall _=>⟨rfl,λi a b ha=>by simp at ha⟩⟩
 |v::vs,refs,p,h=>by
  simp only[IW] at h;split at h
  .cases h
  .rename_i p1 h1;split at h
   .cases h
   .rename_i p2 h2;obtain rfl:=osj h;obtain⟨a1,a2⟩:=hg _ _ _ h1;obtain⟨b1,b2⟩:=Yo hg vs _ _ h2;refine⟨a1.trans b1,λall ae=>?_⟩;have c1:=a2 all (b1.sub.trans ae);have c2:=b2 all ae;refine⟨by simp[c2.1],λi a b ha hb=>?_⟩;cases i with
    |zero=>simp at ha hb;subst ha;subst hb;exact c1
    |succ i=>exact c2.2 i a b (by simpa using ha) (by simpa using hb)
theorem LRen.agg {n:Nat}{π:Nat->Nat}{cW:List Value}{cs:Array Value}(h:LRen n π cW cs.toList):Ren n π (.agg cW.toArray) (.agg cs) :=
 .agg _ _ (by simpa using h.1) λi h1 h2=>h.2 i _ _ (by simp) (by simp)
theorem LRen.tuple {n:Nat}{π:Nat->Nat}{cW:List Value}{cs:Array Value}(h:LRen n π cW cs.toList):Ren n π (.tuple cW.toArray) (.tuple cs) :=
 .tuple _ _ (by simpa using h.1) λi h1 h2=>h.2 i _ _ (by simp) (by simp)
theorem GW (n0:Nat):∀ (f:Nat) (refs:List Nat) (v:Value) (p:Value×List Nat),gcX n0 f refs v=some p->Q8j n0 refs p.2 p.1 v:=by
 intro f;induction f with
 |zero=>intro refs v p h;cases h
 |succ f ih =>
  intro refs v p h;unfold gcX at h;split at h
  .rename_i i o;obtain rfl:=osj h;obtain⟨h1,h2⟩:=Hd n0 refs i;refine⟨h1,λall ae=>?_⟩;obtain⟨k1,k2⟩:=h2 all ae;have:=Ren.ptr (n:=n0+all.length) (π:=gcP n0 all) (gcI n0 refs i).1 o k1
   rwa [k2] at this
  .rename_i i o l c;obtain rfl:=osj h;obtain⟨h1,h2⟩:=Hd n0 refs i;refine⟨h1,λall ae=>?_⟩;obtain⟨k1,k2⟩:=h2 all ae;have:=Ren.sl (n:=n0+all.length) (π:=gcP n0 all) (gcI n0 refs i).1 o l c k1
   rwa [k2] at this
  .rename_i i o l c;obtain rfl:=osj h;obtain⟨h1,h2⟩:=Hd n0 refs i;refine⟨h1,λall ae=>?_⟩;obtain⟨k1,k2⟩:=h2 all ae;have:=Ren.slx (n:=n0+all.length) (π:=gcP n0 all) (gcI n0 refs i).1 o l c k1
   rwa [k2] at this
  .rename_i i;obtain rfl:=osj h;obtain⟨h1,h2⟩:=Hd n0 refs i;refine⟨h1,λall ae=>?_⟩;obtain⟨k1,k2⟩:=h2 all ae;have:=Ren.map (n:=n0+all.length) (π:=gcP n0 all) (gcI n0 refs i).1 k1
   rwa [k2] at this
  .obtain rfl:=osj h;exact⟨RExt.refl _ _,λall _=>.poison _⟩
  .split at h
   .rename_i q hq;obtain rfl:=osj h;obtain⟨h1,h2⟩:=ih _ _ _ hq;exact⟨h1,λall ae=>.iface _ _ _ (h2 all ae)⟩
   .cases h
  .split at h
   .rename_i q hq;obtain rfl:=osj h;obtain⟨h1,h2⟩:=Yo ih _ _ _ hq;exact⟨h1,λall ae=>(h2 all ae).agg⟩
   .cases h
  .split at h
   .rename_i q hq;obtain rfl:=osj h;obtain⟨h1,h2⟩:=Yo ih _ _ _ hq;exact⟨h1,λall ae=>(h2 all ae).tuple⟩
   .cases h
  .split at h
   .rename_i q hq;split at h
    .rename_i q2 nh;obtain rfl:=osj h;obtain⟨h1,h2⟩:=Yo ih _ _ _ hq;obtain⟨h3,h4⟩:=Yo ih _ _ _ nh;refine⟨h1.trans h3,λall ae=>?_⟩;have c1:=h2 all (h3.sub.trans ae);have c2:=h4 all ae;exact .func _ _ _ _ _ (by simpa using c1.1) (by simpa using c2.1) (λi h1 h2=>c1.2 i _ _ (by simp) (by simp)) (λi h1 h2=>c2.2 i _ _ (by simp) (by simp))
    .cases h
   .cases h
  .rename_i i;split at h
   .rename_i hi;obtain rfl:=osj h;refine⟨RExt.refl _ _,λall _=>?_⟩;have:=Ren.yield (n:=n0+all.length) (π:=gcP n0 all) i (by omega)
    rwa [show gcP n0 all i=i by simp[gcP,hi]] at this
   .cases h
  .split at h
   .rename_i hp;obtain rfl:=osj h;exact⟨RExt.refl _ _,λall _=>.plain _ hp⟩
   .cases h
theorem SU (n0:Nat):∀ (es:List Jx) (refs:List Nat) (p:List Jx×List Nat),Z03 n0 es refs=some p->RExt n0 refs p.2/\∀ (all:List Nat),Sub p.2 all ->
  p.1.length=es.length/\∀ (k:Nat) (a b:Jx),p.1[k]?=some a->es[k]?=some b->a.1=b.1/\a.2.2=b.2.2/\Ren (n0+all.length) (gcP n0 all) a.2.1 b.2.1
 |[],refs,p,h=>by obtain rfl:=osj h;exact⟨RExt.refl _ _,λall _=>⟨rfl,λi a b ha=>by simp at ha⟩⟩
 |e::es,refs,p,h=>by
  simp only[Z03] at h;split at h
  .cases h
  .rename_i p1 h1;split at h
   .cases h
   .rename_i p2 h2;obtain rfl:=osj h;obtain⟨a1,a2⟩:=GW n0 _ _ _ _ h1;obtain⟨b1,b2⟩:=SU n0 es _ _ h2;refine⟨a1.trans b1,λall ae=>?_⟩;have c1:=a2 all (b1.sub.trans ae);obtain⟨c2,c3⟩:=b2 all ae;refine⟨by simp[c2],λi a b ha hb=>?_⟩;cases i with
    |zero=>simp at ha hb;subst ha;subst hb;exact⟨rfl,rfl,c1⟩
    |succ i=>exact c3 i a b (by simpa using ha) (by simpa using hb)
theorem O7 {n0:Nat}{refs:List Nat}{b:EB}{p:EB×List Nat}(h:gcB n0 refs b=some p):RExt n0 refs p.2/\∀ (all:List Nat),Sub p.2 all->∀ q q',BRen (n0+all.length) (gcP n0 all) (p.1.to q') (b.to q):=by
 unfold gcB at h;split at h
 .split at h
  .rename_i q hq;obtain rfl:=osj h;obtain⟨h1,h2⟩:=Yo (GW n0 8) _ _ _ hq;exact⟨h1,λall ae _ _=>⟨rfl,rfl,rfl,h2 all ae⟩⟩
  .cases h
 .split at h
  .rename_i q hq;obtain rfl:=osj h;obtain⟨h1,h2⟩:=SU n0 _ _ _ hq;exact⟨h1,λall ae _ _=>⟨rfl,rfl,(h2 all ae).1,(h2 all ae).2⟩⟩
  .cases h
 .cases h
theorem AF {h':CH}{n0:Nat}:∀ (f k:Nat) (refs:List Nat) (acc:CH) (r:CH×List Nat),O5 h' n0 f k refs acc=some r->acc.n=n0+k->acc.n<=1000000001 ->
  RExt n0 refs r.2/\r.1.n=n0+r.2.length/\r.1.n<=1000000001/\(∀ i,i<acc.n->r.1.get i=acc.get i) /\
  ∀ j,k<=j->j<r.2.length->∃ b b',h'.get (r.2.getD j 0)=some b/\r.1.get (n0+j)=some b'/\∀ q q',BRen (n0+r.2.length) (gcP n0 r.2) (b'.to q') (b.to q):=by
 intro f;induction f with
 |zero=>intro k refs acc r h;cases h
 |succ f ih =>
  intro k refs acc r h hn hs;simp only[O5] at h;split at h
  .split at h
   .rename_i hk;obtain rfl:=osj h;exact⟨RExt.refl _ _,by rw[hn,hk],hs,λ_ _=>rfl,λj h1 h2=>by simp only at h2;omega⟩
   .cases h
  .rename_i hk;split at h
   .cases h
   .rename_i b hb;split at h
    .cases h
    .rename_i p hp;split at h
     .rename_i aY;have aY:acc.n<=1000000000:=zG aY;obtain⟨a1,a2⟩:=O7 hp;have jE:(acc.push p.1).n=acc.n+1:=rfl;obtain⟨b1,b2,b3,b4,b5⟩:=ih (k+1) p.2 (acc.push p.1) r h (by rw[jE];omega) (by rw[jE];omega);refine⟨a1.trans b1,b2,b3,λi hi=>?_,λj ky dD=>?_⟩
      .rw[b4 i (by rw[jE];omega),CH.q1t hs,zd (by omega)]
      .by_cases eC:j=k
       .subst eC;have br:j<refs.length:=by omega
        obtain⟨t,ht⟩:=(a1.trans b1).sub;have hg:r.2.getD j 0=refs.getD j 0:=by rw[ht,ze,ze,xe br]
        refine⟨b,p.1,by rw[hg];exact hb,?_,a2 r.2 b1.sub⟩;rw[<-hn,b4 _ (by rw[jE];omega),CH.q1t hs,z8 rfl]
       .exact b5 j (by omega) dD
     .cases h
theorem By {rs bp:VZ}{h h':CH}{U U':Heap}(hs:CSim rs h U) (aZ:CSim bp h' U') (hr:∀ i,i<h.n->bp i=rs i) {v:Value}{y x:Value×CH}(hg:Sc h h' v=some y) (h1:y.1=x.1) (h2:y.2.n=x.2.n) (h3:∀ i,y.2.get i=x.2.get i) :
  DropTo U v U' x.1 (x.2.toHeap rs):=by
 unfold Sc at hg;split at hg
 .cases hg
 .rename_i p hp;split at hg
  .cases hg
  .rename_i q hq;obtain rfl:=osj hg;simp only at h1 h2 h3;obtain⟨f1,f2⟩:=GW h.n 8 [] v p hp;unfold Q1p at hq;split at hq
   .rename_i er;simp only[CH.keepOk,z7,zg,zF] at er;obtain⟨hle,er⟩:=er;have hle:h.n<=h'.n:=zG hle;have ng:=hs.sm;obtain⟨g0,g1,g2,g3,g4⟩:=AF _ 0 p.2 ⟨h'.t,h.n⟩ q hq rfl ng;have ae:=f1.trans g0;have ka:q.2.Nodup:=ae.2 List.nodup_nil;have bn:∀ x∈q.2,h.n<=x:=by
     obtain⟨⟨t,ht,hx⟩,_⟩:=ae;simpa [ht] using hx
    have hold:∀ i,i<h.n->q.1.get i=h'.get i:=λi hi=>by rw[g3 i hi,CH.q0v (h:=⟨h'.t,h.n⟩) hi,CH.q0v (by omega)]
    have ke:(x.2.toHeap rs).n=h.n+q.2.length:=by show x.2.n=_;rw[<-h2,g1]
    have sC:∀ i,(x.2.toHeap rs).get i=(q.1.get i).map (EB.to (rs i)):=λi=>by show (x.2.get i).map _=_;rw[<-h3 i]
    rw[<-h1];refine DropTo.rename (gcP h.n q.2) (by rw[ke,<-hs.n];omega) (λi hi=>?_) (λi iG iS=>?_) (λi j iG iS ky dD he=>?_) (by rw[ke];exact f2 q.2 g0.sub)
    .rw[<-hs.n] at hi;refine⟨by simp[gcP,hi],by rw[sC,hold i hi,aZ.get,hr i hi],?_⟩;have:=er i hi;rw[aZ.get,hs.get];split at this
     .rename_i e1 e2;rw[e1,e2];exact .inl rfl
     .rename_i a b e1 e2;rw[e1,e2];rw[zC] at this;rcases this with hb|hb
      .exact .inr ⟨_,rfl,(F6 hb).1⟩
      .rw[EB.beq_eq hb,hr i hi];exact .inl rfl
     .cases this
    .rw[<-hs.n] at iG;rw[ke] at iS;obtain⟨b,b',e1,e2,e3⟩:=g4 (i-h.n) (by omega) (by omega);have jF:gcP h.n q.2 i=q.2.getD (i-h.n) 0:=by simp[gcP,wI.2 iG]
     have aO:q.2.getD (i-h.n) 0∈q.2:=by
      have:i-h.n<q.2.length:=by omega
      simp[ze,this]
     rw[show h.n+(i-h.n)=i by omega] at e2;rw[jF];refine⟨by rw[<-hs.n];exact bn _ aO,b'.to (rs i),b.to (bp (q.2.getD (i-h.n) 0)),by rw[sC,e2];rfl,by rw[aZ.get,e1];rfl,by rw[ke];exact e3 _ _⟩
    .rw[<-hs.n] at iG ky;rw[ke] at iS dD;simp only[gcP,wI.2 iG,wI.2 ky,if_false] at he;have jG:i-h.n<q.2.length:=by omega
     have nc:j-h.n<q.2.length:=by omega
     simp only[ze,z6 jG,z6 nc,Option.getD_some] at he;have:=(List.getElem_inj (h₀:=jG) (h₁:=nc) ka).1 he;omega
   .cases hq
theorem H_ {a m d:Nat}{g:Value->Option Value}(hg:∀ v u,g v=some u->Sh a m d v u):∀ (vs us:List Value),Q96 g vs=some us->vs.length=us.length/\∀ (i:Nat) (v u:Value),vs[i]?=some v->us[i]?=some u->Sh a m d v u
 |[],us,h=>by obtain rfl:=osj h;exact⟨rfl,λi v u h=>by simp at h⟩
 |v::vs,us,h=>by
  simp only[Q96] at h;split at h
  .cases h
  .rename_i u hu;split at h
   .cases h
   .rename_i jH du;obtain rfl:=osj h;obtain⟨h1,h2⟩:=H_ hg vs jH du;refine⟨by simp[h1],λi v' u' gS cB=>?_⟩;cases i with
    |zero=>simp at gS cB;subst gS;subst cB;exact hg _ _ hu
    |succ i=>exact h2 i v' u' (by simpa using gS) (by simpa using cB)
theorem Q0m (a m d:Nat):∀ (f:Nat) (v u:Value),shX a m d f v=some u->Sh a m d v u:=by
 intro f;induction f with
 |zero=>intro v u h;cases h
 |succ f ih =>
  intro v u h;unfold shX at h;split at h
  .split at h
   .rename_i hc;obtain rfl:=osj h;exact .ptr _ _ hc.1 hc.2
   .cases h
  .split at h
   .rename_i hc;obtain rfl:=osj h;exact .sl _ _ _ _ hc.1 hc.2
   .cases h
  .split at h
   .rename_i p hp;obtain rfl:=osj h;obtain⟨h1,h2⟩:=H_ ih _ _ hp;exact .agg _ _ (by simpa using h1) λi k1 k2=>h2 i _ _ (by simp) (by simp)
   .cases h
  .split at h
   .rename_i p hp;obtain rfl:=osj h;obtain⟨h1,h2⟩:=H_ ih _ _ hp;exact .tuple _ _ (by simpa using h1) λi k1 k2=>h2 i _ _ (by simp) (by simp)
   .cases h
  .split at h
   .rename_i hc;obtain rfl:=osj h;exact .plain _ hc
   .cases h
theorem HS {rs:VZ}{h:CH}{U:Heap}(hs:CSim rs h U):∀ (m:List PB) (k:Nat) (refs r:List Nat),TO h k refs m=some r ->
  Sub refs r/\r.length=k+m.length/\∀ i b,m[i]?=some b->∃ wr c',U.get (r.getD (k+i) 0)=some (.cells c' b.esz wr b.tight)/\LRen r.length (gcP 0 r) b.c c'
 |[],k,refs,r,hb=>by
  simp only[TO] at hb;split at hb
  .rename_i hl;obtain rfl:=osj hb;exact⟨⟨[],by simp⟩,by simp[hl],λi b h=>by simp at h⟩
  .cases hb
 |b::m,k,refs,r,hb=>by
  simp only[TO] at hb;split at hb
  .rename_i hk;split at hb
   .rename_i c e w t hg;split at hb
    .rename_i p hp;split at hb
     .rename_i hc;simp only[z7,zk,zT] at hc;obtain⟨rfl,rfl,h3⟩:=hc;have h3:=Uj (NQ 20) _ _ h3;obtain⟨s1,s2⟩:=Yo (GW 0 8) _ _ _ hp;obtain⟨i1,i2,i3⟩:=HS hs m (k+1) p.2 r hb;have gJ:=s1.sub.trans i1;refine⟨gJ,by rw[i2,xi];omega,λi b' bP=>?_⟩;cases i with
      |zero =>
       have bP:b=b':=by simpa using bP
       subst bP;obtain⟨u,hu⟩:=gJ;have eu:r.getD (k+0) 0=refs.getD k 0:=by rw[hu,zL,ze,ze,xe hk]
       have hl:=s2 r i1;rw[h3,x3] at hl;exact⟨w,c,by rw[eu];exact hs.cells hg,hl⟩
      |succ i =>
       have:=i3 i b' (by simpa using bP)
       rwa [show k+1+i=k+(i+1) by omega] at this
     .cases hb
    .cases hb
   .cases hb
  .cases hb
theorem Ma {rs:VZ}:∀ (fr:List PB) {h:CH}{U:Heap},CSim rs h U->h.n+fr.length<=1000000000->CSim rs (X6 fr h) (XH U fr)/\(X6 fr h).n=h.n+fr.length
 |[],h,U,hs,_=>by
  have:XH U []=U:=Heap.ext' (λj=>by
   show (if j<U.n then U.get j else _)=_;split
   .rfl
   .rename_i hj;rw[U.wf j (by omega)];simp) rfl
  rw[this];exact⟨hs,rfl⟩
 |b::l,h,U,hs,hr=>by
  have hr:h.n+(l.length+1)<=1000000000:=hr;have hn:=hs.n;have h1:CSim rs (h.push (.cells b.c b.esz true b.tight)) (U.push (b.blk true)):=hs.push (Nat.ble_eq_true_of_le (by omega)) rfl;obtain⟨h2,h3⟩:=Ma l h1 (by show h.n+1+_<=_;omega);refine⟨?_,by rw[show X6 (b::l) h=X6 l (h.push (.cells b.c b.esz true b.tight)) from rfl,h3];show h.n+1+l.length=h.n+(l.length+1);omega⟩;have:XH U (b::l)=XH (U.push (b.blk true)) l:=Heap.ext' (λj=>by
   show (if j<U.n then U.get j else _)=(if j<U.n+1 then (U.push (b.blk true)).get j else _);rcases Nat.lt_trichotomy j U.n with hj|hj|hj
   .rw[z8 hj,z8 (by omega),Heap.q0i _ _ hj]
   .subst hj;rw[zd (by omega),z8 (by omega),Heap.q0a];simp
   .rw[zd (by omega),zd (by omega)];rw[show j-U.n=(j-(U.push (b.blk true)).n)+1 by simp;omega];rfl) (by simp[XH];omega)
  rw[this];exact h2
theorem PC {h:CH}{args:List Value}{refs:List Nat}:∀ (ms:List Memo) (m:Memo),Cw h args refs ms=some m->m∈ms/\args=m.args/\(TO h 0 refs m.bl).isSome=true
 |[],m,h=>by cases h
 |m0::ms,m,h=>by
  simp only[Cw] at h;split at h
  .rename_i hc;obtain rfl:=osj h;rw[z7] at hc;exact⟨zq,Uj (NQ 20) _ _ hc.1,hc.2⟩
  .obtain⟨h1,h2⟩:=PC ms m h;exact⟨zi _ h1,h2⟩
theorem T5 {f:FuncId}{args:List Value}{ms:List Memo}(hm:∀ m∈ms,NX P f m) {rs:VZ}{h:CH}{U:Heap}(hs:CSim rs h U) {p:Value×CH}(hp:RH h args ms=some p)
  {K:Value->Heap->Prop}(hK:∀ U',h.n<=p.2.n->CSim rs p.2 U'->K p.1 U'):VCalled P f args U K:=by
 unfold RH at hp;split at hp
 .cases hp
 .rename_i q hq;split at hp
  .cases hp
  .rename_i m lU;obtain⟨h1,h2,h3⟩:=PC ms m lU;obtain⟨k1,k3⟩:=hm m h1;obtain⟨r,jy⟩:=Option.isSome_iff_exists.1 h3;obtain⟨l0,l1,l2⟩:=HS hs _ _ _ _ jy;rw[x3] at l1;split at hp
   .cases hp
   .rename_i hr;have hr:=zG hr;split at hp
    .rename_i v hv;obtain rfl:=osj hp;obtain⟨s1,s2⟩:=Ma m.fr hs hr;have hx:=(Yo (GW 0 8) _ _ _ hq).2 r l0;rw[h2,l1] at hx;refine VCalled.localize (π:=gcP 0 r) k1 k3 (λi b hb=>?_) (by simpa using hx) ?_ (hK _ (by rw[s2];omega) s1)
     .obtain⟨wr,c',g1,g2⟩:=l2 i b hb;rw[l1] at g2;exact⟨wr,c',by simpa [gcP] using g1,g2⟩
     .have:=Q0m _ _ _ _ _ _ hv
      rwa [hs.n] at this
    .cases hp
theorem Gr (hm:P.follows .mixedOrders=true) (hT:TabOk P T) (cZ:Sd P ev) (hG:Good R G) {ys:Ys}{f:FuncId}{args:List Value}{h:CH}{k:Value->CH->A}{rs:VZ}{U:Heap}{K:Value->Heap->Prop}
  (hY:YOk P ys rs h.n) (hs:CSim rs h U) (he:G (Bh T ev R ys f args h k)) (hk:Q68 G rs h k K):VCalled P f args U K:=by
 unfold Bh at he;split at he
 .rename_i vc rl nt hf;have hF:=hT.code f vc rl nt hf;split at he
  .rename_i hb;exact hF.calls hm GC (cZ R G hG ys vc none _ _ h _ rs U _ hY hs (ET.q1q (zG hb)) he (Mk hG hk))
  .exact(hG.fail he).elim
 .rename_i vc rl nt hf;have hF:=hT.codeJ f vc rl nt hf;split at he
  .rename_i hb;split at he
   .rename_i x hx;split at he
    .rename_i hc;have aY:x.2.n<=1000000000:=zG hc.1;have hK:=hk x.1 x.2 rs _ (zG hc.2) (λ_ _=>rfl) (Be (by omega)) he;refine hF.calls hm GC (cZ joinOps (Ar x) (RM x) ys vc none _ _ h _ rs U _ hY hs (ET.q1q (zG hb)) (show Ar x _ from ⟨x,hx,rfl,rfl,λ_=>rfl⟩) ?_);intro e dU h' bp U' af hn hr aZ b_ _ hg;have fin:Ar x (match Ml dU h' rl with|some v=>Sc h h' v|none=>none)->QS (Zu af U' rl) λv=>∃ v' aE,DropTo U v U' v' aE/\K v' aE:=by
      rintro⟨y,hy,h1,h2,h3⟩;split at hy
      .rename_i v hv;rw[MU aZ b_ hv];exact⟨_,_,By hs aZ hr hy h1 h2 h3,hK⟩
      .cases hy
     cases e with
     |normal=>exact fin hg
     |ret=>exact fin hg
     |_=>obtain⟨y,hy,_⟩:=hg;cases hy
    .exact(hG.fail he).elim
   .exact(hG.fail he).elim
  .exact(hG.fail he).elim
 .rename_i vc rl nt ms hf;obtain⟨hF,hM⟩:=hT.codeM f vc rl nt ms hf;split at he
  .rename_i p hp;exact T5 hM hs hp λU' hn aZ=>hk _ _ rs U' hn (λ_ _=>rfl) aZ he
  .split at he
   .rename_i hb;exact hF.calls hm GC (cZ R G hG ys vc none _ _ h _ rs U _ hY hs (ET.q1q (zG hb)) he (Mk hG hk))
   .exact(hG.fail he).elim
 .rename_i hf;split at he
  .rename_i v;exact hT.same f hf v U K (hk v h rs U (zf _) (λ_ _=>rfl) hs he)
  .exact(hG.fail he).elim
 .exact(hG.fail he).elim
theorem RB (hm:P.follows .mixedOrders=true) (cZ:Sd P ev) (hG:Good R G) {ys:Ys}{f:FuncId}{vc:VCode}{rl:List VResult}{nt:Nat}(hf:T f=some (.code vc rl nt)) (hF:Fun P f vc rl nt) {args:List Value}{h:CH}{k:Value->CH->A}{rs:VZ}{U:Heap}{K:Value->Heap->Prop}
  (hY:YOk P ys rs h.n) (hs:CSim rs h U) (he:G (Bh T ev R ys f args h k)) (hk:Q68 G rs h k K):VCallsTo P f args U K:=by
 unfold Bh at he;rw[hf] at he;simp only at he;split at he
 .rename_i hb;exact hF.callsTo hm GC (cZ R G hG ys vc none _ _ h _ rs U _ hY hs (ET.q1q (zG hb)) he (Mk hG hk))
 .exact(hG.fail he).elim
theorem S3 (cZ:Sd P ev) (hG:Good R G) {ys:Ys}{i:Nat}{args:List Value}{h:CH}{k:Value->CH->A}{rs:VZ}{U:Heap}{K:Value->Heap->Prop}
  (hY:YOk P ys rs h.n) (hs:CSim rs h U) (he:G (II ev R ys i args h k)) (hk:Q68 G rs h k K):VYields P i args U K:=by
 unfold II at he;split at he
 .rename_i c hc;obtain⟨aO,l5,ai⟩:=hY i c hc;split at he
  .rename_i hg;split at he
   .rename_i hlen;refine ai args U K ⟨hs.lp hg,hlen,?_⟩;refine cZ R G hG ys c.a (some i) _ _ h _ rs U _ hY hs (Tx c.ps args l5) he ?_;intro e ly h1 fR σ1 bC fL gf kz ga _ iB;cases e with
    |normal =>
     simp only[Q22] at iB;split at iB
     .rename_i iH;have e1:fR i=rs i:=gf i aO;have oq:=kz.lp iH;rw[e1] at oq;refine⟨oq,?_⟩;have iG:=kz.lt iH;refine cZ R G hG ys c.b (some i) ly bC _ _ fR _ _ (hY.mono (n':=(h1.upd i (.lp .busy none)).n) fL gf) (kz.upd iG (b:=.lp .busy none) (by rw[EB.to,e1])) ga iB ?_;intro e2 gh h2 eL σ2 aU dT ec dL gi _ cO;have me:h1.n<=h2.n:=dT;have jI:eL i=rs i:=(ec i iG).trans e1;unfold Iy at cO;split at cO
      .rename_i ot;have iS:=dL.lt ot;have ou:=dL.lp ot;rw[jI] at ou;refine⟨ou,?_⟩;have agree:∀ j,j<h.n->eL j=rs j:=λj hj=>(ec j (xj hj fL)).trans (gf j hj);cases e2 with
       |normal=>exact hk _ (h2.upd i (.lp .ready none)) eL _ (zX fL me) agree (dL.upd iS (b:=.lp .ready none) (by simp only[EB.to,jI])) cO
       |ret=>exact hk _ (h2.upd i (.lp .done (some .ret))) eL _ (zX fL me) agree (dL.upd iS (b:=.lp .done (some .ret)) (by simp only[EB.to,jI])) cO
       |exit id=>exact hk _ (h2.upd i (.lp .done (some (.exit id)))) eL _ (zX fL me) agree (dL.upd iS (b:=.lp .done (some (.exit id))) (by simp only[EB.to,jI])) cO
       |_=>exact(hG.fail cO).elim
      .exact(hG.fail cO).elim
     .exact(hG.fail iB).elim
    |_=>exact(hG.fail iB).elim
   .exact(hG.fail he).elim
  .exact(hG.fail he).elim
 .exact(hG.fail he).elim
theorem Bk (hG:Good R G) {i m since clock:Nat}{seen:List Nat}{h:CH}{k:Value->CH->A}:∀ (es:List Jx),
  (∀ e∈es,seen.contains e.2.2=true)/\MV R i m since clock seen h k es=none \/
  ∃ a,MV R i m since clock seen h k es=some a/\(G a->∀ e∈es,seen.contains e.2.2=false->G (k (.tuple #[.bool true,e.1,e.2.1]) (h.upd i (.iter m since (seen++[e.2.2]) clock))))
 |[]=>.inl ⟨λ_ h=>(by cases h),rfl⟩
 |e::es=>by
  have ih:=Bk hG (i:=i) (m:=m) (since:=since) (clock:=clock) (seen:=seen) (h:=h) (k:=k) es;by_cases hc:seen.contains e.2.2=true
  .have he:MV R i m since clock seen h k (e::es)=MV R i m since clock seen h k es:=by rw[MV,z8 hc]
   rw[he];rcases ih with⟨h1,h2⟩|⟨a,h1,h2⟩
   .exact .inl ⟨λx hx=>by rcases zo.1 hx with rfl|hx;exact hc;exact h1 x hx,h2⟩
   .refine .inr ⟨a,h1,λmf x hx bu=>?_⟩;rcases zo.1 hx with rfl|hx
    .rw[hc] at bu;cases bu
    .exact h2 mf x hx bu
  .rcases ih with⟨h1,h2⟩|⟨a,h1,h2⟩
   .refine .inr ⟨k (.tuple #[.bool true,e.1,e.2.1]) (h.upd i (.iter m since (seen++[e.2.2]) clock)),by rw[MV,zd hc,h2],λmf x hx bu=>?_⟩;rcases zo.1 hx with rfl|hx
    .exact mf
    .rw[h1 x hx] at bu;cases bu
   .refine .inr ⟨R.both (k (.tuple #[.bool true,e.1,e.2.1]) (h.upd i (.iter m since (seen++[e.2.2]) clock))) a,by rw[MV,zd hc,h1],λmf x hx bu=>?_⟩;obtain⟨g1,g2⟩:=hG.both _ _ mf;rcases zo.1 hx with rfl|hx
    .exact g1
    .exact h2 g2 x hx bu
theorem C9 (hG:Good R G) {x:Value}{h:CH}{k:Value->CH->A}{rs:VZ}{U:Heap}{K:Value->Heap->Prop}(hs:CSim rs h U) (he:G (Q54 R x h k)) (hk:Q68 G rs h k K):C6 x U K:=by
 unfold Q54 at he;unfold C6;split at he
 .rename_i i;split at he
  .rename_i m since seen last hg;have hi:=hs.lt hg;simp only[hs.iter hg];split at he
   .rename_i es clock wr iq;obtain⟨k1,_⟩:=hs.mapAt iq;simp only[k1];split at he
    .rename_i hc;refine⟨hc.1,hc.2,?_⟩;rcases Bk hG (i:=i) (m:=m) (since:=since) (clock:=clock) (seen:=seen) (h:=h) (k:=k) es with⟨h1,h2⟩|⟨a,h1,h2⟩
     .rw[h2] at he;simp only at he;split at he
      .exact⟨λ_=>hk _ _ rs U (zf _) (λ_ _=>rfl) hs he,λe gL mg=>by rw[h1 e gL] at mg;cases mg⟩
      .exact(hG.fail he).elim
     .rw[h1] at he;simp only at he;have key:G a->∀ e∈es,seen.contains e.2.2=false->K (.tuple #[.bool true,e.1,e.2.1]) (U.upd i (.obj (.iter m since (seen++[e.2.2]) clock) true)):=λmf e gL mg =>
       hk _ (h.upd i (.iter m since (seen++[e.2.2]) clock)) rs _ (zf _) (λ_ _=>rfl) (hs.upd hi rfl) (h2 mf e gL mg)
      split at he
      .obtain⟨g1,g2⟩:=hG.both _ _ he;exact⟨λ_=>hk _ _ rs U (zf _) (λ_ _=>rfl) hs g1,key g2⟩
      .rename_i hn;exact⟨λhh=>absurd hh hn,key he⟩
    .exact(hG.fail he).elim
   .exact(hG.fail he).elim
  .exact(hG.fail he).elim
 .exact(hG.fail he).elim
theorem Tw (hm:P.follows .mixedOrders=true) (hT:TabOk P T) (cZ:Sd P ev) (hG:Good R G) {ys:Ys}{o:VOp}{et:ET}{env:Env}(hE:FRel et env) {h:CH}{k:Value->CH->A}{rs:VZ}{U:Heap}{K:Value->Heap->Prop}
  (hY:YOk P ys rs h.n) (hs:CSim rs h U) (he:G (Q5c T ev R ys o et h k)) (hk:Q68 G rs h k K):vop (Q2 P) o env U K:=by
 have aj:=Hb hE;have other:∀ o':VOp,G (Fc R (LJ o' (Gm et) h) k)->QS (Q6 o' (Q3 env) U) λp=>K p.1 p.2:=by
  intro o' hg;rw[aj] at hg;unfold Fc at hg;split at hg
  .rename_i p hp;obtain⟨h1,U',h2,h3⟩:=Kv hs hp;rw[h2];exact hk _ _ rs U' h1 (λ_ _=>rfl) h3 hg
  .exact(hG.fail hg).elim
 cases o
 case callF f args =>
  simp only[Q5c,aj] at he;exact Gr hm hT cZ hG hY hs he hk
 case callV f args =>
  simp only[Q5c,aj] at he;simp only[vop];unfold Q11 at he;split at he
  .rename_i g first cap hg
   simp only[hg];exact Gr hm hT cZ hG hY hs he hk
  .rename_i i first cap hg
   simp only[hg];exact S3 cZ hG hY hs he hk
  .exact(hG.fail he).elim
 case ext x =>
  cases x
  case nextMap x =>
   simp only[Q5c,aj] at he;exact C9 hG hs he hk
  case delete a b c=>exact other (.ext (.delete a b c)) he
  case mapEntry a z b c=>exact other (.ext (.mapEntry a z b c)) he
  case entryStore a b c=>exact other (.ext (.entryStore a b c)) he
  all_goals exact other _ he
 case move a=>exact other (.move a) he
 case makeFunc a b c=>exact other (.makeFunc a b c) he
 case bad=>exact other .bad he
 all_goals exact other _ he
theorem Hn (hm:P.follows .mixedOrders=true) (hT:TabOk P T) (cZ:Sd P ev) (hG:Good R G) {ys:Ys}{k:ET->CH->A}{K:Env->Heap->Prop}:∀ (ops:List VOper) (et:ET) (env:Env) (h:CH) (rs:VZ) (U:Heap),
  YOk P ys rs h.n->CSim rs h U->FRel et env->G (Fj T ev R ys ops et h k)->Oi G rs h (List.length env) k K->DT (Q2 P) ops env U K:=by
 intro ops;induction ops with
 |nil=>intro et env h rs U hY hs hE he hk;exact hk et h rs U env (zf _) (λ_ _=>rfl) hs hE rfl he
 |cons o rest ih =>
  intro et env h rs U hY hs hE he hk
  have he:G (match FY et o.guard with
   |none=>R.fail
   |some true=>Q5c T ev R ys o.op et h λv h'=>Fj T ev R ys rest (et.put o.dst v) h' k
   |some false=>Fj T ev R ys rest (et.put o.dst undef) h k):=he
  rw[CR hE] at he;simp only[DT];split at he
  .exact(hG.fail he).elim
  .rename_i hw;rw[hw];refine⟨λ_=>?_,λhh=>by cases hh⟩;refine Tw hm hT cZ hG hE hY hs he ?_;intro v h' bp U' hn hr aZ hg;refine ih _ _ h' bp U' (hY.mono hn hr) aZ (hE.put _ _) hg ?_;intro gh h2 eL σ2 aU dT ec dL gi hl cO;exact hk gh h2 eL σ2 aU (zX hn dT) (λi hi=>(ec i (by omega)).trans (hr i hi)) dL gi (by rw[hl,Zs]) cO
  .rename_i hw;rw[hw];refine⟨λhh=>(by cases hh),λ_=>?_⟩;refine ih _ _ h rs U hY hs (hE.put _ _) he ?_;intro gh h2 eL σ2 aU dT ec dL gi hl cO;exact hk gh h2 eL σ2 aU dT ec dL gi (by rw[hl,Zs]) cO
def CSims (rs:VZ) (n:Nat):List CH->List Heap->Prop
 |[],[]=>True
 |h::hs,U::σs=>(CSim rs h U/\h.n<=n)/\CSims rs n hs σs
 |_,_=>False
theorem CSims.mono {rs bp:VZ}{n n':Nat}(hn:n<=n') (hr:∀ i,i<n->bp i=rs i):∀ {hs:List CH}{σs:List Heap},CSims rs n hs σs->CSims bp n' hs σs
 |[],[],_=>trivial
 |h::hs,U::σs,⟨⟨h1,h2⟩,h3⟩=>⟨⟨h1.rs λi hi=>hr i (by omega),by omega⟩,CSims.mono hn hr h3⟩
 |[],_::_,h=>h.elim
 |_::_,[],h=>h.elim
theorem CSims.snoc {rs:VZ}{n:Nat}{h:CH}{U:Heap}(hs:CSim rs h U) (hn:h.n<=n):∀ {hl:List CH}{σl:List Heap},CSims rs n hl σl->CSims rs n (hl++[h]) (σl++[U])
 |[],[],_=>⟨⟨hs,hn⟩,trivial⟩
 |_::_,_::_,⟨h1,h2⟩=>⟨h1,CSims.snoc hs hn h2⟩
 |[],_::_,h=>h.elim
 |_::_,[],h=>h.elim
theorem BC {rs:VZ}{h:CH}{U:Heap}(hs:CSim rs h U) {op:VOp}{ev:Operand->Value}{v:Value}(hr:Cz op ev v h=true):JV op ev v U:=by
 unfold Cz at hr;split at hr
 .rename_i q hq;obtain⟨_,U',h2,_⟩:=Kv hs hq;unfold JV;rw[h2];exact NQ _ _ _ hr
 .cases hr
def OZ:List (Nat×(CH->Bool))->List (Nat×(Heap->Prop))->Prop
 |[],[]=>True
 |c::l,d::m=>(c.1=d.1/\∀ rs h U,CSim rs h U->c.2 h=true->d.2 U)/\OZ l m
 |_,_=>False
theorem Ge {rs:VZ}{h:CH}{U:Heap}(hs:CSim rs h U) {r:Nat}:∀ {l:List (Nat×(CH->Bool))}{m:List (Nat×(Heap->Prop))},OZ l m->FD r h l=true->JP r U m
 |[],[],_,_=>trivial
 |c::l,d::m,⟨⟨h1,h2⟩,h3⟩,he=>by
  simp only[FD,z7,zC,Bool.not_eq_true'] at he;refine⟨λhr=>h2 rs h U hs ?_,Ge hs h3 he.2⟩;rcases he.1 with h|h
  .rw[h1,Nat.ble_eq_true_of_le hr] at h;cases h
  .exact h
 |[],_::_,h,_=>h.elim
 |_::_,[],h,_=>h.elim
theorem CSims.mem {rs:VZ}{n:Nat}:∀ {hl:List CH}{σl:List Heap},CSims rs n hl σl->∀ (f:CH->Bool) (Q:Heap->Prop),(∀ rs h U,CSim rs h U->f h=true->Q U)->∀ j,(hl.drop j).all f=true->∀ Z∈σl.drop j,Q Z
 |[],[],_,_,_,_,_,_,Z,hτ=>by simp at hτ
 |h::hl,U::σl,⟨h1,h2⟩,f,Q,hQ,0,ha,Z,hτ=>by
  simp only[x5,zW,z7,zo] at ha hτ;rcases hτ with rfl|hτ
  .exact hQ rs h Z h1.1 ha.1
  .exact CSims.mem h2 f Q hQ 0 (by simpa using ha.2) Z (by simpa using hτ)
 |h::hl,U::σl,⟨h1,h2⟩,f,Q,hQ,j+1,ha,Z,hτ=>CSims.mem h2 f Q hQ j (by simpa using ha) Z (by simpa using hτ)
 |[],_::_,h,_,_,_,_,_,_,_=>h.elim
 |_::_,[],h,_,_,_,_,_,_,_=>h.elim
theorem CSims.length {rs:VZ}{n:Nat}:∀ {hl:List CH}{σl:List Heap},CSims rs n hl σl->hl.length=σl.length
 |[],[],_=>rfl
 |_::_,_::_,⟨_,h⟩=>by simp[CSims.length h]
 |[],_::_,h=>h.elim
 |_::_,[],h=>h.elim
theorem Bn (hm:P.follows .mixedOrders=true) (hT:TabOk P T) (cZ:Sd P ev) (hG:Good R G) {ys:Ys}{k:ET->CH->A}{K:Env->Heap->Prop}:∀ (ops:List DOper) (et:ET) (env:Env) (hl:List CH) (h:CH) (pe:List (Nat×(CH->Bool))) (rs:VZ) (σl:List Heap) (U:Heap) (pv:List (Nat×(Heap->Prop))),
  YOk P ys rs h.n->CSim rs h U->FRel et env->CSims rs h.n hl σl->OZ pe pv->G (ML T ev R ys ops et hl h pe k)->Oi G rs h (List.length env) k K->Zp (Q2 P) ops env σl U pv K:=by
 intro ops;induction ops with
 |nil=>intro et env hl h pe rs σl U pv hY hs hE mh hp he hk;exact hk et h rs U env (zf _) (λ_ _=>rfl) hs hE rfl he
 |cons o rest ih =>
  intro et env hl h pe rs σl U pv hY hs hE mh eD he hk;have aj:=Hb hE;simp only[ML,CR hE,aj] at he;simp only[Zp];have hlen:=mh.length;split at he
  .exact(hG.fail he).elim
  .rename_i hw;rw[hw];refine⟨λ_=>?_,λhh=>by cases hh⟩;split at he
   .rename_i av;rw[z8 av];split at he
    .rename_i p hp;split at he
     .rename_i mi;obtain⟨fS,qU⟩:=mi;simp only[CH.newOk,z7,zg] at fS;obtain⟨n1,n2,n3⟩:=fS;have n1:h.n<=p.2.n:=zG n1;have n2:p.2.n<=1000000000:=zG n2;have mj:CSim rs p.2 (p.2.toHeap rs):=Be (by omega);refine .inl ⟨p.1,p.2.toHeap rs,?_,?_,?_⟩
      .refine Tw hm hT cZ (Q5f p) hE hY hs hp ?_;intro v h' bp U' hn hr aZ hg;have hg:(v,h')=p:=osj hg;subst hg;refine⟨rfl,?_⟩;have:CSim rs h' U':=by
        refine⟨aZ.n,aZ.sm,λi=>?_⟩;rw[aZ.get];cases iH:h'.get i with
        |none=>rfl
        |some b =>
         rcases zn i h.n with hi|hi
         .rw[hr i hi]
         .have aO:=aZ.lt iH;have:=n3 i (List.mem_range'_1.2 ⟨hi,by simp at n1 |-;omega⟩);simp only[iH] at this;cases b<;>first|rfl|cases this
       exact this.eq
      .rw[<-hlen];exact Ge mj eD qU
      .refine ih _ _ _ p.2 pe rs _ _ pv (hY.mono n1 (λ_ _=>rfl)) mj (hE.put _ _) ((mh.mono n1 (λ_ _=>rfl)).snoc mj (zf _)) eD he ?_;intro gh h2 eL σ2 aU dT ec dL gi cu cO;exact hk gh h2 eL σ2 aU (zX n1 dT) (λi hi=>ec i (by omega)) dL gi (by rw[cu,Zs]) cO
     .exact(hG.fail he).elim
    .exact(hG.fail he).elim
   .rename_i av;rw[zd av];have done:∀ (u:Value) (pL:List (Nat×(CH->Bool))) (pM:List (Nat×(Heap->Prop))),OZ pL pM->G (ML T ev R ys rest (et.put o.dst u) hl h pL k)->Zp (Q2 P) rest (X0 env o.dst u) σl U pM K:=by
     intro u pL pM bA hg;refine ih _ _ hl h pL rs σl U pM hY hs (hE.put _ _) mh bA hg ?_;intro gh h2 eL σ2 aU dT ec dL gi cu cO;exact hk gh h2 eL σ2 aU dT ec dL gi (by rw[cu,Zs]) cO
    split at he
    .rename_i bw;rw[z8 bw];split at he
     .rename_i p hp;split at he
      .rename_i ae;obtain⟨_,U',h2,_⟩:=Kv hs hp;rw[h2];refine⟨mh.mem _ _ (λrs h U hc hf=>BC hc hf) _ ae,?_⟩;refine done _ _ _ ?_ he;rw[<-hlen];split
       .exact⟨⟨rfl,λrs h U hc hf=>BC hc hf⟩,eD⟩
       .exact eD
      .exact(hG.fail he).elim
     .exact(hG.fail he).elim
    .rename_i bw;rw[zd bw];split at he
     .rename_i p hp;obtain⟨_,U',h2,_⟩:=Kv hs hp;rw[h2];exact done _ _ _ eD he
     .exact(hG.fail he).elim
  .rename_i hw;rw[hw];refine⟨λhh=>(by cases hh),λ_=>?_⟩;split at he
   .rename_i av;rw[z8 av];split at he
    .rename_i qU;refine⟨by rw[<-hlen];exact Ge hs eD qU,?_⟩;refine ih _ _ _ h pe rs _ U pv hY hs (hE.put _ _) (mh.snoc hs (zf _)) eD he ?_;intro gh h2 eL σ2 aU dT ec dL gi cu cO;exact hk gh h2 eL σ2 aU dT ec dL gi (by rw[cu,Zs]) cO
    .exact(hG.fail he).elim
   .rename_i av;rw[zd av];refine ih _ _ _ h pe rs _ U pv hY hs (hE.put _ _) mh eD he ?_;intro gh h2 eL σ2 aU dT ec dL gi cu cO;exact hk gh h2 eL σ2 aU dT ec dL gi (by rw[cu,Zs]) cO
theorem ET.q2k {e:ET}{env:Env}(h:FRel e env):e.list=env:=by
 apply zV;intro i;unfold ET.list;rw[zU];rcases zn i e.m with hi|hi
 .rw[List.getElem?_range hi];have:=h.get i;rw[h.m] at hi;rw[ze,z6 hi] at this;rw[z6 hi,z_,<-this];rfl
 .rw[zm (by simpa using hi),zm (by rw[<-h.m];exact hi)];rfl
theorem R2 {ρ:Plc}{n:Nat}{vs:Array Value}{cs:List Value}(h:VRel ρ n (.tuple vs) (.tuple cs.toArray)):LRel ρ n vs.toList cs:=by
 obtain⟨ds,he,hl⟩:=h.q1j;have:cs.toArray=ds:=by injection he
 subst this;simpa using hl
theorem Sw (hm:P.follows .mixedOrders=true) (hT:TabOk P T) (cZ:Sd P ev) {ys:Ys}{x:Value×CH}{vs:Array Value}(kj:x.1=.tuple vs) {K:Env->Heap->Prop}{et:ET}{env:Env}{h:CH}{rs:VZ}{U:Heap}(hY:YOk P ys rs h.n) (hs:CSim rs h U) (hE:FRel et env)
  (hk:K vs.toList (x.2.toHeap rs)):∀ (alts:List (List DOper)),Ar x (CW T ev ys et h alts)->∀ ops∈alts,Zp (Q2 P) ops env [U] U [] λbC σ1=>∃ aU σ2,DropE U bC σ1 aU σ2/\K aU σ2:=by
 have one:∀ a:List DOper,Ar x (Q5u T ev ys et h a)->Zp (Q2 P) a env [U] U [] λbC σ1=>∃ aU σ2,DropE U bC σ1 aU σ2/\K aU σ2:=by intro a ha;refine Bn hm hT cZ (RM x) a et env [h] h [] rs [U] U [] hY hs hE ⟨⟨hs,zf _⟩,trivial⟩ trivial ha ?_;intro dU h' bp U' af hn hr aZ b_ hl hg;obtain⟨y,hy,h1,h2,h3⟩:=hg;unfold Q9j at hy;have hd:=By hs aZ hr hy h1 h2 h3;rw[ET.q2k b_,kj] at hd;refine⟨vs.toList,x.2.toHeap rs,?_,hk⟩;intro ρ0 w0 ρ w cs gG qC hH hL;obtain⟨ρ',d1,d2,d3⟩:=hd ρ0 w0 ρ w (.tuple cs.toArray) gG qC hH (VRel.q0j hL);exact⟨ρ',R2 d1,d2,d3⟩
 intro alts;induction alts with
 |nil=>rintro⟨y,hy,_⟩;cases hy
 |cons a l ih =>
  intro he ops ho;cases l with
  |nil =>obtain rfl:=zp.1 ho;exact one _ he
  |cons b r =>
   obtain⟨g1,g2⟩:=(RM x).both _ _ he;rcases zo.1 ho with rfl|ho
   .exact one _ g1
   .exact ih g2 ops ho
theorem Si (hm:P.follows .mixedOrders=true) (hT:TabOk P T) (cZ:Sd P ev) (hG:Good R G) {ys:Ys}{k:ET->CH->A}{K:Env->Heap->Prop}:∀ (aS:List DSeg) (et:ET) (env:Env) (h:CH) (rs:VZ) (U:Heap),
  YOk P ys rs h.n->CSim rs h U->FRel et env->G (PD T ev R ys aS et h k)->Oi G rs h (List.length env) k K->Mt (Q2 P) aS env U K:=by
 intro aS;induction aS with
 |nil=>intro et env h rs U hY hs hE he hk;exact hk et h rs U env (zf _) (λ_ _=>rfl) hs hE rfl he
 |cons x rest ih =>
  intro et env h rs U hY hs hE he hk;have next:Oi G rs h (List.length env) (λet h=>PD T ev R ys rest et h k) (λenv U=>Mt (Q2 P) rest env U K):=by intro ly h1 fR σ1 bC fL gf kz ga ff iB;refine ih ly bC h1 fR σ1 (hY.mono fL gf) kz ga iB ?_;intro gh h2 eL σ2 aU dT ec dL gi cu cO;exact hk gh h2 eL σ2 aU (zX fL dT) (λi hi=>(ec i (by omega)).trans (gf i hi)) dL gi (cu.trans ff) cO
  cases x with
  |one o=>exact Hn hm hT cZ hG [o] et env h rs U hY hs hE he next
  |alts l =>
   have many:G (match CW T ev ys et h l with
     |some x=>(match x.1 with
      |.tuple vs=>if x.2.room=true/\Nat.ble h.n x.2.n=true/\vs.toList.length=et.m then PD T ev R ys rest (ET.of vs.toList 0) x.2 k else R.fail
      |_=>R.fail)
     |none=>R.fail)->Mt (Q2 P) (.alts l::rest) env U K:=by
    intro he;split at he
    .rename_i x hx;split at he
     .rename_i vs kj;split at he
      .rename_i hc;obtain⟨c1,c2,c3⟩:=hc;have aY:x.2.n<=1000000000:=zG c1;have uv:FRel (ET.of vs.toList 0) vs.toList:=by
        have:=ET.q1q (args:=vs.toList) (nt:=0) (by show vs.toList.length+(0-vs.toList.length)<=_;have:=hE.sm;omega);simpa using this
       exact Sw hm hT cZ kj hY hs hE (next _ x.2 rs _ _ (zG c2) (λ_ _=>rfl) (Be (by omega)) uv (by rw[c3,hE.m]) he) l ⟨x,hx,rfl,rfl,λ_=>rfl⟩
      .exact(hG.fail he).elim
     .exact(hG.fail he).elim
    .exact(hG.fail he).elim
   match l,he with
   |[],he=>exact many he
   |[a],he =>intro ops ho;obtain rfl:=zp.1 ho;refine Bn hm hT cZ hG ops et env [h] h [] rs [U] U [] hY hs hE ⟨⟨hs,zf _⟩,trivial⟩ trivial he ?_;intro dU h' bp U' af hn hr aZ b_ hl hg;exact⟨af,U',.refl _ _ _,next dU h' bp U' af hn hr aZ b_ hl hg⟩
   |a::b::r,he=>exact many he
def S4 (P:Program) (T:Tab) (ev:Q66) (c:VCode):Prop:=∀ {A:Type}(R:AnsOps A) (G:A->Prop),Good R G->∀ (ys:Ys) (ro:Option Nat) (et:ET) (env:Env) (h:CH) (k:Exit->ET->CH->A) (rs:VZ) (U:Heap) (Q:Exit->Env->Heap->Prop),
 YOk P ys rs h.n->CSim rs h U->FRel et env->G (Sq T ev R ys c ro et h k)->Q07 G rs h (List.length env) k Q->vwp (Q2 P) c ro Q env U
theorem Sn (hm:P.follows .mixedOrders=true) (hT:TabOk P T) (cZ:Sd P ev) (hG:Good R G) {ys:Ys}{g:Operand}{ps:List Nat}{a b:VCode}{ro:Option Nat}{et:ET}{env:Env}{h:CH}{k:Exit->ET->CH->A}{rs:VZ}{U:Heap}{Q:Exit->Env->Heap->Prop}
  (hY:YOk P ys rs h.n) (hs:CSim rs h U) (hE:FRel et env) (he:G (IL T ev R ys (Gm et g) ps a b ro et h k)) (hk:Q07 G rs h (List.length env) k Q):vwp (Q2 P) (.rangeF g ps a b) ro Q env U:=by
 rw[Hb hE] at he;unfold IL at he;simp only[vwp,Lk];split at he
 .rename_i f first cap hg
  simp only[hg];split at he
  .rename_i vc rl nt hf;have hF:=hT.code f vc rl nt hf;split at he
   .rename_i mi;obtain⟨aO,aY⟩:=mi;have gX:(Q2 P).it f=some λi Y args U K=>Ke P i Y->VCallsTo P f args U K:=by
     simp only[Q2];rw[z8 hF.enterable]
    rw[gX];refine⟨?_,λr uw=>?_⟩
    .cases ro with
     |none=>trivial
     |some i =>
      simp only[Q18] at aO;split at aO
      .rename_i st pend iH;exact⟨_,_,_,_,hs.lp iH⟩
      .cases aO
    .let fR:VZ:=λi=>if i=h.n then (env,r) else rs i
     have fB:∀ i,i<h.n->fR i=rs i:=λi hi=>by simp only[fR];rw[zd (by omega)]
     have kz:CSim fR (h.push (.lp .ready none)) (U.push (.obj (.lp env r .ready none) true)) :=
      (hs.rs fB).push aY (by simp[EB.to,fR])
     have ux:YOk P ((h.n,⟨ps,a,b,et⟩)::ys) fR (h.push (.lp .ready none)).n:=by
      intro i c hc;simp only[Ys.find] at hc;split at hc
      .rename_i fm;have fm:=zN fm;subst fm;obtain rfl:=osj hc;refine⟨Nat.lt_succ_self _,by simp only[fR,zB];exact hE,?_⟩;rw[hs.n] at *
       simpa [fR,hs.n] using uw
      .obtain⟨h1,h2,h3⟩:=hY i c hc;rw[fB i h1];exact⟨Nat.lt_succ_of_lt h1,h2,h3⟩
     rw[<-hs.n];refine RB hm cZ hG hf hF ux kz he ?_;intro v h' bp U' hn hr aZ dV;have pH:h.n+1<=h'.n:=hn;unfold Q7w at dV;unfold Om;split at dV
     .rename_i st pend iH;have hi:=aZ.lt iH;simp only[aZ.lp iH];split at dV
      .rename_i cR;refine⟨(by rintro rfl;cases cR),?_⟩;have agree:∀ j,j<h.n->bp j=rs j:=λj hj=>(hr j (Nat.lt_succ_of_lt hj)).trans (fB j hj);have br:=aZ.kill hi;split at dV
       .exact hk _ _ _ bp _ _ (by show h.n<=h'.n;omega) agree br hE rfl dV
       .exact hk _ _ _ bp _ _ (by show h.n<=h'.n;omega) agree br hE rfl dV
       .exact hk _ _ _ bp _ _ (by show h.n<=h'.n;omega) agree br hE rfl dV
       .exact(hG.fail dV).elim
      .exact(hG.fail dV).elim
     .exact(hG.fail dV).elim
   .exact(hG.fail he).elim
  .exact(hG.fail he).elim
 .exact(hG.fail he).elim
theorem S2 (hm:P.follows .mixedOrders=true) (hT:TabOk P T) (cZ:Sd P ev)
  (ov:∀ b,S4 P T ev b->S4 P T ev (.loop b)):∀ (c:VCode),S4 P T ev c:=by
 intro c;induction c with
 |skip=>intro A R G hG ys ro et env h k rs U Q hY hs hE he hk;exact hk _ _ _ rs U _ (zf _) (λ_ _=>rfl) hs hE rfl he
 |region ops =>intro A R G hG ys ro et env h k rs U Q hY hs hE he hk;exact Hn hm hT cZ hG ops et env h rs U hY hs hE he λdU h' bp U' af h1 h2 h3 h4 h5 h6=>hk _ _ _ _ _ _ h1 h2 h3 h4 h5 h6
 |regionD aS =>intro A R G hG ys ro et env h k rs U Q hY hs hE he hk;exact Si hm hT cZ hG aS et env h rs U hY hs hE he λdU h' bp U' af h1 h2 h3 h4 h5 h6=>hk _ _ _ _ _ _ h1 h2 h3 h4 h5 h6
 |rangeF g ps a b fp eK =>intro A R G hG ys ro et env h k rs U Q hY hs hE he hk;exact Sn hm hT cZ hG hY hs hE he hk
 |seq a b fp eK =>
  intro A R G hG ys ro et env h k rs U Q hY hs hE he hk;simp only[vwp];refine fp R G hG ys ro et env h _ rs U _ hY hs hE he ?_;intro e dU h' bp U' af hn hr aZ b_ hl hg;cases e with
  |normal =>refine eK R G hG ys ro dU af h' k bp U' Q (hY.mono hn hr) aZ b_ hg ?_;intro e2 gh h2 eL σ2 aU dT ec dL gi cu cO;exact hk e2 gh h2 eL σ2 aU (zX hn dT) (λi hi=>(ec i (by omega)).trans (hr i hi)) dL gi (cu.trans hl) cO
  |_=>exact hk _ dU h' bp U' af hn hr aZ b_ hl hg
 |cond c a b fp eK =>
  intro A R G hG ys ro et env h k rs U Q hY hs hE he hk;have he:G (Q4w R (Gm et c) (Sq T ev R ys a ro et h k) (Sq T ev R ys b ro et h k)):=he;rw[Hb hE] at he;unfold Q4w at he;simp only[vwp];split at he
  .rename_i hc;rw[hc];exact⟨λ_=>fp R G hG ys ro et env h k rs U Q hY hs hE he hk,λhh=>by cases hh⟩
  .rename_i hc;rw[hc];exact⟨λhh=>(by cases hh),λ_=>eK R G hG ys ro et env h k rs U Q hY hs hE he hk⟩
  .exact(hG.fail he).elim
 |block id b ih =>
  intro A R G hG ys ro et env h k rs U Q hY hs hE he hk;simp only[vwp];refine ih R G hG ys ro et env h _ rs U _ hY hs hE he ?_;intro e dU h' bp U' af hn hr aZ b_ hl hg;cases e with
  |exit iM =>
   simp only[Ic] at hg;simp only[Ss];split at hg
   .rename_i bh;rw[z8 bh];exact hk _ dU h' bp U' af hn hr aZ b_ hl hg
   .rename_i bh;rw[zd bh];exact hk _ dU h' bp U' af hn hr aZ b_ hl hg
  |_=>exact hk _ dU h' bp U' af hn hr aZ b_ hl hg
 |loop b ih =>intro A R G hG ys ro et env h k rs U Q hY hs hE he hk;exact ov b ih R G hG ys ro et env h k rs U Q hY hs hE he hk
 |exit id=>intro A R G hG ys ro et env h k rs U Q hY hs hE he hk;exact hk _ _ _ rs U _ (zf _) (λ_ _=>rfl) hs hE rfl he
 |ret=>intro A R G hG ys ro et env h k rs U Q hY hs hE he hk;exact hk _ _ _ rs U _ (zf _) (λ_ _=>rfl) hs hE rfl he
 |bad=>intro A R G hG ys ro et env h k rs U Q hY hs hE he hk;exact(hG.fail he).elim
theorem TG {v:Value}(h:E5 v=true):QK v=true\/∃ vs,v=.tuple vs/\vs.toList.all QK=true:=by unfold E5 at h;split at h<;>first|exact .inl rfl|exact .inr ⟨_,rfl,h⟩|cases h
theorem Q08 {ρ:Plc}{n:Nat}{v c:Value}(h:E5 v=true) (hv:VRel ρ n v c):c=v:=by
 rcases TG h with hp|⟨vs,rfl,ae⟩
 .exact YQ hp hv
 .obtain⟨ds,rfl,hl⟩:=hv.q1j;have ae:∀ x∈vs.toList,QK x=true:=zg.1 ae;have:ds.toList=vs.toList:=by
   apply zV;intro i;rcases zn i vs.toList.length with hi|hi
   .have cD:i<ds.toList.length:=by rw[<-hl.1];exact hi
    rw[z6 hi,z6 cD];rw[YQ (ae _ (zr hi)) (hl.2 i _ _ (z6 hi) (z6 cD))]
   .rw[zm hi,zm (by rw[<-hl.1];exact hi)]
  rw[Ti this]
theorem IJ {ρ:Plc}{n:Nat}{v:Value}(h:E5 v=true):VRel ρ n v v:=by
 rcases TG h with hp|⟨vs,rfl,ae⟩
 .exact Wt hp
 .exact .tuple _ _ rfl λi h1 _=>Wt (zg.1 ae _ (by simp))
theorem B3 (m:Nat) (env:Env) (h:List.length env=m):GH (List.range m) env=env:=by
 apply zV;intro i;simp only[GH,zU];rcases zn i m with hi|hi
 .rw[List.getElem?_range hi];simp[ze,h,hi]
 .rw[zm (by simpa using hi),zm (by omega)];rfl
theorem TN:∀ (l:List Nat) (vs base:List Value) (i:Nat),l.Nodup->vs.length=l.length->(∀ x∈l,x<base.length)->(Xe l vs base)[i]?=if i∈l then vs[l.idxOf i]? else base[i]?
 |[],[],base,i,_,_,_=>by simp[Xe]
 |[],_::_,_,_,_,h,_=>by simp at h
 |_::_,[],_,_,_,h,_=>by simp at h
 |x::l,v::vs,base,i,hn,h,hb=>by
  obtain⟨h1,h2⟩:=xr.1 hn;simp only[Xe];rw[TN l vs _ i h2 (by simpa using h) (λy hy=>by rw[xK];exact hb y (by simp[hy]))];by_cases ni:i=x
  .subst ni;rw[zd h1,z8 (by simp),List.getElem?_set_self (hb i (by simp))];simp
  .by_cases ic:i∈l
   .have e:(x::l).idxOf i=l.idxOf i+1:=by rw[List.idxOf_cons,show (x==i)=false from by simpa using Ne.symm ni];rfl
    rw[z8 ic,z8 (by simp[ic]),e];rfl
   .rw[zd ic,zd (by simp[ni,ic]),List.getElem?_set_ne (Ne.symm ni)]
theorem Sk (m:Nat) (vs:List Value) (h:vs.length=m):Xe (List.range m) vs (List.replicate m poison)=vs:=by
 apply zV;intro i;rw[TN _ _ _ _ List.nodup_range (by simpa using h) (λx hx=>by simpa using hx)];split
 .rename_i hi;have hi:=zF.1 hi;have:(List.range m).idxOf i=i:=by
   have h1:(List.range m).idxOf i<(List.range m).length:=List.idxOf_lt_length_of_mem (zF.2 hi);have h2:=List.getElem_idxOf h1;rw[List.getElem_range] at h2;exact h2
  rw[this]
 .rename_i hi;have hi:m<=i:=by simpa using hi
  rw[zm (by simpa using hi),zm (by omega)]
theorem Ei (hm:P.follows .mixedOrders=true) (hT:TabOk P T):∀ (n:Nat) (c:VCode),S4 P T (Dy T n) c:=by
 intro n;induction n using Nat.strongRecOn with
 |ind n pK =>
  have cZ:Sd P (Dy T n):=by
   cases n with
   |zero=>intro A R G hG ys c ro et env h k rs U Q hY hs hE he hk;exact(hG.fail he).elim
   |succ n=>intro A R G hG ys c ro et env h k rs U Q hY hs hE he hk;exact pK n (Nat.lt_succ_self _) c R G hG ys ro et env h k rs U Q hY hs hE he hk
  refine S2 hm hT cZ λb eK=>?_;intro A R G hG ys ro et env h k rs U Q hY hs hE he hk;have ox:∀ j,j<=n->S4 P T (Dy T j) b:=λj hj=>by
   rcases zn j n with h'|h'
   .exact pK j h' b
   .obtain rfl:j=n:=by omega
    exact eK
  simp only[vwp];refine⟨List.range (List.length env),λj vs σ1=>j<=n/\∃ ly h1 fR,h.n<=h1.n/\(∀ i,i<h.n->fR i=rs i)/\CSim fR h1 σ1/\FRel ly vs/\List.length vs=List.length env/\G (Sq T (Dy T j) R ys (.loop b) ro ly h1 k),n,?_,?_⟩
  .rw[B3 _ _ rfl];exact⟨zf _,et,h,rs,zf _,λ_ _=>rfl,hs,hE,rfl,he⟩
  .rintro j vs σ1 ⟨hj,ly,h1,fR,g1,g2,g3,gE,g4,g5⟩;rw[Sk _ _ g4];refine ox j hj R G hG ys ro ly vs h1 _ fR σ1 _ (hY.mono g1 g2) g3 gE g5 ?_;intro e dU h' bp U' af hn hr aZ b_ hl hg;cases e with
   |normal =>
    cases j with
    |zero=>exact(hG.fail hg).elim
    |succ j =>
     refine⟨j,Nat.lt_succ_self _,by omega,dU,h',bp,zX g1 hn,λi hi=>(hr i (by omega)).trans (g2 i hi),aZ,?_,?_,?_⟩
     .rw[B3 _ _ (hl.trans g4)];exact b_
     .rw[B3 _ _ (hl.trans g4)];exact hl.trans g4
     .exact hg
   |_=>exact hk _ dU h' bp U' af (zX g1 hn) (λi hi=>(hr i (by omega)).trans (g2 i hi)) aZ b_ (hl.trans g4) hg
theorem Pe (hm:P.follows .mixedOrders=true) (hT:TabOk P T) (n:Nat):Sd P (Dy T n):=by
 cases n with
 |zero=>intro A R G hG ys c ro et env h k rs U Q hY hs hE he hk;exact(hG.fail he).elim
 |succ n=>intro A R G hG ys c ro et env h k rs U Q hY hs hE he hk;exact Ei hm hT n c R G hG ys ro et env h k rs U Q hY hs hE he hk
theorem HRel.forget {ρ:Plc}{U:Heap}{w:World}(hH:HRel ρ U w):HRel (λ_=>none) Heap.empty w :=
 ⟨⟨λi b h=>(by cases h),λ_ _=>rfl,λi p h=>(by cases h),λi j p q b _ h=>(by cases h)⟩,λg cs hg=>⟨(hH.tab g cs hg).1,λ⟨_,_,_,h,_⟩=>by cases h⟩⟩
theorem L5 {f:FuncId}{args:List Value}(ha:args.all QK=true) {v:Value}(hv:E5 v=true) (he:J8 P f) (h0:VCallsTo P f args Heap.empty (λu _=>u=v)) {U:Heap}{K:Value->Heap->Prop}(hK:K v U):VCalled P f args U K:=by
 refine VCallsTo.called he ?_;intro ρ w aw hH hL;refine (h0 (λ_=>none) w aw hH.forget ?_).mono ?_
 .refine⟨hL.1,λi a c kQ hc=>?_⟩;have hp:=zg.1 ha a (zH kQ);have:=YQ hp (hL.2 i a c kQ hc);subst this;exact Wt hp
 .rintro e w' ⟨c,rfl,u,ρ',U',rfl,eO,gW,hE⟩;refine⟨c,rfl,u,ρ,U,hK,?_,?_,?_⟩
  .have:c=u:=Q08 hv eO;subst this;exact IJ hv
  .exact hH.world hE.size (λi p hp=>hE.keep _ (hH.lt i p hp) (λ⟨_,_,_,h,_⟩=>by cases h)) λg cs hg=>hE.keep _ (hH.tab.lt hg) (λ⟨_,_,_,h,_⟩=>by cases h)
  .exact⟨hE.os,hE.tape,hE.output,hE.size,λB hB _=>hE.keep B hB (λ⟨_,_,_,h,_⟩=>by cases h),λ_ _ h=>h,zf _,λ_ _ _ h=>h⟩
theorem O4 (hm:P.follows .mixedOrders=true) (hT:TabOk P T) (n:Nat) {f:FuncId}{vc:VCode}{rl:List VResult}{nt:Nat}(hF:Fun P f vc rl nt) (args:List Value) (ha:args.all QK=true) (v:Value) (hv:E5 v=true) (p:Value->Bool) (hp:∀ u,p u=true->u=v)
  (dz:Nat.ble (ET.of args nt).m 1000000=true) (he:Dy T n Xx [] vc none (ET.of args nt) CH.empty (Q47 false rl λv _=>p v)=true) {U:Heap}{K:Value->Heap->Prop}(hK:K v U):VCalled P f args U K:=by
 refine L5 ha hv hF.enterable ?_ hK;refine hF.callsTo hm GC ?_
 exact Pe hm hT n Xx (·=true) R1 [] vc none _ _ CH.empty _ (λ_=>([],default)) Heap.empty _ (λi c h=>by cases h) ⟨rfl,by decide,λi=>rfl⟩ (ET.q1q (zG dz)) he
  (Mk (R:=Xx) R1 λv' h' bp U' _ _ _ hg=>hp v' hg)
end
end Go.V
namespace Go.V
open Go
def Q4k (P:Program) (f:FuncId):Option FEnt->Prop
 |none=>True
 |some (.code vc rs nt)=>Fun P f vc rs nt
 |some (.codeJ vc rs nt)=>Fun P f vc rs nt
 |some (.codeM vc rs nt ms)=>Fun P f vc rs nt/\∀ m∈ms,NX P f m
 |some .same=>∀ (v:Value) (U:Heap) (K:Value->Heap->Prop),K v U->VCalled P f [v] U K
def EntsOk (P:Program):Nat->List (Option FEnt)->Prop
 |_,[]=>True
 |i,e::l=>Q4k P i e/\EntsOk P (i+1) l
theorem EntsOk.get {P:Program}:∀ {l:List (Option FEnt)}{i j:Nat}{e:FEnt},EntsOk P i l->l[j]?=some (some e)->Q4k P (i+j) (some e)
 |[],_,_,_,_,h=>by simp at h
 |x::l,i,0,e,h,hj=>by simp at hj;subst hj;exact h.1
 |x::l,i,j+1,e,h,hj=>by have:=EntsOk.get (l:=l) (i:=i+1) (j:=j) h.2 (by simpa using hj);rw[zu,xR 1 j] at this;exact this
theorem Cj {P:Program}{l:List (Option FEnt)}(h:EntsOk P 0 l):TabOk P (λf=>(l[f]?).join):=by
 have key:∀ f e,(l[f]?).join=some e->Q4k P f (some e):=λf e he=>by
  have:=EntsOk.get (j:=f) (e:=e) h (by
   cases hl:l[f]? with
   |none=>rw[hl] at he;cases he
   |some x=>rw[hl] at he;simp at he;rw[he])
  simpa using this
 exact⟨λf vc rs nt he=>key f _ he,λf vc rs nt he=>key f _ he,λf vc rs nt ms he=>key f _ he,λf he=>key f _ he⟩
def isTrue:Value->Bool
 |.bool true=>true
 |_=>false
theorem IN {v:Value}(h:isTrue v=true):v=.bool true:=by
 unfold isTrue at h;split at h
 .rfl
 .cases h
theorem Oq {P:Program}(hm:P.follows .mixedOrders=true) {T:Tab}(hT:TabOk P T) (n:Nat) {f:FuncId}{vc:VCode}{rl:List VResult}{nt:Nat}(hF:Fun P f vc rl nt) (dz:Nat.ble (ET.of [] nt).m 1000000=true)
  (he:Dy T n Xx [] vc none (ET.of [] nt) CH.empty (Q47 false rl λv _=>isTrue v)=true) {U:Heap}{K:Value->Heap->Prop}(hK:K (.bool true) U):VCalled P f [] U K :=
 O4 hm hT n hF [] rfl (.bool true) rfl isTrue (λ_ h=>IN h) dz he hK
def XP:List PB->CH->CH
 |[],h=>h
 |b::l,h=>XP l (h.push (.cells b.c b.esz false b.tight))
def Sj (U:Heap) (l:List PB):Heap where
 get i:=if i<U.n then U.get i else (l[i-U.n]?).map (PB.blk false)
 n:=U.n+l.length
 wf i h:=by rw[zd (by omega),zm (by omega)];rfl
theorem TR {rs:VZ}:∀ (fr:List PB) {h:CH}{U:Heap},CSim rs h U->h.n+fr.length<=1000000000->CSim rs (XP fr h) (Sj U fr)/\(XP fr h).n=h.n+fr.length
 |[],h,U,hs,_=>by
  have:Sj U []=U:=Heap.ext' (λj=>by
   show (if j<U.n then U.get j else _)=_;split
   .rfl
   .rename_i hj;rw[U.wf j (by omega)];simp) rfl
  rw[this];exact⟨hs,rfl⟩
 |b::l,h,U,hs,hr=>by
  have hr:h.n+(l.length+1)<=1000000000:=hr;have hn:=hs.n;have h1:CSim rs (h.push (.cells b.c b.esz false b.tight)) (U.push (b.blk false)):=hs.push (Nat.ble_eq_true_of_le (by omega)) rfl;obtain⟨h2,h3⟩:=TR l h1 (by show h.n+1+_<=_;omega);refine⟨?_,by rw[show XP (b::l) h=XP l (h.push (.cells b.c b.esz false b.tight)) from rfl,h3];show h.n+1+l.length=h.n+(l.length+1);omega⟩;have:Sj U (b::l)=Sj (U.push (b.blk false)) l:=Heap.ext' (λj=>by
   show (if j<U.n then U.get j else _)=(if j<U.n+1 then (U.push (b.blk false)).get j else _);rcases Nat.lt_trichotomy j U.n with hj|hj|hj
   .rw[z8 hj,z8 (by omega),Heap.q0i _ _ hj]
   .subst hj;rw[zd (by omega),z8 (by omega),Heap.q0a];simp
   .rw[zd (by omega),zd (by omega)];rw[show j-U.n=(j-(U.push (b.blk false)).n)+1 by simp;omega];rfl) (by simp[Sj];omega)
  rw[this];exact h2
theorem L2 (bl fr:List PB):XH (Sj Heap.empty bl) fr=Qt bl fr:=Heap.ext' (λj=>by
 have hn:(Sj Heap.empty bl).n=bl.length:=by simp[Sj,Heap.empty]
 show (if j<(Sj Heap.empty bl).n then (Sj Heap.empty bl).get j else (fr[j-(Sj Heap.empty bl).n]?).map (PB.blk true))=(if j<bl.length then _ else _);rw[hn];split
 .simp[Sj,Heap.empty]
 .rfl) (by simp[XH,Sj,Qt,Heap.empty])
def CQ (m:Memo):Bool:=Nat.ble (m.bl.length+m.fr.length) 1000000000&&m.fr.all (λb=>b.c.all QK)
theorem GG {P:Program}(hm:P.follows .mixedOrders=true) {T:Tab}(hT:TabOk P T) (n:Nat) {f:FuncId}{m:Memo}(hf:CQ m=true)
  (he:Bh T (Dy T n) Xx [] f m.args (XP m.bl CH.empty) (λu h'=>TP 20 u m.v&&h'.same (X6 m.fr (XP m.bl CH.empty)))=true):NX P f m:=by
 simp only[CQ,z7,zg] at hf;obtain⟨h1,h3⟩:=hf;have h1:=zG h1;have e0:∀ rs:VZ,CSim rs CH.empty Heap.empty:=λrs=>⟨rfl,by decide,λi=>rfl⟩;have s1:∀ rs:VZ,CSim rs (XP m.bl CH.empty) (Sj Heap.empty m.bl)/\(XP m.bl CH.empty).n=0+m.bl.length:=λrs=>TR m.bl (e0 rs) (by show 0+_<=_;omega);have s2:∀ rs:VZ,CSim rs (X6 m.fr (XP m.bl CH.empty)) (Qt m.bl m.fr):=λrs=>by rw[<-L2];exact(Ma m.fr (s1 rs).1 (by rw[(s1 rs).2];omega)).1
 have ng:Sj Heap.empty m.bl=Qt m.bl []:=by
  rw[<-L2];exact Heap.ext' (λj=>by
   show _=(if j<(Sj Heap.empty m.bl).n then _ else _);split
   .rfl
   .rename_i hj;rw[(Sj Heap.empty m.bl).wf j (by omega)];simp) rfl
 refine⟨?_,λb hb=>zg.2 (h3 b hb)⟩;rw[<-ng];refine Gr (R:=Xx) (G:=(·=true)) (rs:=λ_=>([],default)) hm hT (λ{A}=>Pe hm hT n (A:=A)) R1 (λi c h=>by cases h) (s1 _).1 he ?_;intro v h' bp U' _ _ aZ hg;rw[z7] at hg;refine⟨NQ 20 _ _ hg.1,?_⟩;obtain⟨g1,g2⟩:=CN hg.2;refine Heap.ext' (λj=>?_) ?_
 .rw[aZ.get,g2,(s2 bp).get]
 .rw[<-aZ.n,g1,(s2 bp).n]
end Go.V
namespace Go.Proofs.Tryz
open Go Go.V Go.Proofs
theorem mixed:Tryz.prog.follows .mixedOrders=true:=by kernel_rfl
def cof (fn:Func):VCode:=match fn.body.bind (comp Tryz.prog) with|some c=>c|none=>.bad
theorem Q1 {fn:Func}(h:(fn.body.bind (comp Tryz.prog)).isSome=true):fn.body.bind (comp Tryz.prog)=some (cof fn):=by
 unfold cof;cases h2:fn.body.bind (comp Tryz.prog) with
 |none=>rw[h2] at h;cases h
 |some c=>rfl
def c2:VCode:=cof Tryz.f2
theorem Z3z:Fun Tryz.prog 2 c2 [] 1:=⟨Tryz.f2,Tryz.func2,Q1 (by kernel_rfl),by kernel_rfl,rfl,rfl⟩
def c3:VCode:=cof Tryz.f3
theorem Z4g:Fun Tryz.prog 3 c3 [.tmp 2] 84:=⟨Tryz.f3,Tryz.func3,Q1 (by kernel_rfl),by kernel_rfl,rfl,rfl⟩
def c4:VCode:=cof Tryz.f4
theorem Z4e:Fun Tryz.prog 4 c4 [.tmp 4] 203:=⟨Tryz.f4,Tryz.func4,Q1 (by kernel_rfl),by kernel_rfl,rfl,rfl⟩
def c5:VCode:=cof Tryz.f5
theorem Z3s:Fun Tryz.prog 5 c5 [.tmp 2] 92:=⟨Tryz.f5,Tryz.func5,Q1 (by kernel_rfl),by kernel_rfl,rfl,rfl⟩
def c6:VCode:=cof Tryz.f6
theorem Z4j:Fun Tryz.prog 6 c6 [.tmp 6] 129:=⟨Tryz.f6,Tryz.func6,Q1 (by kernel_rfl),by kernel_rfl,rfl,rfl⟩
def c7:VCode:=cof Tryz.f7
theorem Z47:Fun Tryz.prog 7 c7 [.tmp 4] 283:=⟨Tryz.f7,Tryz.func7,Q1 (by kernel_rfl),by kernel_rfl,rfl,rfl⟩
def c8:VCode:=cof Tryz.f8
theorem Z3o:Fun Tryz.prog 8 c8 [.tmp 6] 207:=⟨Tryz.f8,Tryz.func8,Q1 (by kernel_rfl),by kernel_rfl,rfl,rfl⟩
def c9:VCode:=cof Tryz.f9
theorem Z42:Fun Tryz.prog 9 c9 [.tmp 2] 249:=⟨Tryz.f9,Tryz.func9,Q1 (by kernel_rfl),by kernel_rfl,rfl,rfl⟩
def c10:VCode:=cof Tryz.f10
theorem fun10:Fun Tryz.prog 10 c10 [.tmp 6] 205:=⟨Tryz.f10,Tryz.func10,Q1 (by kernel_rfl),by kernel_rfl,rfl,rfl⟩
def c11:VCode:=cof Tryz.f11
theorem Q89:Fun Tryz.prog 11 c11 [.tmp 2] 265:=⟨Tryz.f11,Tryz.func11,Q1 (by kernel_rfl),by kernel_rfl,rfl,rfl⟩
def c12:VCode:=cof Tryz.f12
theorem Q9i:Fun Tryz.prog 12 c12 [.tmp 4] 132:=⟨Tryz.f12,Tryz.func12,Q1 (by kernel_rfl),by kernel_rfl,rfl,rfl⟩
def c13:VCode:=cof Tryz.f13
theorem Q8y:Fun Tryz.prog 13 c13 [.tmp 4] 228:=⟨Tryz.f13,Tryz.func13,Q1 (by kernel_rfl),by kernel_rfl,rfl,rfl⟩
def c14:VCode:=cof Tryz.f14
theorem Q9d:Fun Tryz.prog 14 c14 [.tmp 6] 133:=⟨Tryz.f14,Tryz.func14,Q1 (by kernel_rfl),by kernel_rfl,rfl,rfl⟩
def c15:VCode:=cof Tryz.f15
theorem Q4a:Fun Tryz.prog 15 c15 [.tmp 0] 226:=⟨Tryz.f15,Tryz.func15,Q1 (by kernel_rfl),by kernel_rfl,rfl,rfl⟩
def c16:VCode:=cof Tryz.f16
theorem Q5b:Fun Tryz.prog 16 c16 [.cell 2 true 2] 9:=⟨Tryz.f16,Tryz.func16,Q1 (by kernel_rfl),by kernel_rfl,rfl,rfl⟩
def c17:VCode:=cof Tryz.f17
theorem Q9e:Fun Tryz.prog 17 c17 [.tmp 2,.tmp 3] 49:=⟨Tryz.f17,Tryz.func17,Q1 (by kernel_rfl),by kernel_rfl,rfl,rfl⟩
def c18:VCode:=cof Tryz.f18
theorem Q74:Fun Tryz.prog 18 c18 [.cell 2 true 2,.tmp 3] 34:=⟨Tryz.f18,Tryz.func18,Q1 (by kernel_rfl),by kernel_rfl,rfl,rfl⟩
def c19:VCode:=cof Tryz.f19
theorem Q79:Fun Tryz.prog 19 c19 [.tmp 2] 32:=⟨Tryz.f19,Tryz.func19,Q1 (by kernel_rfl),by kernel_rfl,rfl,rfl⟩
def c20:VCode:=cof Tryz.f20
theorem Q81:Fun Tryz.prog 20 c20 [.tmp 2] 45:=⟨Tryz.f20,Tryz.func20,Q1 (by kernel_rfl),by kernel_rfl,rfl,rfl⟩
def c21:VCode:=cof Tryz.f21
theorem Q8r:Fun Tryz.prog 21 c21 [.tmp 4] 17:=⟨Tryz.f21,Tryz.func21,Q1 (by kernel_rfl),by kernel_rfl,rfl,rfl⟩
def c22:VCode:=cof Tryz.f22
theorem Q9n:Fun Tryz.prog 22 c22 [.tmp 4] 26:=⟨Tryz.f22,Tryz.func22,Q1 (by kernel_rfl),by kernel_rfl,rfl,rfl⟩
def c23:VCode:=cof Tryz.f23
theorem Q7r:Fun Tryz.prog 23 c23 [.tmp 2] 74:=⟨Tryz.f23,Tryz.func23,Q1 (by kernel_rfl),by kernel_rfl,rfl,rfl⟩
def c24:VCode:=cof Tryz.f24
theorem Q6u:Fun Tryz.prog 24 c24 [.cell 2 true 2] 44:=⟨Tryz.f24,Tryz.func24,Q1 (by kernel_rfl),by kernel_rfl,rfl,rfl⟩
def c25:VCode:=cof Tryz.f25
theorem Q51:Fun Tryz.prog 25 c25 [.tmp 2] 6:=⟨Tryz.f25,Tryz.func25,Q1 (by kernel_rfl),by kernel_rfl,rfl,rfl⟩
def c26:VCode:=cof Tryz.f26
theorem Q5s:Fun Tryz.prog 26 c26 [.tmp 4,.tmp 5,.tmp 6,.tmp 7] 79:=⟨Tryz.f26,Tryz.func26,Q1 (by kernel_rfl),by kernel_rfl,rfl,rfl⟩
def c27:VCode:=cof Tryz.f27
theorem Q5x:Fun Tryz.prog 27 c27 [.tmp 6,.tmp 7] 29:=⟨Tryz.f27,Tryz.func27,Q1 (by kernel_rfl),by kernel_rfl,rfl,rfl⟩
def c28:VCode:=cof Tryz.f28
theorem Q5q:Fun Tryz.prog 28 c28 [.tmp 6,.tmp 7] 33:=⟨Tryz.f28,Tryz.func28,Q1 (by kernel_rfl),by kernel_rfl,rfl,rfl⟩
def c29:VCode:=cof Tryz.f29
theorem Q6s:Fun Tryz.prog 29 c29 [.tmp 4] 15:=⟨Tryz.f29,Tryz.func29,Q1 (by kernel_rfl),by kernel_rfl,rfl,rfl⟩
def c30:VCode:=cof Tryz.f30
theorem Q7j:Fun Tryz.prog 30 c30 [.tmp 6] 15:=⟨Tryz.f30,Tryz.func30,Q1 (by kernel_rfl),by kernel_rfl,rfl,rfl⟩
def c31:VCode:=cof Tryz.f31
theorem Q7s:Fun Tryz.prog 31 c31 [.cell 4 true 4,.tmp 5] 41:=⟨Tryz.f31,Tryz.func31,Q1 (by kernel_rfl),by kernel_rfl,rfl,rfl⟩
def c32:VCode:=cof Tryz.f32
theorem Q9p:Fun Tryz.prog 32 c32 [.tmp 6,.tmp 7] 60:=⟨Tryz.f32,Tryz.func32,Q1 (by kernel_rfl),by kernel_rfl,rfl,rfl⟩
def c33:VCode:=cof Tryz.f33
theorem Q88:Fun Tryz.prog 33 c33 [.tmp 2] 37:=⟨Tryz.f33,Tryz.func33,Q1 (by kernel_rfl),by kernel_rfl,rfl,rfl⟩
def c34:VCode:=cof Tryz.f34
theorem Q80:Fun Tryz.prog 34 c34 [.cell 2 true 3] 34:=⟨Tryz.f34,Tryz.func34,Q1 (by kernel_rfl),by kernel_rfl,rfl,rfl⟩
def c35:VCode:=cof Tryz.f35
theorem Q7v:Fun Tryz.prog 35 c35 [.tmp 2] 36:=⟨Tryz.f35,Tryz.func35,Q1 (by kernel_rfl),by kernel_rfl,rfl,rfl⟩
def c36:VCode:=cof Tryz.f36
theorem Q6p:Fun Tryz.prog 36 c36 [.tmp 2,.tmp 3] 34:=⟨Tryz.f36,Tryz.func36,Q1 (by kernel_rfl),by kernel_rfl,rfl,rfl⟩
def c37:VCode:=cof Tryz.f37
theorem Q8o:Fun Tryz.prog 37 c37 [.cell 2 false 1,.tmp 3] 44:=⟨Tryz.f37,Tryz.func37,Q1 (by kernel_rfl),by kernel_rfl,rfl,rfl⟩
def c38:VCode:=cof Tryz.f38
theorem Q9m:Fun Tryz.prog 38 c38 [.tmp 2] 78:=⟨Tryz.f38,Tryz.func38,Q1 (by kernel_rfl),by kernel_rfl,rfl,rfl⟩
def c39:VCode:=cof Tryz.f39
theorem Q6v:Fun Tryz.prog 39 c39 [.tmp 4] 63:=⟨Tryz.f39,Tryz.func39,Q1 (by kernel_rfl),by kernel_rfl,rfl,rfl⟩
def c40:VCode:=cof Tryz.f40
theorem Q9s:Fun Tryz.prog 40 c40 [.tmp 2] 5:=⟨Tryz.f40,Tryz.func40,Q1 (by kernel_rfl),by kernel_rfl,rfl,rfl⟩
def c41:VCode:=cof Tryz.f41
theorem Q8v:Fun Tryz.prog 41 c41 [.tmp 4] 27:=⟨Tryz.f41,Tryz.func41,Q1 (by kernel_rfl),by kernel_rfl,rfl,rfl⟩
def c42:VCode:=cof Tryz.f42
theorem Q71:Fun Tryz.prog 42 c42 [.tmp 6,.tmp 7] 57:=⟨Tryz.f42,Tryz.func42,Q1 (by kernel_rfl),by kernel_rfl,rfl,rfl⟩
def c43:VCode:=cof Tryz.f43
theorem Q90:Fun Tryz.prog 43 c43 [.tmp 2,.tmp 3] 45:=⟨Tryz.f43,Tryz.func43,Q1 (by kernel_rfl),by kernel_rfl,rfl,rfl⟩
def c44:VCode:=cof Tryz.f44
theorem Q6k:Fun Tryz.prog 44 c44 [.tmp 8] 46:=⟨Tryz.f44,Tryz.func44,Q1 (by kernel_rfl),by kernel_rfl,rfl,rfl⟩
def c45:VCode:=cof Tryz.f45
theorem Q7t:Fun Tryz.prog 45 c45 [.tmp 4] 66:=⟨Tryz.f45,Tryz.func45,Q1 (by kernel_rfl),by kernel_rfl,rfl,rfl⟩
def c46:VCode:=cof Tryz.f46
theorem Q7b:Fun Tryz.prog 46 c46 [.cell 2 true 2] 50:=⟨Tryz.f46,Tryz.func46,Q1 (by kernel_rfl),by kernel_rfl,rfl,rfl⟩
def c47:VCode:=cof Tryz.f47
theorem Q6n:Fun Tryz.prog 47 c47 [.cell 2 true 2,.tmp 3] 54:=⟨Tryz.f47,Tryz.func47,Q1 (by kernel_rfl),by kernel_rfl,rfl,rfl⟩
def c48:VCode:=cof Tryz.f48
theorem Q8k:Fun Tryz.prog 48 c48 [.tmp 6,.tmp 7,.tmp 8] 58:=⟨Tryz.f48,Tryz.func48,Q1 (by kernel_rfl),by kernel_rfl,rfl,rfl⟩
def c49:VCode:=cof Tryz.f49
theorem Q5o:Fun Tryz.prog 49 c49 [.tmp 4] 20:=⟨Tryz.f49,Tryz.func49,Q1 (by kernel_rfl),by kernel_rfl,rfl,rfl⟩
def c50:VCode:=cof Tryz.f50
theorem Q43:Fun Tryz.prog 50 c50 [.tmp 4] 16:=⟨Tryz.f50,Tryz.func50,Q1 (by kernel_rfl),by kernel_rfl,rfl,rfl⟩
def c51:VCode:=cof Tryz.f51
theorem Q91:Fun Tryz.prog 51 c51 [.cell 2 true 2] 74:=⟨Tryz.f51,Tryz.func51,Q1 (by kernel_rfl),by kernel_rfl,rfl,rfl⟩
def c52:VCode:=cof Tryz.f52
theorem Q9k:Fun Tryz.prog 52 c52 [.tmp 4] 52:=⟨Tryz.f52,Tryz.func52,Q1 (by kernel_rfl),by kernel_rfl,rfl,rfl⟩
def c53:VCode:=cof Tryz.f53
theorem Q5d:Fun Tryz.prog 53 c53 [.cell 2 true 2] 37:=⟨Tryz.f53,Tryz.func53,Q1 (by kernel_rfl),by kernel_rfl,rfl,rfl⟩
def c54:VCode:=cof Tryz.f54
theorem Q56:Fun Tryz.prog 54 c54 [.tmp 4,.tmp 5,.tmp 6,.tmp 7,.tmp 8] 91:=⟨Tryz.f54,Tryz.func54,Q1 (by kernel_rfl),by kernel_rfl,rfl,rfl⟩
def c55:VCode:=cof Tryz.f55
theorem Q8s:Fun Tryz.prog 55 c55 [.cell 2 true 3,.tmp 3] 165:=⟨Tryz.f55,Tryz.func55,Q1 (by kernel_rfl),by kernel_rfl,rfl,rfl⟩
def c56:VCode:=cof Tryz.f56
theorem Q7q:Fun Tryz.prog 56 c56 [.tmp 4] 37:=⟨Tryz.f56,Tryz.func56,Q1 (by kernel_rfl),by kernel_rfl,rfl,rfl⟩
def c57:VCode:=cof Tryz.f57
theorem Q85:Fun Tryz.prog 57 c57 [.tmp 2] 11:=⟨Tryz.f57,Tryz.func57,Q1 (by kernel_rfl),by kernel_rfl,rfl,rfl⟩
def c58:VCode:=cof Tryz.f58
theorem Q8h:Fun Tryz.prog 58 c58 [.cell 2 true 2,.tmp 3] 54:=⟨Tryz.f58,Tryz.func58,Q1 (by kernel_rfl),by kernel_rfl,rfl,rfl⟩
def c59:VCode:=cof Tryz.f59
theorem Q8w:Fun Tryz.prog 59 c59 [.tmp 6,.tmp 7,.tmp 8] 65:=⟨Tryz.f59,Tryz.func59,Q1 (by kernel_rfl),by kernel_rfl,rfl,rfl⟩
def c60:VCode:=cof Tryz.f60
theorem Q9l:Fun Tryz.prog 60 c60 [.cell 0 true 2] 8:=⟨Tryz.f60,Tryz.func60,Q1 (by kernel_rfl),by kernel_rfl,rfl,rfl⟩
def c61:VCode:=cof Tryz.f61
theorem Q7z:Fun Tryz.prog 61 c61 [.cell 2 true 3] 23:=⟨Tryz.f61,Tryz.func61,Q1 (by kernel_rfl),by kernel_rfl,rfl,rfl⟩
def c62:VCode:=cof Tryz.f62
theorem Q7m:Fun Tryz.prog 62 c62 [.cell 2 true 3,.tmp 3] 43:=⟨Tryz.f62,Tryz.func62,Q1 (by kernel_rfl),by kernel_rfl,rfl,rfl⟩
def c63:VCode:=cof Tryz.f63
theorem Q70:Fun Tryz.prog 63 c63 [.tmp 4] 25:=⟨Tryz.f63,Tryz.func63,Q1 (by kernel_rfl),by kernel_rfl,rfl,rfl⟩
def c64:VCode:=cof Tryz.f64
theorem Q7u:Fun Tryz.prog 64 c64 [.tmp 4] 12:=⟨Tryz.f64,Tryz.func64,Q1 (by kernel_rfl),by kernel_rfl,rfl,rfl⟩
def c65:VCode:=cof Tryz.f65
theorem Q7e:Fun Tryz.prog 65 c65 [.tmp 2] 4:=⟨Tryz.f65,Tryz.func65,Q1 (by kernel_rfl),by kernel_rfl,rfl,rfl⟩
def c66:VCode:=cof Tryz.f66
theorem Q7d:Fun Tryz.prog 66 c66 [.tmp 4] 10:=⟨Tryz.f66,Tryz.func66,Q1 (by kernel_rfl),by kernel_rfl,rfl,rfl⟩
def c67:VCode:=cof Tryz.f67
theorem Q8f:Fun Tryz.prog 67 c67 [.tmp 4] 20:=⟨Tryz.f67,Tryz.func67,Q1 (by kernel_rfl),by kernel_rfl,rfl,rfl⟩
def c68:VCode:=cof Tryz.f68
theorem Q8e:Fun Tryz.prog 68 c68 [.tmp 4] 14:=⟨Tryz.f68,Tryz.func68,Q1 (by kernel_rfl),by kernel_rfl,rfl,rfl⟩
def c69:VCode:=cof Tryz.f69
theorem Q99:Fun Tryz.prog 69 c69 [.tmp 4] 26:=⟨Tryz.f69,Tryz.func69,Q1 (by kernel_rfl),by kernel_rfl,rfl,rfl⟩
def c70:VCode:=cof Tryz.f70
theorem Q8a:Fun Tryz.prog 70 c70 [.tmp 4] 55:=⟨Tryz.f70,Tryz.func70,Q1 (by kernel_rfl),by kernel_rfl,rfl,rfl⟩
def c71:VCode:=cof Tryz.f71
theorem Q9a:Fun Tryz.prog 71 c71 [.tmp 4] 41:=⟨Tryz.f71,Tryz.func71,Q1 (by kernel_rfl),by kernel_rfl,rfl,rfl⟩
def c72:VCode:=cof Tryz.f72
theorem Q8m:Fun Tryz.prog 72 c72 [.tmp 4] 33:=⟨Tryz.f72,Tryz.func72,Q1 (by kernel_rfl),by kernel_rfl,rfl,rfl⟩
def c73:VCode:=cof Tryz.f73
theorem Q0h:Fun Tryz.prog 73 c73 [.cell 4 true 4,.tmp 5] 33:=⟨Tryz.f73,Tryz.func73,Q1 (by kernel_rfl),by kernel_rfl,rfl,rfl⟩
def c74:VCode:=cof Tryz.f74
theorem Q5e:Fun Tryz.prog 74 c74 [.tmp 2] 70:=⟨Tryz.f74,Tryz.func74,Q1 (by kernel_rfl),by kernel_rfl,rfl,rfl⟩
def c75:VCode:=cof Tryz.f75
theorem Q5m:Fun Tryz.prog 75 c75 [.tmp 2] 25:=⟨Tryz.f75,Tryz.func75,Q1 (by kernel_rfl),by kernel_rfl,rfl,rfl⟩
def c76:VCode:=cof Tryz.f76
theorem Q49:Fun Tryz.prog 76 c76 [.tmp 4] 19:=⟨Tryz.f76,Tryz.func76,Q1 (by kernel_rfl),by kernel_rfl,rfl,rfl⟩
def c77:VCode:=cof Tryz.f77
theorem Q42:Fun Tryz.prog 77 c77 [.tmp 2] 5:=⟨Tryz.f77,Tryz.func77,Q1 (by kernel_rfl),by kernel_rfl,rfl,rfl⟩
def c78:VCode:=cof Tryz.f78
theorem Q48:Fun Tryz.prog 78 c78 [.tmp 6] 15:=⟨Tryz.f78,Tryz.func78,Q1 (by kernel_rfl),by kernel_rfl,rfl,rfl⟩
def c79:VCode:=cof Tryz.f79
theorem Q4f:Fun Tryz.prog 79 c79 [.tmp 6,.tmp 7] 28:=⟨Tryz.f79,Tryz.func79,Q1 (by kernel_rfl),by kernel_rfl,rfl,rfl⟩
def c80:VCode:=cof Tryz.f80
theorem Q3u:Fun Tryz.prog 80 c80 [.tmp 2] 9:=⟨Tryz.f80,Tryz.func80,Q1 (by kernel_rfl),by kernel_rfl,rfl,rfl⟩
def c81:VCode:=cof Tryz.f81
theorem Q3w:Fun Tryz.prog 81 c81 [.tmp 2] 4:=⟨Tryz.f81,Tryz.func81,Q1 (by kernel_rfl),by kernel_rfl,rfl,rfl⟩
def c82:VCode:=cof Tryz.f82
theorem Q6m:Fun Tryz.prog 82 c82 [.tmp 4] 30:=⟨Tryz.f82,Tryz.func82,Q1 (by kernel_rfl),by kernel_rfl,rfl,rfl⟩
def c83:VCode:=cof Tryz.f83
theorem Q73:Fun Tryz.prog 83 c83 [.tmp 4] 24:=⟨Tryz.f83,Tryz.func83,Q1 (by kernel_rfl),by kernel_rfl,rfl,rfl⟩
def c84:VCode:=cof Tryz.f84
theorem Q78:Fun Tryz.prog 84 c84 [.tmp 2] 7:=⟨Tryz.f84,Tryz.func84,Q1 (by kernel_rfl),by kernel_rfl,rfl,rfl⟩
def c85:VCode:=cof Tryz.f85
theorem Q6l:Fun Tryz.prog 85 c85 [.tmp 3] 9:=⟨Tryz.f85,Tryz.func85,Q1 (by kernel_rfl),by kernel_rfl,rfl,rfl⟩
def c86:VCode:=cof Tryz.f86
theorem Q52:Fun Tryz.prog 86 c86 [.tmp 4] 16:=⟨Tryz.f86,Tryz.func86,Q1 (by kernel_rfl),by kernel_rfl,rfl,rfl⟩
def c87:VCode:=cof Tryz.f87
theorem Q4y:Fun Tryz.prog 87 c87 [.tmp 2] 6:=⟨Tryz.f87,Tryz.func87,Q1 (by kernel_rfl),by kernel_rfl,rfl,rfl⟩
def c88:VCode:=cof Tryz.f88
theorem Q4q:Fun Tryz.prog 88 c88 [.tmp 6] 11:=⟨Tryz.f88,Tryz.func88,Q1 (by kernel_rfl),by kernel_rfl,rfl,rfl⟩
def c89:VCode:=cof Tryz.f89
theorem Q7i:Fun Tryz.prog 89 c89 [.tmp 4] 9:=⟨Tryz.f89,Tryz.func89,Q1 (by kernel_rfl),by kernel_rfl,rfl,rfl⟩
def c90:VCode:=cof Tryz.f90
theorem Q86:Fun Tryz.prog 90 c90 [.cell 4 false 1] 39:=⟨Tryz.f90,Tryz.func90,Q1 (by kernel_rfl),by kernel_rfl,rfl,rfl⟩
def c91:VCode:=cof Tryz.f91
theorem Q8z:Fun Tryz.prog 91 c91 [.tmp 4] 76:=⟨Tryz.f91,Tryz.func91,Q1 (by kernel_rfl),by kernel_rfl,rfl,rfl⟩
def c92:VCode:=cof Tryz.f92
theorem Q8u:Fun Tryz.prog 92 c92 [.cell 6 false 1] 110:=⟨Tryz.f92,Tryz.func92,Q1 (by kernel_rfl),by kernel_rfl,rfl,rfl⟩
def c93:VCode:=cof Tryz.f93
theorem Q9r:Fun Tryz.prog 93 c93 [.tmp 4] 26:=⟨Tryz.f93,Tryz.func93,Q1 (by kernel_rfl),by kernel_rfl,rfl,rfl⟩
def c94:VCode:=cof Tryz.f94
theorem Q9t:Fun Tryz.prog 94 c94 [.tmp 4] 19:=⟨Tryz.f94,Tryz.func94,Q1 (by kernel_rfl),by kernel_rfl,rfl,rfl⟩
def c95:VCode:=cof Tryz.f95
theorem Q7p:Fun Tryz.prog 95 c95 [.tmp 6] 29:=⟨Tryz.f95,Tryz.func95,Q1 (by kernel_rfl),by kernel_rfl,rfl,rfl⟩
def c96:VCode:=cof Tryz.f96
theorem Q6q:Fun Tryz.prog 96 c96 [.tmp 4] 9:=⟨Tryz.f96,Tryz.func96,Q1 (by kernel_rfl),by kernel_rfl,rfl,rfl⟩
def c97:VCode:=cof Tryz.f97
theorem Q87:Fun Tryz.prog 97 c97 [.tmp 2] 9:=⟨Tryz.f97,Tryz.func97,Q1 (by kernel_rfl),by kernel_rfl,rfl,rfl⟩
def c98:VCode:=cof Tryz.f98
theorem Q6y:Fun Tryz.prog 98 c98 [.tmp 6] 88:=⟨Tryz.f98,Tryz.func98,Q1 (by kernel_rfl),by kernel_rfl,rfl,rfl⟩
def c99:VCode:=cof Tryz.f99
theorem Q9f:Fun Tryz.prog 99 c99 [.tmp 4] 6:=⟨Tryz.f99,Tryz.func99,Q1 (by kernel_rfl),by kernel_rfl,rfl,rfl⟩
def Z15:VCode:=cof Tryz.f100
theorem Q32:Fun Tryz.prog 100 Z15 [.tmp 4] 9:=⟨Tryz.f100,Tryz.func100,Q1 (by kernel_rfl),by kernel_rfl,rfl,rfl⟩
def Z33:VCode:=cof Tryz.f101
theorem Q1h:Fun Tryz.prog 101 Z33 [.tmp 4] 23:=⟨Tryz.f101,Tryz.func101,Q1 (by kernel_rfl),by kernel_rfl,rfl,rfl⟩
def Z04:VCode:=cof Tryz.f102
theorem FT:Fun Tryz.prog 102 Z04 [.tmp 4] 10:=⟨Tryz.f102,Tryz.func102,Q1 (by kernel_rfl),by kernel_rfl,rfl,rfl⟩
def Q9x:VCode:=cof Tryz.f103
theorem FQ:Fun Tryz.prog 103 Q9x [.cell 2 true 3,.tmp 3] 30:=⟨Tryz.f103,Tryz.func103,Q1 (by kernel_rfl),by kernel_rfl,rfl,rfl⟩
def Z01:VCode:=cof Tryz.f104
theorem EY:Fun Tryz.prog 104 Z01 [.tmp 4] 26:=⟨Tryz.f104,Tryz.func104,Q1 (by kernel_rfl),by kernel_rfl,rfl,rfl⟩
def Z1y:VCode:=cof Tryz.f105
theorem Q1y:Fun Tryz.prog 105 Z1y [.tmp 4] 11:=⟨Tryz.f105,Tryz.func105,Q1 (by kernel_rfl),by kernel_rfl,rfl,rfl⟩
def Z35:VCode:=cof Tryz.f106
theorem Q1c:Fun Tryz.prog 106 Z35 [.cell 2 true 3] 5:=⟨Tryz.f106,Tryz.func106,Q1 (by kernel_rfl),by kernel_rfl,rfl,rfl⟩
def Z2f:VCode:=cof Tryz.f107
theorem Q3d:Fun Tryz.prog 107 Z2f [.cell 6 false 1] 73:=⟨Tryz.f107,Tryz.func107,Q1 (by kernel_rfl),by kernel_rfl,rfl,rfl⟩
def Z2y:VCode:=cof Tryz.f108
theorem Q3m:Fun Tryz.prog 108 Z2y [.tmp 2] 5:=⟨Tryz.f108,Tryz.func108,Q1 (by kernel_rfl),by kernel_rfl,rfl,rfl⟩
def Z1l:VCode:=cof Tryz.f109
theorem Q36:Fun Tryz.prog 109 Z1l [] 14:=⟨Tryz.f109,Tryz.func109,Q1 (by kernel_rfl),by kernel_rfl,rfl,rfl⟩
def Z2d:VCode:=cof Tryz.f110
theorem Q3n:Fun Tryz.prog 110 Z2d [] 16:=⟨Tryz.f110,Tryz.func110,Q1 (by kernel_rfl),by kernel_rfl,rfl,rfl⟩
def Z3h:VCode:=cof Tryz.f111
theorem Q3t:Fun Tryz.prog 111 Z3h [.tmp 2] 6:=⟨Tryz.f111,Tryz.func111,Q1 (by kernel_rfl),by kernel_rfl,rfl,rfl⟩
def Z0e:VCode:=cof Tryz.f112
theorem I4:Fun Tryz.prog 112 Z0e [.tmp 3] 14:=⟨Tryz.f112,Tryz.func112,Q1 (by kernel_rfl),by kernel_rfl,rfl,rfl⟩
def Z0c:VCode:=cof Tryz.f113
theorem ID:Fun Tryz.prog 113 Z0c [.tmp 4] 9:=⟨Tryz.f113,Tryz.func113,Q1 (by kernel_rfl),by kernel_rfl,rfl,rfl⟩
def Z0p:VCode:=cof Tryz.f114
theorem Im:Fun Tryz.prog 114 Z0p [.tmp 2] 4:=⟨Tryz.f114,Tryz.func114,Q1 (by kernel_rfl),by kernel_rfl,rfl,rfl⟩
def Z0n:VCode:=cof Tryz.f115
theorem FE:Fun Tryz.prog 115 Z0n [.tmp 4] 48:=⟨Tryz.f115,Tryz.func115,Q1 (by kernel_rfl),by kernel_rfl,rfl,rfl⟩
def Z0b:VCode:=cof Tryz.f116
theorem FM:Fun Tryz.prog 116 Z0b [.tmp 6] 25:=⟨Tryz.f116,Tryz.func116,Q1 (by kernel_rfl),by kernel_rfl,rfl,rfl⟩
def Z05:VCode:=cof Tryz.f117
theorem Ix:Fun Tryz.prog 117 Z05 [] 28:=⟨Tryz.f117,Tryz.func117,Q1 (by kernel_rfl),by kernel_rfl,rfl,rfl⟩
def Z0i:VCode:=cof Tryz.f118
theorem ED:Fun Tryz.prog 118 Z0i [.tmp 4] 52:=⟨Tryz.f118,Tryz.func118,Q1 (by kernel_rfl),by kernel_rfl,rfl,rfl⟩
def Z06:VCode:=cof Tryz.f119
theorem IU:Fun Tryz.prog 119 Z06 [.tmp 2] 5:=⟨Tryz.f119,Tryz.func119,Q1 (by kernel_rfl),by kernel_rfl,rfl,rfl⟩
def Z25:VCode:=cof Tryz.f120
theorem fun120:Fun Tryz.prog 120 Z25 [] 11:=⟨Tryz.f120,Tryz.func120,Q1 (by kernel_rfl),by kernel_rfl,rfl,rfl⟩
def Z0h:VCode:=cof Tryz.f121
theorem FH:Fun Tryz.prog 121 Z0h [] 14:=⟨Tryz.f121,Tryz.func121,Q1 (by kernel_rfl),by kernel_rfl,rfl,rfl⟩
def Z1q:VCode:=cof Tryz.f122
theorem Q12:Fun Tryz.prog 122 Z1q [.tmp 6] 79:=⟨Tryz.f122,Tryz.func122,Q1 (by kernel_rfl),by kernel_rfl,rfl,rfl⟩
def Z0j:VCode:=cof Tryz.f123
theorem FR:Fun Tryz.prog 123 Z0j [.tmp 3] 17:=⟨Tryz.f123,Tryz.func123,Q1 (by kernel_rfl),by kernel_rfl,rfl,rfl⟩
def Z0d:VCode:=cof Tryz.f124
theorem F9:Fun Tryz.prog 124 Z0d [.tmp 4] 9:=⟨Tryz.f124,Tryz.func124,Q1 (by kernel_rfl),by kernel_rfl,rfl,rfl⟩
def Q9w:VCode:=cof Tryz.f125
theorem IH:Fun Tryz.prog 125 Q9w [.tmp 4] 13:=⟨Tryz.f125,Tryz.func125,Q1 (by kernel_rfl),by kernel_rfl,rfl,rfl⟩
def Z1i:VCode:=cof Tryz.f126
theorem Q2s:Fun Tryz.prog 126 Z1i [.tmp 4] 19:=⟨Tryz.f126,Tryz.func126,Q1 (by kernel_rfl),by kernel_rfl,rfl,rfl⟩
def Z1n:VCode:=cof Tryz.f127
theorem Q1v:Fun Tryz.prog 127 Z1n [.tmp 6] 8:=⟨Tryz.f127,Tryz.func127,Q1 (by kernel_rfl),by kernel_rfl,rfl,rfl⟩
def Z26:VCode:=cof Tryz.f128
theorem Q1a:Fun Tryz.prog 128 Z26 [] 14:=⟨Tryz.f128,Tryz.func128,Q1 (by kernel_rfl),by kernel_rfl,rfl,rfl⟩
def Z17:VCode:=cof Tryz.f129
theorem Q25:Fun Tryz.prog 129 Z17 [.tmp 4] 36:=⟨Tryz.f129,Tryz.func129,Q1 (by kernel_rfl),by kernel_rfl,rfl,rfl⟩
def Z1a:VCode:=cof Tryz.f130
theorem Q1w:Fun Tryz.prog 130 Z1a [.tmp 4] 66:=⟨Tryz.f130,Tryz.func130,Q1 (by kernel_rfl),by kernel_rfl,rfl,rfl⟩
def Z1v:VCode:=cof Tryz.f131
theorem Q3e:Fun Tryz.prog 131 Z1v [.tmp 4] 26:=⟨Tryz.f131,Tryz.func131,Q1 (by kernel_rfl),by kernel_rfl,rfl,rfl⟩
def Z2r:VCode:=cof Tryz.f132
theorem Q3q:Fun Tryz.prog 132 Z2r [.tmp 6] 22:=⟨Tryz.f132,Tryz.func132,Q1 (by kernel_rfl),by kernel_rfl,rfl,rfl⟩
def Z1c:VCode:=cof Tryz.f133
theorem Q3s:Fun Tryz.prog 133 Z1c [.tmp 3] 12:=⟨Tryz.f133,Tryz.func133,Q1 (by kernel_rfl),by kernel_rfl,rfl,rfl⟩
def Z24:VCode:=cof Tryz.f134
theorem Q3k:Fun Tryz.prog 134 Z24 [.tmp 4] 143:=⟨Tryz.f134,Tryz.func134,Q1 (by kernel_rfl),by kernel_rfl,rfl,rfl⟩
def Z21:VCode:=cof Tryz.f135
theorem Q0v:Fun Tryz.prog 135 Z21 [] 31:=⟨Tryz.f135,Tryz.func135,Q1 (by kernel_rfl),by kernel_rfl,rfl,rfl⟩
def Z13:VCode:=cof Tryz.f136
theorem Q2t:Fun Tryz.prog 136 Z13 [.tmp 4] 19:=⟨Tryz.f136,Tryz.func136,Q1 (by kernel_rfl),by kernel_rfl,rfl,rfl⟩
def Z0m:VCode:=cof Tryz.f137
theorem EG:Fun Tryz.prog 137 Z0m [.tmp 4] 13:=⟨Tryz.f137,Tryz.func137,Q1 (by kernel_rfl),by kernel_rfl,rfl,rfl⟩
def Z2u:VCode:=cof Tryz.f138
theorem Q2q:Fun Tryz.prog 138 Z2u [.tmp 4] 6:=⟨Tryz.f138,Tryz.func138,Q1 (by kernel_rfl),by kernel_rfl,rfl,rfl⟩
def Z1d:VCode:=cof Tryz.f139
theorem Q29:Fun Tryz.prog 139 Z1d [.tmp 4] 13:=⟨Tryz.f139,Tryz.func139,Q1 (by kernel_rfl),by kernel_rfl,rfl,rfl⟩
def Z1g:VCode:=cof Tryz.f140
theorem Q1l:Fun Tryz.prog 140 Z1g [] 148:=⟨Tryz.f140,Tryz.func140,Q1 (by kernel_rfl),by kernel_rfl,rfl,rfl⟩
def Z2x:VCode:=cof Tryz.f141
theorem Q23:Fun Tryz.prog 141 Z2x [.tmp 2] 8:=⟨Tryz.f141,Tryz.func141,Q1 (by kernel_rfl),by kernel_rfl,rfl,rfl⟩
def Z0a:VCode:=cof Tryz.f142
theorem EP:Fun Tryz.prog 142 Z0a [.tmp 4] 19:=⟨Tryz.f142,Tryz.func142,Q1 (by kernel_rfl),by kernel_rfl,rfl,rfl⟩
def Z2o:VCode:=cof Tryz.f143
theorem Q1z:Fun Tryz.prog 143 Z2o [] 19:=⟨Tryz.f143,Tryz.func143,Q1 (by kernel_rfl),by kernel_rfl,rfl,rfl⟩
def Q9y:VCode:=cof Tryz.f144
theorem FO:Fun Tryz.prog 144 Q9y [.tmp 4,.tmp 5] 30:=⟨Tryz.f144,Tryz.func144,Q1 (by kernel_rfl),by kernel_rfl,rfl,rfl⟩
def Q9z:VCode:=cof Tryz.f145
theorem FN:Fun Tryz.prog 145 Q9z [] 39:=⟨Tryz.f145,Tryz.func145,Q1 (by kernel_rfl),by kernel_rfl,rfl,rfl⟩
def Z07:VCode:=cof Tryz.f146
theorem Ir:Fun Tryz.prog 146 Z07 [.tmp 4] 13:=⟨Tryz.f146,Tryz.func146,Q1 (by kernel_rfl),by kernel_rfl,rfl,rfl⟩
def Z1u:VCode:=cof Tryz.f147
theorem Q3f:Fun Tryz.prog 147 Z1u [] 134:=⟨Tryz.f147,Tryz.func147,Q1 (by kernel_rfl),by kernel_rfl,rfl,rfl⟩
def Z00:VCode:=cof Tryz.f148
theorem F5:Fun Tryz.prog 148 Z00 [.tmp 4] 19:=⟨Tryz.f148,Tryz.func148,Q1 (by kernel_rfl),by kernel_rfl,rfl,rfl⟩
def Z38:VCode:=cof Tryz.f149
theorem Q0r:Fun Tryz.prog 149 Z38 [] 45:=⟨Tryz.f149,Tryz.func149,Q1 (by kernel_rfl),by kernel_rfl,rfl,rfl⟩
def Z11:VCode:=cof Tryz.f150
theorem Q34:Fun Tryz.prog 150 Z11 [.tmp 8] 55:=⟨Tryz.f150,Tryz.func150,Q1 (by kernel_rfl),by kernel_rfl,rfl,rfl⟩
def Z1b:VCode:=cof Tryz.f151
theorem Q28:Fun Tryz.prog 151 Z1b [] 148:=⟨Tryz.f151,Tryz.func151,Q1 (by kernel_rfl),by kernel_rfl,rfl,rfl⟩
def Z3b:VCode:=cof Tryz.f152
theorem Q1i:Fun Tryz.prog 152 Z3b [.tmp 4] 18:=⟨Tryz.f152,Tryz.func152,Q1 (by kernel_rfl),by kernel_rfl,rfl,rfl⟩
def Z09:VCode:=cof Tryz.f153
theorem I1:Fun Tryz.prog 153 Z09 [.tmp 2] 26:=⟨Tryz.f153,Tryz.func153,Q1 (by kernel_rfl),by kernel_rfl,rfl,rfl⟩
def Z2j:VCode:=cof Tryz.f154
theorem Q2o:Fun Tryz.prog 154 Z2j [] 20:=⟨Tryz.f154,Tryz.func154,Q1 (by kernel_rfl),by kernel_rfl,rfl,rfl⟩
def Z30:VCode:=cof Tryz.f155
theorem Q3c:Fun Tryz.prog 155 Z30 [] 53:=⟨Tryz.f155,Tryz.func155,Q1 (by kernel_rfl),by kernel_rfl,rfl,rfl⟩
def Z1m:VCode:=cof Tryz.f156
theorem Q1m:Fun Tryz.prog 156 Z1m [] 60:=⟨Tryz.f156,Tryz.func156,Q1 (by kernel_rfl),by kernel_rfl,rfl,rfl⟩
def Z0t:VCode:=cof Tryz.f157
theorem Q2g:Fun Tryz.prog 157 Z0t [] 67:=⟨Tryz.f157,Tryz.func157,Q1 (by kernel_rfl),by kernel_rfl,rfl,rfl⟩
def Z2l:VCode:=cof Tryz.f158
theorem Q0t:Fun Tryz.prog 158 Z2l [.tmp 8,.tmp 9] 63:=⟨Tryz.f158,Tryz.func158,Q1 (by kernel_rfl),by kernel_rfl,rfl,rfl⟩
def Z2c:VCode:=cof Tryz.f159
theorem Q1q:Fun Tryz.prog 159 Z2c [] 34:=⟨Tryz.f159,Tryz.func159,Q1 (by kernel_rfl),by kernel_rfl,rfl,rfl⟩
def Z34:VCode:=cof Tryz.f160
theorem Q1k:Fun Tryz.prog 160 Z34 [.tmp 8] 141:=⟨Tryz.f160,Tryz.func160,Q1 (by kernel_rfl),by kernel_rfl,rfl,rfl⟩
def Z2k:VCode:=cof Tryz.f161
theorem Q3p:Fun Tryz.prog 161 Z2k [.tmp 10] 90:=⟨Tryz.f161,Tryz.func161,Q1 (by kernel_rfl),by kernel_rfl,rfl,rfl⟩
def Z23:VCode:=cof Tryz.f162
theorem Q2w:Fun Tryz.prog 162 Z23 [.tmp 10,.tmp 11] 178:=⟨Tryz.f162,Tryz.func162,Q1 (by kernel_rfl),by kernel_rfl,rfl,rfl⟩
def Z2p:VCode:=cof Tryz.f163
theorem Q26:Fun Tryz.prog 163 Z2p [.tmp 2] 19:=⟨Tryz.f163,Tryz.func163,Q1 (by kernel_rfl),by kernel_rfl,rfl,rfl⟩
def Z1t:VCode:=cof Tryz.f164
theorem Q2d:Fun Tryz.prog 164 Z1t [.tmp 2] 25:=⟨Tryz.f164,Tryz.func164,Q1 (by kernel_rfl),by kernel_rfl,rfl,rfl⟩
def Z0f:VCode:=cof Tryz.f165
theorem FV:Fun Tryz.prog 165 Z0f [.tmp 4,.tmp 5] 17:=⟨Tryz.f165,Tryz.func165,Q1 (by kernel_rfl),by kernel_rfl,rfl,rfl⟩
def Q9v:VCode:=cof Tryz.f166
theorem Fh:Fun Tryz.prog 166 Q9v [.tmp 4,.tmp 5] 51:=⟨Tryz.f166,Tryz.func166,Q1 (by kernel_rfl),by kernel_rfl,rfl,rfl⟩
def Z2n:VCode:=cof Tryz.f167
theorem Q16:Fun Tryz.prog 167 Z2n [] 49:=⟨Tryz.f167,Tryz.func167,Q1 (by kernel_rfl),by kernel_rfl,rfl,rfl⟩
def Z3a:VCode:=cof Tryz.f168
theorem Q2x:Fun Tryz.prog 168 Z3a [] 56:=⟨Tryz.f168,Tryz.func168,Q1 (by kernel_rfl),by kernel_rfl,rfl,rfl⟩
def Z3i:VCode:=cof Tryz.f169
theorem Q1g:Fun Tryz.prog 169 Z3i [] 65:=⟨Tryz.f169,Tryz.func169,Q1 (by kernel_rfl),by kernel_rfl,rfl,rfl⟩
def Z2i:VCode:=cof Tryz.f170
theorem Q3g:Fun Tryz.prog 170 Z2i [.tmp 6,.tmp 7] 57:=⟨Tryz.f170,Tryz.func170,Q1 (by kernel_rfl),by kernel_rfl,rfl,rfl⟩
def Z27:VCode:=cof Tryz.f171
theorem Q1f:Fun Tryz.prog 171 Z27 [] 32:=⟨Tryz.f171,Tryz.func171,Q1 (by kernel_rfl),by kernel_rfl,rfl,rfl⟩
def Z28:VCode:=cof Tryz.f172
theorem Q2f:Fun Tryz.prog 172 Z28 [.tmp 6] 133:=⟨Tryz.f172,Tryz.func172,Q1 (by kernel_rfl),by kernel_rfl,rfl,rfl⟩
def Z14:VCode:=cof Tryz.f173
theorem Q2z:Fun Tryz.prog 173 Z14 [.tmp 4] 17:=⟨Tryz.f173,Tryz.func173,Q1 (by kernel_rfl),by kernel_rfl,rfl,rfl⟩
def Z3g:VCode:=cof Tryz.f174
theorem Q24:Fun Tryz.prog 174 Z3g [.tmp 8] 84:=⟨Tryz.f174,Tryz.func174,Q1 (by kernel_rfl),by kernel_rfl,rfl,rfl⟩
def Z3d:VCode:=cof Tryz.f175
theorem Q1r:Fun Tryz.prog 175 Z3d [.tmp 8,.tmp 9] 168:=⟨Tryz.f175,Tryz.func175,Q1 (by kernel_rfl),by kernel_rfl,rfl,rfl⟩
def Z12:VCode:=cof Tryz.f176
theorem Q1j:Fun Tryz.prog 176 Z12 [] 53:=⟨Tryz.f176,Tryz.func176,Q1 (by kernel_rfl),by kernel_rfl,rfl,rfl⟩
def Z22:VCode:=cof Tryz.f177
theorem Q3a:Fun Tryz.prog 177 Z22 [] 60:=⟨Tryz.f177,Tryz.func177,Q1 (by kernel_rfl),by kernel_rfl,rfl,rfl⟩
def Z2q:VCode:=cof Tryz.f178
theorem Q3b:Fun Tryz.prog 178 Z2q [] 67:=⟨Tryz.f178,Tryz.func178,Q1 (by kernel_rfl),by kernel_rfl,rfl,rfl⟩
def Z1j:VCode:=cof Tryz.f179
theorem Q0w:Fun Tryz.prog 179 Z1j [.tmp 8,.tmp 9] 63:=⟨Tryz.f179,Tryz.func179,Q1 (by kernel_rfl),by kernel_rfl,rfl,rfl⟩
def Z2a:VCode:=cof Tryz.f180
theorem Q2b:Fun Tryz.prog 180 Z2a [] 34:=⟨Tryz.f180,Tryz.func180,Q1 (by kernel_rfl),by kernel_rfl,rfl,rfl⟩
def Z2z:VCode:=cof Tryz.f181
theorem Q3h:Fun Tryz.prog 181 Z2z [.tmp 8] 141:=⟨Tryz.f181,Tryz.func181,Q1 (by kernel_rfl),by kernel_rfl,rfl,rfl⟩
def Z29:VCode:=cof Tryz.f182
theorem Q0s:Fun Tryz.prog 182 Z29 [.tmp 10] 90:=⟨Tryz.f182,Tryz.func182,Q1 (by kernel_rfl),by kernel_rfl,rfl,rfl⟩
def Z1f:VCode:=cof Tryz.f183
theorem Q1d:Fun Tryz.prog 183 Z1f [.tmp 10,.tmp 11] 178:=⟨Tryz.f183,Tryz.func183,Q1 (by kernel_rfl),by kernel_rfl,rfl,rfl⟩
def Z0l:VCode:=cof Tryz.f184
theorem Fu:Fun Tryz.prog 184 Z0l [.tmp 2] 22:=⟨Tryz.f184,Tryz.func184,Q1 (by kernel_rfl),by kernel_rfl,rfl,rfl⟩
def Z1s:VCode:=cof Tryz.f185
theorem Q2i:Fun Tryz.prog 185 Z1s [] 82:=⟨Tryz.f185,Tryz.func185,Q1 (by kernel_rfl),by kernel_rfl,rfl,rfl⟩
def Z31:VCode:=cof Tryz.f186
theorem Q2n:Fun Tryz.prog 186 Z31 [.tmp 2] 7:=⟨Tryz.f186,Tryz.func186,Q1 (by kernel_rfl),by kernel_rfl,rfl,rfl⟩
def Z1k:VCode:=cof Tryz.f187
theorem Q0y:Fun Tryz.prog 187 Z1k [.tmp 2] 33:=⟨Tryz.f187,Tryz.func187,Q1 (by kernel_rfl),by kernel_rfl,rfl,rfl⟩
def Z3c:VCode:=cof Tryz.f188
theorem Q3o:Fun Tryz.prog 188 Z3c [.tmp 8] 18:=⟨Tryz.f188,Tryz.func188,Q1 (by kernel_rfl),by kernel_rfl,rfl,rfl⟩
def Z3e:VCode:=cof Tryz.f189
theorem Q31:Fun Tryz.prog 189 Z3e [.tmp 12] 41:=⟨Tryz.f189,Tryz.func189,Q1 (by kernel_rfl),by kernel_rfl,rfl,rfl⟩
def Z10:VCode:=cof Tryz.f190
theorem Q15:Fun Tryz.prog 190 Z10 [] 76:=⟨Tryz.f190,Tryz.func190,Q1 (by kernel_rfl),by kernel_rfl,rfl,rfl⟩
def Z19:VCode:=cof Tryz.f191
theorem Q1x:Fun Tryz.prog 191 Z19 [.tmp 6] 15:=⟨Tryz.f191,Tryz.func191,Q1 (by kernel_rfl),by kernel_rfl,rfl,rfl⟩
def Z2v:VCode:=cof Tryz.f192
theorem Q1b:Fun Tryz.prog 192 Z2v [.tmp 10] 36:=⟨Tryz.f192,Tryz.func192,Q1 (by kernel_rfl),by kernel_rfl,rfl,rfl⟩
def Z0w:VCode:=cof Tryz.f193
theorem Q3l:Fun Tryz.prog 193 Z0w [] 82:=⟨Tryz.f193,Tryz.func193,Q1 (by kernel_rfl),by kernel_rfl,rfl,rfl⟩
def Z1w:VCode:=cof Tryz.f194
theorem Q0x:Fun Tryz.prog 194 Z1w [.tmp 8] 18:=⟨Tryz.f194,Tryz.func194,Q1 (by kernel_rfl),by kernel_rfl,rfl,rfl⟩
def Z0u:VCode:=cof Tryz.f195
theorem Q14:Fun Tryz.prog 195 Z0u [.tmp 12] 41:=⟨Tryz.f195,Tryz.func195,Q1 (by kernel_rfl),by kernel_rfl,rfl,rfl⟩
def Z18:VCode:=cof Tryz.f196
theorem Q3j:Fun Tryz.prog 196 Z18 [.tmp 10,.tmp 11] 32:=⟨Tryz.f196,Tryz.func196,Q1 (by kernel_rfl),by kernel_rfl,rfl,rfl⟩
def Z39:VCode:=cof Tryz.f197
theorem Q2l:Fun Tryz.prog 197 Z39 [.tmp 8,.tmp 9] 28:=⟨Tryz.f197,Tryz.func197,Q1 (by kernel_rfl),by kernel_rfl,rfl,rfl⟩
def Z1e:VCode:=cof Tryz.f198
theorem Q38:Fun Tryz.prog 198 Z1e [.tmp 10,.tmp 11] 32:=⟨Tryz.f198,Tryz.func198,Q1 (by kernel_rfl),by kernel_rfl,rfl,rfl⟩
end Go.Proofs.Tryz
namespace Go.Proofs.Tryz
open Go Go.V
def Z4i:List (Option FEnt):=[
 none,
 none,
 some (.code c2 [] 1),
 some (.code c3 [.tmp 2] 84),
 some (.code c4 [.tmp 4] 203),
 some (.code c5 [.tmp 2] 92),
 some (.code c6 [.tmp 6] 129),
 some (.code c7 [.tmp 4] 283),
 some (.code c8 [.tmp 6] 207),
 some (.code c9 [.tmp 2] 249),
 some (.code c10 [.tmp 6] 205),
 some (.code c11 [.tmp 2] 265),
 some (.code c12 [.tmp 4] 132),
 some (.code c13 [.tmp 4] 228),
 some (.code c14 [.tmp 6] 133),
 some (.code c15 [.tmp 0] 226),
 some (.code c16 [.cell 2 true 2] 9),
 some (.codeJ c17 [.tmp 2,.tmp 3] 49),
 some (.codeJ c18 [.cell 2 true 2,.tmp 3] 34),
 some (.code c19 [.tmp 2] 32),
 some (.code c20 [.tmp 2] 45),
 some (.code c21 [.tmp 4] 17),
 some (.code c22 [.tmp 4] 26),
 some (.code c23 [.tmp 2] 74),
 some (.code c24 [.cell 2 true 2] 44),
 some (.code c25 [.tmp 2] 6),
 some (.codeJ c26 [.tmp 4,.tmp 5,.tmp 6,.tmp 7] 79),
 some (.codeJ c27 [.tmp 6,.tmp 7] 29),
 some (.codeJ c28 [.tmp 6,.tmp 7] 33),
 some (.code c29 [.tmp 4] 15),
 some (.code c30 [.tmp 6] 15),
 some (.code c31 [.cell 4 true 4,.tmp 5] 41),
 some (.code c32 [.tmp 6,.tmp 7] 60),
 some (.code c33 [.tmp 2] 37),
 some (.code c34 [.cell 2 true 3] 34),
 some (.code c35 [.tmp 2] 36),
 some (.codeJ c36 [.tmp 2,.tmp 3] 34),
 some (.codeJ c37 [.cell 2 false 1,.tmp 3] 44),
 some (.code c38 [.tmp 2] 78),
 some (.code c39 [.tmp 4] 63),
 some (.code c40 [.tmp 2] 5),
 some (.code c41 [.tmp 4] 27),
 some (.codeJ c42 [.tmp 6,.tmp 7] 57),
 some (.codeJ c43 [.tmp 2,.tmp 3] 45),
 some (.code c44 [.tmp 8] 46),
 some (.code c45 [.tmp 4] 66),
 some (.code c46 [.cell 2 true 2] 50),
 some (.codeJ c47 [.cell 2 true 2,.tmp 3] 54),
 some (.codeJ c48 [.tmp 6,.tmp 7,.tmp 8] 58),
 some (.code c49 [.tmp 4] 20),
 some (.code c50 [.tmp 4] 16),
 some (.code c51 [.cell 2 true 2] 74),
 some (.code c52 [.tmp 4] 52),
 some (.code c53 [.cell 2 true 2] 37),
 some (.code c54 [.tmp 4,.tmp 5,.tmp 6,.tmp 7,.tmp 8] 91),
 some (.code c55 [.cell 2 true 3,.tmp 3] 165),
 some (.code c56 [.tmp 4] 37),
 some (.code c57 [.tmp 2] 11),
 some (.code c58 [.cell 2 true 2,.tmp 3] 54),
 some (.code c59 [.tmp 6,.tmp 7,.tmp 8] 65),
 some (.code c60 [.cell 0 true 2] 8),
 some (.code c61 [.cell 2 true 3] 23),
 some (.code c62 [.cell 2 true 3,.tmp 3] 43),
 some (.code c63 [.tmp 4] 25),
 some (.code c64 [.tmp 4] 12),
 some (.code c65 [.tmp 2] 4),
 some (.code c66 [.tmp 4] 10),
 some (.code c67 [.tmp 4] 20),
 some (.code c68 [.tmp 4] 14),
 some (.code c69 [.tmp 4] 26),
 some (.code c70 [.tmp 4] 55),
 some (.code c71 [.tmp 4] 41),
 some (.code c72 [.tmp 4] 33),
 some (.code c73 [.cell 4 true 4,.tmp 5] 33),
 some (.code c74 [.tmp 2] 70),
 some (.code c75 [.tmp 2] 25),
 some (.code c76 [.tmp 4] 19),
 some (.code c77 [.tmp 2] 5),
 some (.code c78 [.tmp 6] 15),
 some (.code c79 [.tmp 6,.tmp 7] 28),
 some (.code c80 [.tmp 2] 9),
 some (.code c81 [.tmp 2] 4),
 some (.code c82 [.tmp 4] 30),
 some (.code c83 [.tmp 4] 24),
 some (.code c84 [.tmp 2] 7),
 some (.code c85 [.tmp 3] 9),
 some (.code c86 [.tmp 4] 16),
 some (.code c87 [.tmp 2] 6),
 some (.code c88 [.tmp 6] 11),
 some (.code c89 [.tmp 4] 9),
 some (.code c90 [.cell 4 false 1] 39),
 some (.code c91 [.tmp 4] 76),
 some (.code c92 [.cell 6 false 1] 110),
 some (.code c93 [.tmp 4] 26),
 some (.code c94 [.tmp 4] 19),
 some (.code c95 [.tmp 6] 29),
 some (.code c96 [.tmp 4] 9),
 some (.code c97 [.tmp 2] 9),
 some (.code c98 [.tmp 6] 88),
 some (.code c99 [.tmp 4] 6),
 some (.code Z15 [.tmp 4] 9),
 some (.code Z33 [.tmp 4] 23),
 some (.code Z04 [.tmp 4] 10),
 some (.code Q9x [.cell 2 true 3,.tmp 3] 30),
 some (.code Z01 [.tmp 4] 26),
 some (.code Z1y [.tmp 4] 11),
 some (.code Z35 [.cell 2 true 3] 5),
 some (.code Z2f [.cell 6 false 1] 73),
 some (.code Z2y [.tmp 2] 5),
 some (.code Z1l [] 14),
 some (.code Z2d [] 16),
 some (.code Z3h [.tmp 2] 6),
 some (.code Z0e [.tmp 3] 14),
 some (.code Z0c [.tmp 4] 9),
 some (.code Z0p [.tmp 2] 4),
 some (.code Z0n [.tmp 4] 48),
 some (.code Z0b [.tmp 6] 25),
 some (.code Z05 [] 28),
 some (.code Z0i [.tmp 4] 52),
 some (.code Z06 [.tmp 2] 5),
 some (.code Z25 [] 11),
 some (.code Z0h [] 14),
 some (.code Z1q [.tmp 6] 79),
 some (.code Z0j [.tmp 3] 17),
 some (.code Z0d [.tmp 4] 9),
 some (.code Q9w [.tmp 4] 13),
 some (.code Z1i [.tmp 4] 19),
 some (.code Z1n [.tmp 6] 8),
 some (.code Z26 [] 14),
 some (.code Z17 [.tmp 4] 36),
 some (.code Z1a [.tmp 4] 66),
 some (.code Z1v [.tmp 4] 26),
 some (.code Z2r [.tmp 6] 22),
 some (.code Z1c [.tmp 3] 12),
 some (.code Z24 [.tmp 4] 143),
 some (.code Z21 [] 31),
 some (.code Z13 [.tmp 4] 19),
 some (.code Z0m [.tmp 4] 13),
 some (.code Z2u [.tmp 4] 6),
 some (.code Z1d [.tmp 4] 13),
 some (.code Z1g [] 148),
 some (.code Z2x [.tmp 2] 8),
 some (.code Z0a [.tmp 4] 19),
 some (.code Z2o [] 19),
 some (.code Q9y [.tmp 4,.tmp 5] 30),
 some (.code Q9z [] 39),
 some (.code Z07 [.tmp 4] 13),
 some (.code Z1u [] 134),
 some (.code Z00 [.tmp 4] 19),
 some (.code Z38 [] 45),
 some (.code Z11 [.tmp 8] 55),
 some (.code Z1b [] 148),
 some (.code Z3b [.tmp 4] 18),
 some (.code Z09 [.tmp 2] 26),
 some (.code Z2j [] 20),
 some (.code Z30 [] 53),
 some (.code Z1m [] 60),
 some (.code Z0t [] 67),
 some (.code Z2l [.tmp 8,.tmp 9] 63),
 some (.code Z2c [] 34),
 some (.code Z34 [.tmp 8] 141),
 some (.code Z2k [.tmp 10] 90),
 some (.code Z23 [.tmp 10,.tmp 11] 178),
 some (.code Z2p [.tmp 2] 19),
 some (.code Z1t [.tmp 2] 25),
 some (.code Z0f [.tmp 4,.tmp 5] 17),
 some (.code Q9v [.tmp 4,.tmp 5] 51),
 some (.code Z2n [] 49),
 some (.code Z3a [] 56),
 some (.code Z3i [] 65),
 some (.code Z2i [.tmp 6,.tmp 7] 57),
 some (.code Z27 [] 32),
 some (.code Z28 [.tmp 6] 133),
 some (.code Z14 [.tmp 4] 17),
 some (.code Z3g [.tmp 8] 84),
 some (.code Z3d [.tmp 8,.tmp 9] 168),
 some (.code Z12 [] 53),
 some (.code Z22 [] 60),
 some (.code Z2q [] 67),
 some (.code Z1j [.tmp 8,.tmp 9] 63),
 some (.code Z2a [] 34),
 some (.code Z2z [.tmp 8] 141),
 some (.code Z29 [.tmp 10] 90),
 some (.code Z1f [.tmp 10,.tmp 11] 178),
 some (.code Z0l [.tmp 2] 22),
 some (.code Z1s [] 82),
 some (.code Z31 [.tmp 2] 7),
 some (.code Z1k [.tmp 2] 33),
 some (.code Z3c [.tmp 8] 18),
 some (.code Z3e [.tmp 12] 41),
 some (.code Z10 [] 76),
 some (.code Z19 [.tmp 6] 15),
 some (.code Z2v [.tmp 10] 36),
 some (.code Z0w [] 82),
 some (.code Z1w [.tmp 8] 18),
 some (.code Z0u [.tmp 12] 41),
 some (.code Z18 [.tmp 10,.tmp 11] 32),
 some (.code Z39 [.tmp 8,.tmp 9] 28),
 some (.code Z1e [.tmp 10,.tmp 11] 32)]
def IC:Tab:=λf=>(Z4i[f]?).join
theorem Q50:EntsOk Tryz.prog 0 Z4i:=⟨trivial,trivial,Z3z,Z4g,Z4e,Z3s,Z4j,Z47,Z3o,Z42,fun10,Q89,Q9i,Q8y,Q9d,Q4a,Q5b,Q9e,Q74,Q79,Q81,Q8r,Q9n,Q7r,Q6u,Q51,Q5s,Q5x,Q5q,Q6s,Q7j,Q7s,Q9p,Q88,Q80,Q7v,Q6p,Q8o,Q9m,Q6v,Q9s,Q8v,Q71,Q90,Q6k,Q7t,Q7b,Q6n,Q8k,Q5o,Q43,Q91,Q9k,Q5d,Q56,Q8s,Q7q,Q85,Q8h,Q8w,Q9l,Q7z,Q7m,Q70,Q7u,Q7e,Q7d,Q8f,Q8e,Q99,Q8a,Q9a,Q8m,Q0h,Q5e,Q5m,Q49,Q42,Q48,Q4f,Q3u,Q3w,Q6m,Q73,Q78,Q6l,Q52,Q4y,Q4q,Q7i,Q86,Q8z,Q8u,Q9r,Q9t,Q7p,Q6q,Q87,Q6y,Q9f,Q32,Q1h,FT,FQ,EY,Q1y,Q1c,Q3d,Q3m,Q36,Q3n,Q3t,I4,ID,Im,FE,FM,Ix,ED,IU,fun120,FH,Q12,FR,F9,IH,Q2s,Q1v,Q1a,Q25,Q1w,Q3e,Q3q,Q3s,Q3k,Q0v,Q2t,EG,Q2q,Q29,Q1l,Q23,EP,Q1z,FO,FN,Ir,Q3f,F5,Q0r,Q34,Q28,Q1i,I1,Q2o,Q3c,Q1m,Q2g,Q0t,Q1q,Q1k,Q3p,Q2w,Q26,Q2d,FV,Fh,Q16,Q2x,Q1g,Q3g,Q1f,Q2f,Q2z,Q24,Q1r,Q1j,Q3a,Q3b,Q0w,Q2b,Q3h,Q0s,Q1d,Fu,Q2i,Q2n,Q0y,Q3o,Q31,Q15,Q1x,Q1b,Q3l,Q0x,Q14,Q3j,Q2l,Q38,trivial⟩
theorem HP:TabOk Tryz.prog IC:=Cj Q50
end Go.Proofs.Tryz