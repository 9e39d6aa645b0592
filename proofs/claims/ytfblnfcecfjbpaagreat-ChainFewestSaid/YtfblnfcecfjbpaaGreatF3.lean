/- A framework for walks, contracts of functions, and their proofs: part 3. -/
import Derived.Test.YtfblnfcecfjbpaaGreatProg
import Derived.Test.YtfblnfcecfjbpaaGreatF2
noncomputable section
namespace Go.V
open Go
structure FRel (e:ET) (env:Env):Prop where
 m:e.m=List.length env
 sm:e.m<=1000000
 get:∀ i,env.getD i undef=e.get i
theorem ET.q0v {e:ET}{i:Nat}(hi:i<e.m):e.get i=e.t.get undef i:=by unfold ET.get;rw[show Nat.blt i e.m=true from Nat.ble_eq_true_of_le hi]
theorem ET.q0r {e:ET}{i:Nat}(hi:e.m<=i):e.get i=undef:=by
 unfold ET.get;cases hb:Nat.blt i e.m with
 |false=>rfl
 |true=>have:=zC hb;omega
theorem ET.q2c {e:ET}{i:Nat}{v:Value}(hi:i<e.m):e.set i v=⟨e.t.set undef 32 i v,e.m⟩:=by unfold ET.set;rw[show Nat.blt i e.m=true from Nat.ble_eq_true_of_le hi]
theorem ET.q2d {e:ET}{i:Nat}{v:Value}(hi:e.m<=i):e.set i v=e:=by
 unfold ET.set;cases hb:Nat.blt i e.m with
 |false=>rfl
 |true=>have:=zC hb;omega
theorem ET.q2g (e:ET) (i:Nat) (v:Value):(e.set i v).m=e.m:=by
 rcases zh i e.m with h|h
 .rw[ET.q2c h]
 .rw[ET.q2d h]
theorem ET.q1e {e:ET}(hs:e.m<=1000000) (i:Nat) (v:Value) (j:Nat):(e.set i v).get j=if j=i/\i<e.m then v else e.get j:=by
 rcases zh i e.m with hi|hi
 .rw[ET.q2c hi];rcases zh j e.m with hj|hj
  .rw[ET.q0v (e:=⟨e.t.set undef 32 i v,e.m⟩) hj,ET.q0v hj];show (e.t.set undef 32 i v).get undef j=_;rw[GT.q1e undef 32 _ _ _ _ (by omega)];by_cases h:j=i
   .rw[z0 h,z0 ⟨h,hi⟩]
   .rw[z1 h,z1 (λe=>h e.1)]
  .rw[ET.q0r (e:=⟨e.t.set undef 32 i v,e.m⟩) hj,ET.q0r hj,z1 (by rintro⟨rfl,_⟩;omega)]
 .rw[ET.q2d hi,z1 (by rintro⟨_,h⟩;omega)]
theorem FRel.set {e:ET}{env:Env}(h:FRel e env) (i:Nat) (v:Value):FRel (e.set i v) (env.set i v):=by
 refine⟨by rw[ET.q2g,xx];exact h.m,by rw[ET.q2g];exact h.sm,λj=>?_⟩;rw[ET.q1e h.sm,<-h.get,z4,z4,xu,h.m];by_cases bY:i=j
 .subst bY;rcases zh i (List.length env) with hi|hi
  .rw[z0 rfl,z0 hi,z0 ⟨rfl,hi⟩];rfl
  .rw[z0 rfl,z1 (by omega),z1 (by rintro⟨_,h⟩;omega),zj hi]
 .rw[z1 bY,z1 (λe=>bY e.1.symm)]
theorem FRel.put {e:ET}{env:Env}(h:FRel e env) (d:Option Nat) (v:Value):FRel (e.put d v) (X7 env d v):=by
 cases d with
 |none=>exact h
 |some d=>exact h.set d v
theorem Hd {e:ET}{env:Env}(h:FRel e env):MW e=Q3 env:=by
 funext x
 cases x with
 |tmp t=>exact(h.get t).symm
 |_=>rfl
theorem CT {e:ET}{env:Env}(h:FRel e env) (g:Option (Nat×Bool)):Fy e g=J3 env g:=by
 cases g with
 |none=>rfl
 |some p =>obtain⟨d,w⟩:=p;simp only[Fy,J3,h.get];cases e.get d<;>rfl
theorem Ra:∀ (ps:List Nat) (vs:List Value) {e:ET}{env:Env},FRel e env->FRel (Q1p e ps vs) (Hy env ps vs)
 |[],vs,e,env,h=>by cases vs<;>exact h
 |p::ps,[],e,env,h=>h
 |p::ps,v::vs,e,env,h=>Ra ps vs (h.set p v)
theorem Ot:∀ (l:List Value) (i:Nat) (t:GT Value) (j:Nat),i+l.length<=1000000->(etL l i t).get undef j=if i<=j/\j<i+l.length then l.getD (j-i) undef else t.get undef j
 |[],i,t,j,_=>by rw[z1 (by simp only[List.length_nil];omega)];rfl
 |v::l,i,t,j,h=>by
  have h:i+(l.length+1)<=1000000:=h;show (etL l (i+1) (t.set undef 32 i v)).get undef j=_;rw[Ot l (i+1) _ j (by omega),GT.q1e undef 32 _ _ _ _ (by omega)];by_cases aL:j=i
  .subst aL;rw[z1 (by omega),z0 rfl,z0 (by simp)];simp
  .by_cases hc:i+1<=j/\j<i+1+l.length
   .rw[z0 hc,z0 (by simp;omega),show j-i=j-(i+1)+1 by omega];rfl
   .rw[z1 hc,z1 aL,z1 (by simp;omega)]
theorem ET.q1o {args:List Value}{nt:Nat}(h:(ET.of args nt).m<=1000000):FRel (ET.of args nt) (args++List.replicate (nt-args.length) undef):=by
 refine⟨by simp[ET.of],h,λi=>?_⟩;have hm:(ET.of args nt).m=args.length+(nt-args.length):=rfl;rw[hm] at h;rcases zh i (ET.of args nt).m with hi|hi
 .rw[ET.q0v hi];show _=(etL args 0 .nil).get undef i;rw[Ot _ _ _ _ (by omega),z4,List.getElem?_append];rw[hm] at hi;by_cases hl:i<args.length
  .rw[z0 hl,z0 (by omega)];simp[z4]
  .rw[z1 hl,z1 (by omega),List.getElem?_replicate,z0 (by omega)];rfl
 .rw[ET.q0r hi];rw[hm] at hi;rw[z4,zj (by simp;omega)];rfl
def NM (P:Program) (f:FuncId) (m:Memo):Prop :=
 VCalled P f m.args (Qt m.bl []) (λu U=>u=m.v/\U=Qt m.bl m.fr)/\∀ b∈m.fr,b.c.all QN=true
structure TabOk (P:Program) (T:Tab):Prop where
 code:∀ f vc rs nt,T f=some (.code vc rs nt)->Fun P f vc rs nt
 codeJ:∀ f vc rs nt,T f=some (.codeJ vc rs nt)->Fun P f vc rs nt
 codeM:∀ f vc rs nt ms,T f=some (.codeM vc rs nt ms)->Fun P f vc rs nt/\∀ m∈ms,NM P f m
 same:∀ f,T f=some .same->∀ (v:Value) (M:Heap) (K:Value->Heap->Prop),K v M->VCalled P f [v] M K
section
variable {P:Program}{T:Tab}{ev:Q6p}
abbrev VR:=Nat->Env×Loop
def YOk (P:Program) (ys:Ys) (rs:VR) (n:Nat):Prop :=
 ∀ i c,ys.find i=some c->i<n/\FRel c.env (rs i).1/\Vg P i (A9 (vwp (Q2 P) c.a (some i)) (vwp (Q2 P) c.b (some i)) c.ps (rs i).1 (rs i).2 i)
theorem YOk.mono {ys:Ys}{rs bn:VR}{n n':Nat}(h:YOk P ys rs n) (hn:n<=n') (hr:∀ i,i<n->bn i=rs i):YOk P ys bn n':=λi c hc=>by obtain⟨h1,h2,h3⟩:=h i c hc;rw[hr i h1];exact⟨by omega,h2,h3⟩
def Q6w {A:Type}(G:A->Prop) (rs:VR) (h:CH) (k:Value->CH->A) (K:Value->Heap->Prop):Prop :=
 ∀ v h' bn M',h.n<=h'.n->(∀ i,i<h.n->bn i=rs i)->CSim bn h' M'->G (k v h')->K v M'
def Q05 {A:Type}(G:A->Prop) (rs:VR) (h:CH) (m:Nat) (k:Exit->ET->CH->A) (Q:Exit->Env->Heap->Prop):Prop :=
 ∀ e dK h' bn M' af,h.n<=h'.n->(∀ i,i<h.n->bn i=rs i)->CSim bn h' M'->FRel dK af->List.length af=m->G (k e dK h')->Q e af M'
def Q18 {A:Type}(G:A->Prop) (rs:VR) (h:CH) (m:Nat) (k:ET->CH->A) (K:Env->Heap->Prop):Prop :=
 ∀ dK h' bn M' af,h.n<=h'.n->(∀ i,i<h.n->bn i=rs i)->CSim bn h' M'->FRel dK af->List.length af=m->G (k dK h')->K af M'
def Sd (P:Program) (ev:Q6p):Prop:=∀ {A:Type}(R:AnsOps A) (G:A->Prop),Good R G->∀ (ys:Ys) (c:VCode) (ro:Option Nat) (et:ET) (env:Env) (h:CH) (k:Exit->ET->CH->A) (rs:VR) (M:Heap) (Q:Exit->Env->Heap->Prop),
 YOk P ys rs h.n->CSim rs h M->FRel et env->G (ev R ys c ro et h k)->Q05 G rs h (List.length env) k Q->vwp (Q2 P) c ro Q env M
theorem G_ {rs:VR}{h:CH}{M:Heap}(hs:CSim rs h M) {et:ET}{env:Env}(hE:FRel et env) {r:VResult}{v:Value}(hr:HH et h r=some v):Jm env M r=some v:=by
 cases r with
 |tmp t=>simp only[HH] at hr;simp only[Jm,hE.get];exact hr
 |cell a agg size =>
  simp only[HH] at hr;split at hr
  .rename_i p hp;rw[<-hE.get] at hp;obtain⟨_,M',h1,_⟩:=Kt (o:=.load agg size (.tmp a)) (ev:=Q3 env) hs hp;simp only[Jm,h1,xj];exact hr
  .cases hr
theorem MO {rs:VR}{h:CH}{M:Heap}(hs:CSim rs h M) {et:ET}{env:Env}(hE:FRel et env):∀ (l:List VResult) (vs:List Value),GK et h l=some vs->l.mapM (Jm env M)=some vs
 |[],vs,hr=>by simp[GK] at hr;subst hr;rfl
 |r::l,vs,hr=>by
  simp only[GK] at hr;split at hr
  .cases hr
  .rename_i v hv;split at hr
   .cases hr
   .rename_i ws hw;obtain rfl:=osj hr;rw[xk,G_ hs hE hv];simp[MO hs hE l ws hw]
theorem MQ {rs:VR}{h:CH}{M:Heap}(hs:CSim rs h M) {et:ET}{env:Env}(hE:FRel et env) {l:List VResult}{v:Value}(hr:Md et h l=some v):ZM env M l=some v:=by
 unfold Md at hr;split at hr
 .exact G_ hs hE hr
 .rename_i av;split at hr
  .rename_i vs cE;unfold ZM;split
   .rename_i r;exact absurd rfl (av r)
   .rw[MO hs hE _ _ cE];exact hr
  .cases hr
variable {A:Type}{R:AnsOps A}{G:A->Prop}
theorem Mk (hG:Good R G) {rl:List VResult}{k:Value->CH->A}{rs:VR}{h:CH}{M:Heap}{K:Value->Heap->Prop}{m:Nat}(hk:Q6w G rs h k K):Q05 G rs h m (Q63 R.fail rl k) (Z1m M rl K):=by
 intro e dK h' bn M' af hn hr a8 bZ _ hg;have fin:G (match Md dK h' rl with|some v=>k v h'|none=>R.fail)->QW (ZM af M' rl) λv=>∃ v' aE,DropTo M v M' v' aE/\K v' aE:=by
  intro hg;split at hg
  .rename_i v hv;rw[MQ a8 bZ hv];exact⟨v,M',.refl _ _ _,hk v h' bn M' hn hr a8 hg⟩
  .exact(hG.fail hg).elim
 cases e with
 |normal=>exact fin hg
 |ret=>exact fin hg
 |_=>exact(hG.fail hg).elim
def CH.toHeap (rs:VR) (h:CH):Heap:=⟨λi=>(h.get i).map (EB.to (rs i)),h.n,λi hi=>by rw[CH.q0r hi];rfl⟩
theorem DB {rs:VR}{h:CH}(hr:h.n<=1000000001):CSim rs h (h.toHeap rs):=⟨rfl,hr,λ_=>rfl⟩
theorem CSim.eq {rs:VR}{h:CH}{M:Heap}(hs:CSim rs h M):M=h.toHeap rs:=Heap.ext' (λj=>hs.get j) hs.n.symm
def EP (x:Value×CH) (a:Option (Value×CH)):Prop:=∃ y,a=some y/\y.1=x.1/\y.2.n=x.2.n/\∀ i,y.2.get i=x.2.get i
theorem CV {h h':CH}(hs:h.same h'=true):h.n=h'.n/\∀ i,h.get i=h'.get i:=by
 simp only[CH.same,z2,z6,zr,Nat.beq_eq] at hs;refine⟨hs.1,λi=>?_⟩;rcases zh i h.n with hi|hi
 .have:=hs.2 i hi;split at this
  .rename_i h1 h2;rw[h1,h2]
  .rename_i a b h1 h2;rw[h1,h2,EB.beq_eq this]
  .cases this
 .rw[CH.q0r hi,CH.q0r (by rw[<-hs.1];exact hi)]
theorem Rj (x:Value×CH):Good joinOps (EP x):=by
 refine⟨λ⟨y,h,_⟩=>(by cases h),λa b h=>?_⟩;obtain⟨y,h1,h2,h3,h4⟩:=h;cases a with
 |none=>cases h1
 |some xa =>
  cases b with
  |none=>cases h1
  |some xb =>
   simp only[joinOps] at h1;split at h1
   .rename_i hc;obtain rfl:=osj h1;have e1:=NA _ _ _ hc.1;obtain⟨e2,e3⟩:=CV hc.2;exact⟨⟨xa,rfl,h2,h3,h4⟩,xb,rfl,by rw[<-e1];exact h2,by rw[<-e2];exact h3,λi=>by rw[<-e3 i];exact h4 i⟩
   .cases h1
theorem Oy {b:EB}{q:Env×Loop}(h:b.plainE=true):(b.to q).plain=true/\∀ q',b.to q'=b.to q:=by cases b<;>first|exact⟨h,λ_=>rfl⟩|cases h
def gcP (n0:Nat) (refs:List Nat) (i:Nat):Nat:=if i<n0 then i else refs.getD (i-n0) 0
def RExt (n0:Nat) (a b:List Nat):Prop:=(∃ t,b=a++t/\∀ x∈t,n0<=x)/\(a.Nodup->b.Nodup)
theorem RExt.refl (n0:Nat) (a:List Nat):RExt n0 a a:=⟨⟨[],by simp,λx hx=>by cases hx⟩,id⟩
theorem RExt.trans {n0:Nat}{a b c:List Nat}(h:RExt n0 a b) (k:RExt n0 b c):RExt n0 a c:=by obtain⟨⟨t,rfl,ht⟩,h2⟩:=h;obtain⟨⟨u,rfl,hu⟩,k2⟩:=k;exact⟨⟨t++u,by simp,λx hx=>(zu.1 hx).elim (ht x) (hu x)⟩,λh=>k2 (h2 h)⟩
def Sub (a b:List Nat):Prop:=∃ t,b=a++t
theorem Sub.trans {a b c:List Nat}(h:Sub a b) (k:Sub b c):Sub a c:=by obtain⟨t,rfl⟩:=h;obtain⟨u,rfl⟩:=k;exact⟨t++u,by simp⟩
theorem RExt.sub {n0:Nat}{a b:List Nat}(h:RExt n0 a b):Sub a b:=by obtain⟨⟨t,h,_⟩,_⟩:=h;exact⟨t,h⟩
theorem Hb (n0:Nat) (refs:List Nat) (i:Nat):RExt n0 refs (gcI n0 refs i).2/\∀ (all:List Nat),Sub (gcI n0 refs i).2 all->(gcI n0 refs i).1<n0+all.length/\gcP n0 all (gcI n0 refs i).1=i:=by
 unfold gcI;split
 .rename_i hi;exact⟨RExt.refl _ _,λall _=>⟨by simp only;omega,by simp[gcP,hi]⟩⟩
 .rename_i hi;split
  .rename_i hc;have hm:i∈refs:=by simpa using hc
   have ah:=List.idxOf_lt_length_of_mem hm;refine⟨RExt.refl _ _,λall ⟨t,ht⟩=>?_⟩;simp only at ht;have b6:refs.idxOf i<all.length:=by rw[ht,zB];omega
   refine⟨by simp only;omega,?_⟩;simp only[gcP,z1 (show ¬ n0+refs.idxOf i<n0 by omega),show n0+refs.idxOf i-n0=refs.idxOf i by omega,z4];rw[ht,x6 ah,z3 ah];simp
  .rename_i hc;have hm:i∉refs:=by simpa using hc
   refine⟨⟨⟨[i],rfl,λx hx=>by simp at hx;omega⟩,λh1=>List.nodup_append.2 ⟨h1,by simp,λa ha b hb=>by simp at hb;subst hb;rintro rfl;exact hm ha⟩⟩,λall ⟨t,ht⟩=>?_⟩;simp only at ht;have ah:refs.length<all.length:=by rw[ht];simp
   refine⟨by simp only;omega,?_⟩;simp only[gcP,z1 (show ¬ n0+refs.length<n0 by omega),show n0+refs.length-n0=refs.length by omega];simp[ht,z4]
def Q91 (n0:Nat) (refs fB:List Nat) (v' v:Value):Prop:=RExt n0 refs fB/\∀ (all:List Nat),Sub fB all->Ren (n0+all.length) (gcP n0 all) v' v
def Z4a (n0:Nat) (refs fB:List Nat) (v' v:List Value):Prop:=RExt n0 refs fB/\∀ (all:List Nat),Sub fB all->LRen (n0+all.length) (gcP n0 all) v' v
theorem Yj {n0:Nat}{g:List Nat->Value->Option (Value×List Nat)}(hg:∀ refs v p,g refs v=some p->Q91 n0 refs p.2 p.1 v):∀ (vs:List Value) (refs:List Nat) (p:List Value×List Nat),OJ g vs refs=some p->Z4a n0 refs p.2 p.1 vs
 |[],refs,p,h=>by obtain rfl:=osj h;exact⟨RExt.refl _ _,λall _=>⟨rfl,λi a b ha=>by simp at ha⟩⟩
 |v::vs,refs,p,h=>by
  simp only[OJ] at h;split at h
  .cases h
  .rename_i p1 h1;split at h
   .cases h
   .rename_i p2 h2;obtain rfl:=osj h;obtain⟨a1,a2⟩:=hg _ _ _ h1;obtain⟨b1,b2⟩:=Yj hg vs _ _ h2;refine⟨a1.trans b1,λall ae=>?_⟩;have c1:=a2 all (b1.sub.trans ae);have c2:=b2 all ae;refine⟨by simp[c2.1],λi a b ha hb=>?_⟩;cases i with
    |zero=>simp at ha hb;subst ha;subst hb;exact c1
    |succ i=>exact c2.2 i a b (by simpa using ha) (by simpa using hb)
theorem LRen.agg {n:Nat}{π:Nat->Nat}{cN:List Value}{cs:Array Value}(h:LRen n π cN cs.toList):Ren n π (.agg cN.toArray) (.agg cs) :=
 .agg _ _ (by simpa using h.1) λi h1 h2=>h.2 i _ _ (by simp) (by simp)
theorem LRen.tuple {n:Nat}{π:Nat->Nat}{cN:List Value}{cs:Array Value}(h:LRen n π cN cs.toList):Ren n π (.tuple cN.toArray) (.tuple cs) :=
 .tuple _ _ (by simpa using h.1) λi h1 h2=>h.2 i _ _ (by simp) (by simp)
theorem D3 (n0:Nat):∀ (f:Nat) (refs:List Nat) (v:Value) (p:Value×List Nat),gcX n0 f refs v=some p->Q91 n0 refs p.2 p.1 v:=by
 intro f;induction f with
 |zero=>intro refs v p h;cases h
 |succ f ih =>
  intro refs v p h;unfold gcX at h;split at h
  .rename_i i o;obtain rfl:=osj h;obtain⟨h1,h2⟩:=Hb n0 refs i;refine⟨h1,λall ae=>?_⟩;obtain⟨k1,k2⟩:=h2 all ae;have:=Ren.ptr (n:=n0+all.length) (π:=gcP n0 all) (gcI n0 refs i).1 o k1
   rwa [k2] at this
  .rename_i i o l c;obtain rfl:=osj h;obtain⟨h1,h2⟩:=Hb n0 refs i;refine⟨h1,λall ae=>?_⟩;obtain⟨k1,k2⟩:=h2 all ae;have:=Ren.sl (n:=n0+all.length) (π:=gcP n0 all) (gcI n0 refs i).1 o l c k1
   rwa [k2] at this
  .rename_i i o l c;obtain rfl:=osj h;obtain⟨h1,h2⟩:=Hb n0 refs i;refine⟨h1,λall ae=>?_⟩;obtain⟨k1,k2⟩:=h2 all ae;have:=Ren.slx (n:=n0+all.length) (π:=gcP n0 all) (gcI n0 refs i).1 o l c k1
   rwa [k2] at this
  .rename_i i;obtain rfl:=osj h;obtain⟨h1,h2⟩:=Hb n0 refs i;refine⟨h1,λall ae=>?_⟩;obtain⟨k1,k2⟩:=h2 all ae;have:=Ren.map (n:=n0+all.length) (π:=gcP n0 all) (gcI n0 refs i).1 k1
   rwa [k2] at this
  .obtain rfl:=osj h;exact⟨RExt.refl _ _,λall _=>.poison _⟩
  .split at h
   .rename_i q hq;obtain rfl:=osj h;obtain⟨h1,h2⟩:=ih _ _ _ hq;exact⟨h1,λall ae=>.iface _ _ _ (h2 all ae)⟩
   .cases h
  .split at h
   .rename_i q hq;obtain rfl:=osj h;obtain⟨h1,h2⟩:=Yj ih _ _ _ hq;exact⟨h1,λall ae=>(h2 all ae).agg⟩
   .cases h
  .split at h
   .rename_i q hq;obtain rfl:=osj h;obtain⟨h1,h2⟩:=Yj ih _ _ _ hq;exact⟨h1,λall ae=>(h2 all ae).tuple⟩
   .cases h
  .split at h
   .rename_i q hq;split at h
    .rename_i q2 qI;obtain rfl:=osj h;obtain⟨h1,h2⟩:=Yj ih _ _ _ hq;obtain⟨h3,h4⟩:=Yj ih _ _ _ qI;refine⟨h1.trans h3,λall ae=>?_⟩;have c1:=h2 all (h3.sub.trans ae);have c2:=h4 all ae;exact .func _ _ _ _ _ (by simpa using c1.1) (by simpa using c2.1) (λi h1 h2=>c1.2 i _ _ (by simp) (by simp)) (λi h1 h2=>c2.2 i _ _ (by simp) (by simp))
    .cases h
   .cases h
  .rename_i i;split at h
   .rename_i hi;obtain rfl:=osj h;refine⟨RExt.refl _ _,λall _=>?_⟩;have:=Ren.yield (n:=n0+all.length) (π:=gcP n0 all) i (by omega)
    rwa [show gcP n0 all i=i by simp[gcP,hi]] at this
   .cases h
  .split at h
   .rename_i hp;obtain rfl:=osj h;exact⟨RExt.refl _ _,λall _=>.plain _ hp⟩
   .cases h
theorem L2 (n0:Nat):∀ (es:List Jo) (refs:List Nat) (p:List Jo×List Nat),Z13 n0 es refs=some p->RExt n0 refs p.2/\∀ (all:List Nat),Sub p.2 all ->
  p.1.length=es.length/\∀ (k:Nat) (a b:Jo),p.1[k]?=some a->es[k]?=some b->a.1=b.1/\a.2.2=b.2.2/\Ren (n0+all.length) (gcP n0 all) a.2.1 b.2.1
 |[],refs,p,h=>by obtain rfl:=osj h;exact⟨RExt.refl _ _,λall _=>⟨rfl,λi a b ha=>by simp at ha⟩⟩
 |e::es,refs,p,h=>by
  simp only[Z13] at h;split at h
  .cases h
  .rename_i p1 h1;split at h
   .cases h
   .rename_i p2 h2;obtain rfl:=osj h;obtain⟨a1,a2⟩:=D3 n0 _ _ _ _ h1;obtain⟨b1,b2⟩:=L2 n0 es _ _ h2;refine⟨a1.trans b1,λall ae=>?_⟩;have c1:=a2 all (b1.sub.trans ae);obtain⟨c2,c3⟩:=b2 all ae;refine⟨by simp[c2],λi a b ha hb=>?_⟩;cases i with
    |zero=>simp at ha hb;subst ha;subst hb;exact⟨rfl,rfl,c1⟩
    |succ i=>exact c3 i a b (by simpa using ha) (by simpa using hb)
theorem Q03 {n0:Nat}{refs:List Nat}{b:EB}{p:EB×List Nat}(h:gcB n0 refs b=some p):RExt n0 refs p.2/\∀ (all:List Nat),Sub p.2 all->∀ q q',BRen (n0+all.length) (gcP n0 all) (p.1.to q') (b.to q):=by
 unfold gcB at h;split at h
 .split at h
  .rename_i q hq;obtain rfl:=osj h;obtain⟨h1,h2⟩:=Yj (D3 n0 8) _ _ _ hq;exact⟨h1,λall ae _ _=>⟨rfl,rfl,rfl,h2 all ae⟩⟩
  .cases h
 .split at h
  .rename_i q hq;obtain rfl:=osj h;obtain⟨h1,h2⟩:=L2 n0 _ _ _ hq;exact⟨h1,λall ae _ _=>⟨rfl,rfl,(h2 all ae).1,(h2 all ae).2⟩⟩
  .cases h
 .cases h
theorem E4 {h':CH}{n0:Nat}:∀ (f k:Nat) (refs:List Nat) (acc:CH) (r:CH×List Nat),Q0z h' n0 f k refs acc=some r->acc.n=n0+k->acc.n<=1000000001 ->
  RExt n0 refs r.2/\r.1.n=n0+r.2.length/\r.1.n<=1000000001/\(∀ i,i<acc.n->r.1.get i=acc.get i) /\
  ∀ j,k<=j->j<r.2.length->∃ b b',h'.get (r.2.getD j 0)=some b/\r.1.get (n0+j)=some b'/\∀ q q',BRen (n0+r.2.length) (gcP n0 r.2) (b'.to q') (b.to q):=by
 intro f;induction f with
 |zero=>intro k refs acc r h;cases h
 |succ f ih =>
  intro k refs acc r h hn hs;simp only[Q0z] at h;split at h
  .split at h
   .rename_i hk;obtain rfl:=osj h;exact⟨RExt.refl _ _,by rw[hn,hk],hs,λ_ _=>rfl,λj h1 h2=>by simp only at h2;omega⟩
   .cases h
  .rename_i hk;split at h
   .cases h
   .rename_i b hb;split at h
    .cases h
    .rename_i p hp;split at h
     .rename_i a7;have a7:acc.n<=1000000000:=zC a7;obtain⟨a1,a2⟩:=Q03 hp;have ja:(acc.push p.1).n=acc.n+1:=rfl;obtain⟨b1,b2,b3,b4,b5⟩:=ih (k+1) p.2 (acc.push p.1) r h (by rw[ja];omega) (by rw[ja];omega);refine⟨a1.trans b1,b2,b3,λi hi=>?_,λj n6 eE=>?_⟩
      .rw[b4 i (by rw[ja];omega),CH.q1q hs,z1 (by omega)]
      .by_cases cW:j=k
       .subst cW;have bg:j<refs.length:=by omega
        obtain⟨t,ht⟩:=(a1.trans b1).sub;have hg:r.2.getD j 0=refs.getD j 0:=by rw[ht,z4,z4,x6 bg]
        refine⟨b,p.1,by rw[hg];exact hb,?_,a2 r.2 b1.sub⟩;rw[<-hn,b4 _ (by rw[ja];omega),CH.q1q hs,z0 rfl]
       .exact b5 j (by omega) eE
     .cases h
theorem Bk {rs bn:VR}{h h':CH}{M M':Heap}(hs:CSim rs h M) (a8:CSim bn h' M') (hr:∀ i,i<h.n->bn i=rs i) {v:Value}{y x:Value×CH}(hg:LD h h' v=some y) (h1:y.1=x.1) (h2:y.2.n=x.2.n) (h3:∀ i,y.2.get i=x.2.get i) :
  DropTo M v M' x.1 (x.2.toHeap rs):=by
 unfold LD at hg;split at hg
 .cases hg
 .rename_i p hp;split at hg
  .cases hg
  .rename_i q hq;obtain rfl:=osj hg;simp only at h1 h2 h3;obtain⟨f1,f2⟩:=D3 h.n 8 [] v p hp;unfold Q39 at hq;split at hq
   .rename_i dX;simp only[CH.keepOk,z2,z6,zr] at dX;obtain⟨hle,dX⟩:=dX;have hle:h.n<=h'.n:=zC hle;have mT:=hs.sm;obtain⟨g0,g1,g2,g3,g4⟩:=E4 _ 0 p.2 ⟨h'.t,h.n⟩ q hq rfl mT;have ae:=f1.trans g0;have eA:q.2.Nodup:=ae.2 List.nodup_nil;have bw:∀ x∈q.2,h.n<=x:=by
     obtain⟨⟨t,ht,hx⟩,_⟩:=ae;simpa [ht] using hx
    have hold:∀ i,i<h.n->q.1.get i=h'.get i:=λi hi=>by rw[g3 i hi,CH.q0v (h:=⟨h'.t,h.n⟩) hi,CH.q0v (by omega)]
    have jD:(x.2.toHeap rs).n=h.n+q.2.length:=by show x.2.n=_;rw[<-h2,g1]
    have rU:∀ i,(x.2.toHeap rs).get i=(q.1.get i).map (EB.to (rs i)):=λi=>by show (x.2.get i).map _=_;rw[<-h3 i]
    rw[<-h1];refine DropTo.rename (gcP h.n q.2) (by rw[jD,<-hs.n];omega) (λi hi=>?_) (λi kE ig=>?_) (λi j kE ig n6 eE he=>?_) (by rw[jD];exact f2 q.2 g0.sub)
    .rw[<-hs.n] at hi;refine⟨by simp[gcP,hi],by rw[rU,hold i hi,a8.get,hr i hi],?_⟩;have:=dX i hi;rw[a8.get,hs.get];split at this
     .rename_i e1 e2;rw[e1,e2];exact .inl rfl
     .rename_i a b e1 e2;rw[e1,e2];rw[zp] at this;rcases this with hb|hb
      .exact .inr ⟨_,rfl,(Oy hb).1⟩
      .rw[EB.beq_eq hb,hr i hi];exact .inl rfl
     .cases this
    .rw[<-hs.n] at kE;rw[jD] at ig;obtain⟨b,b',e1,e2,e3⟩:=g4 (i-h.n) (by omega) (by omega);have jc:gcP h.n q.2 i=q.2.getD (i-h.n) 0:=by simp[gcP,wi.2 kE]
     have aO:q.2.getD (i-h.n) 0∈q.2:=by
      have:i-h.n<q.2.length:=by omega
      simp[z4,this]
     rw[show h.n+(i-h.n)=i by omega] at e2;rw[jc];refine⟨by rw[<-hs.n];exact bw _ aO,b'.to (rs i),b.to (bn (q.2.getD (i-h.n) 0)),by rw[rU,e2];rfl,by rw[a8.get,e1];rfl,by rw[jD];exact e3 _ _⟩
    .rw[<-hs.n] at kE n6;rw[jD] at ig eE;simp only[gcP,wi.2 kE,wi.2 n6,if_false] at he;have jd:i-h.n<q.2.length:=by omega
     have mS:j-h.n<q.2.length:=by omega
     simp only[z4,z3 jd,z3 mS,Option.getD_some] at he;have:=(List.getElem_inj (h₀:=jd) (h₁:=mS) eA).1 he;omega
   .cases hq
theorem HG {a m d:Nat}{g:Value->Option Value}(hg:∀ v u,g v=some u->Sh a m d v u):∀ (vs us:List Value),Z03 g vs=some us->vs.length=us.length/\∀ (i:Nat) (v u:Value),vs[i]?=some v->us[i]?=some u->Sh a m d v u
 |[],us,h=>by obtain rfl:=osj h;exact⟨rfl,λi v u h=>by simp at h⟩
 |v::vs,us,h=>by
  simp only[Z03] at h;split at h
  .cases h
  .rename_i u hu;split at h
   .cases h
   .rename_i je eo;obtain rfl:=osj h;obtain⟨h1,h2⟩:=HG hg vs je eo;refine⟨by simp[h1],λi v' u' gB cw=>?_⟩;cases i with
    |zero=>simp at gB cw;subst gB;subst cw;exact hg _ _ hu
    |succ i=>exact h2 i v' u' (by simpa using gB) (by simpa using cw)
theorem ON (a m d:Nat):∀ (f:Nat) (v u:Value),shX a m d f v=some u->Sh a m d v u:=by
 intro f;induction f with
 |zero=>intro v u h;cases h
 |succ f ih =>
  intro v u h;unfold shX at h;split at h
  .split at h
   .rename_i hc;obtain rfl:=osj h;exact .ptr _ _ hc.1 hc.2
   .cases h
  .split at h
   .rename_i hc;obtain rfl:=osj h;exact .sl _ _ _ _ hc.1 hc.2
   .cases h
  .split at h
   .rename_i p hp;obtain rfl:=osj h;obtain⟨h1,h2⟩:=HG ih _ _ hp;exact .agg _ _ (by simpa using h1) λi k1 k2=>h2 i _ _ (by simp) (by simp)
   .cases h
  .split at h
   .rename_i p hp;obtain rfl:=osj h;obtain⟨h1,h2⟩:=HG ih _ _ hp;exact .tuple _ _ (by simpa using h1) λi k1 k2=>h2 i _ _ (by simp) (by simp)
   .cases h
  .split at h
   .rename_i hc;obtain rfl:=osj h;exact .plain _ hc
   .cases h
theorem PS {rs:VR}{h:CH}{M:Heap}(hs:CSim rs h M):∀ (m:List PB) (k:Nat) (refs r:List Nat),TI h k refs m=some r ->
  Sub refs r/\r.length=k+m.length/\∀ i b,m[i]?=some b->∃ wr c',M.get (r.getD (k+i) 0)=some (.cells c' b.esz wr b.tight)/\LRen r.length (gcP 0 r) b.c c'
 |[],k,refs,r,hb=>by
  simp only[TI] at hb;split at hb
  .rename_i hl;obtain rfl:=osj hb;exact⟨⟨[],by simp⟩,by simp[hl],λi b h=>by simp at h⟩
  .cases hb
 |b::m,k,refs,r,hb=>by
  simp only[TI] at hb;split at hb
  .rename_i hk;split at hb
   .rename_i c e w t hg;split at hb
    .rename_i p hp;split at hb
     .rename_i hc;simp only[z2,zi,zS] at hc;obtain⟨rfl,rfl,h3⟩:=hc;have h3:=Ug (NA 20) _ _ h3;obtain⟨s1,s2⟩:=Yj (D3 0 8) _ _ _ hp;obtain⟨i1,i2,i3⟩:=PS hs m (k+1) p.2 r hb;have eU:=s1.sub.trans i1;refine⟨eU,by rw[i2,zP];omega,λi b' cu=>?_⟩;cases i with
      |zero =>
       have cu:b=b':=by simpa using cu
       subst cu;obtain⟨u,hu⟩:=eU;have dY:r.getD (k+0) 0=refs.getD k 0:=by rw[hu,zM,z4,z4,x6 hk]
       have hl:=s2 r i1;rw[h3,zV] at hl;exact⟨w,c,by rw[dY];exact hs.cells hg,hl⟩
      |succ i =>
       have:=i3 i b' (by simpa using cu)
       rwa [show k+1+i=k+(i+1) by omega] at this
     .cases hb
    .cases hb
   .cases hb
  .cases hb
theorem Ng {rs:VR}:∀ (fr:List PB) {h:CH}{M:Heap},CSim rs h M->h.n+fr.length<=1000000000->CSim rs (X3 fr h) (XY M fr)/\(X3 fr h).n=h.n+fr.length
 |[],h,M,hs,_=>by
  have:XY M []=M:=Heap.ext' (λj=>by
   show (if j<M.n then M.get j else _)=_;split
   .rfl
   .rename_i hj;rw[M.wf j (by omega)];simp) rfl
  rw[this];exact⟨hs,rfl⟩
 |b::l,h,M,hs,hr=>by
  have hr:h.n+(l.length+1)<=1000000000:=hr;have hn:=hs.n;have h1:CSim rs (h.push (.cells b.c b.esz true b.tight)) (M.push (b.blk true)):=hs.push (Nat.ble_eq_true_of_le (by omega)) rfl;obtain⟨h2,h3⟩:=Ng l h1 (by show h.n+1+_<=_;omega);refine⟨?_,by rw[show X3 (b::l) h=X3 l (h.push (.cells b.c b.esz true b.tight)) from rfl,h3];show h.n+1+l.length=h.n+(l.length+1);omega⟩;have:XY M (b::l)=XY (M.push (b.blk true)) l:=Heap.ext' (λj=>by
   show (if j<M.n then M.get j else _)=(if j<M.n+1 then (M.push (b.blk true)).get j else _);rcases Nat.lt_trichotomy j M.n with hj|hj|hj
   .rw[z0 hj,z0 (by omega),Heap.q0i _ _ hj]
   .subst hj;rw[z1 (by omega),z0 (by omega),Heap.q0a];simp
   .rw[z1 (by omega),z1 (by omega)];rw[show j-M.n=(j-(M.push (b.blk true)).n)+1 by simp;omega];rfl) (by simp[XY];omega)
  rw[this];exact h2
theorem PJ {h:CH}{args:List Value}{refs:List Nat}:∀ (ms:List Memo) (m:Memo),Ad h args refs ms=some m->m∈ms/\args=m.args/\(TI h 0 refs m.bl).isSome=true
 |[],m,h=>by cases h
 |m0::ms,m,h=>by
  simp only[Ad] at h;split at h
  .rename_i hc;obtain rfl:=osj h;rw[z2] at hc;exact⟨ze,Ug (NA 20) _ _ hc.1,hc.2⟩
  .obtain⟨h1,h2⟩:=PJ ms m h;exact⟨z9 _ h1,h2⟩
theorem Tn {f:FuncId}{args:List Value}{ms:List Memo}(hm:∀ m∈ms,NM P f m) {rs:VR}{h:CH}{M:Heap}(hs:CSim rs h M) {p:Value×CH}(hp:Sb h args ms=some p)
  {K:Value->Heap->Prop}(hK:∀ M',h.n<=p.2.n->CSim rs p.2 M'->K p.1 M'):VCalled P f args M K:=by
 unfold Sb at hp;split at hp
 .cases hp
 .rename_i q hq;split at hp
  .cases hp
  .rename_i m lr;obtain⟨h1,h2,h3⟩:=PJ ms m lr;obtain⟨k1,k3⟩:=hm m h1;obtain⟨r,iW⟩:=Option.isSome_iff_exists.1 h3;obtain⟨l0,l1,l2⟩:=PS hs _ _ _ _ iW;rw[zV] at l1;split at hp
   .cases hp
   .rename_i hr;have hr:=zC hr;split at hp
    .rename_i v hv;obtain rfl:=osj hp;obtain⟨s1,s2⟩:=Ng m.fr hs hr;have hx:=(Yj (D3 0 8) _ _ _ hq).2 r l0;rw[h2,l1] at hx;refine VCalled.localize (π:=gcP 0 r) k1 k3 (λi b hb=>?_) (by simpa using hx) ?_ (hK _ (by rw[s2];omega) s1)
     .obtain⟨wr,c',g1,g2⟩:=l2 i b hb;rw[l1] at g2;exact⟨wr,c',by simpa [gcP] using g1,g2⟩
     .have:=ON _ _ _ _ _ _ hv
      rwa [hs.n] at this
    .cases hp
theorem G6 (hm:P.follows .mixedOrders=true) (hT:TabOk P T) (cR:Sd P ev) (hG:Good R G) {ys:Ys}{f:FuncId}{args:List Value}{h:CH}{k:Value->CH->A}{rs:VR}{M:Heap}{K:Value->Heap->Prop}
  (hY:YOk P ys rs h.n) (hs:CSim rs h M) (he:G (DS T ev R ys f args h k)) (hk:Q6w G rs h k K):VCalled P f args M K:=by
 unfold DS at he;split at he
 .rename_i vc rl nt hf;have hF:=hT.code f vc rl nt hf;split at he
  .rename_i hb;exact hF.calls hm BL (cR R G hG ys vc none _ _ h _ rs M _ hY hs (ET.q1o (zC hb)) he (Mk hG hk))
  .exact(hG.fail he).elim
 .rename_i vc rl nt hf;have hF:=hT.codeJ f vc rl nt hf;split at he
  .rename_i hb;split at he
   .rename_i x hx;split at he
    .rename_i hc;have a7:x.2.n<=1000000000:=zC hc.1;have hK:=hk x.1 x.2 rs _ (zC hc.2) (λ_ _=>rfl) (DB (by omega)) he;refine hF.calls hm BL (cR joinOps (EP x) (Rj x) ys vc none _ _ h _ rs M _ hY hs (ET.q1o (zC hb)) (show EP x _ from ⟨x,hx,rfl,rfl,λ_=>rfl⟩) ?_);intro e dK h' bn M' af hn hr a8 bZ _ hg;have fin:EP x (match Md dK h' rl with|some v=>LD h h' v|none=>none)->QW (ZM af M' rl) λv=>∃ v' aE,DropTo M v M' v' aE/\K v' aE:=by
      rintro⟨y,hy,h1,h2,h3⟩;split at hy
      .rename_i v hv;rw[MQ a8 bZ hv];exact⟨_,_,Bk hs a8 hr hy h1 h2 h3,hK⟩
      .cases hy
     cases e with
     |normal=>exact fin hg
     |ret=>exact fin hg
     |_=>obtain⟨y,hy,_⟩:=hg;cases hy
    .exact(hG.fail he).elim
   .exact(hG.fail he).elim
  .exact(hG.fail he).elim
 .rename_i vc rl nt ms hf;obtain⟨hF,hM⟩:=hT.codeM f vc rl nt ms hf;split at he
  .rename_i p hp;exact Tn hM hs hp λM' hn a8=>hk _ _ rs M' hn (λ_ _=>rfl) a8 he
  .split at he
   .rename_i hb;exact hF.calls hm BL (cR R G hG ys vc none _ _ h _ rs M _ hY hs (ET.q1o (zC hb)) he (Mk hG hk))
   .exact(hG.fail he).elim
 .rename_i hf;split at he
  .rename_i v;exact hT.same f hf v M K (hk v h rs M (z5 _) (λ_ _=>rfl) hs he)
  .exact(hG.fail he).elim
 .exact(hG.fail he).elim
theorem Rx (hm:P.follows .mixedOrders=true) (cR:Sd P ev) (hG:Good R G) {ys:Ys}{f:FuncId}{vc:VCode}{rl:List VResult}{nt:Nat}(hf:T f=some (.code vc rl nt)) (hF:Fun P f vc rl nt) {args:List Value}{h:CH}{k:Value->CH->A}{rs:VR}{M:Heap}{K:Value->Heap->Prop}
  (hY:YOk P ys rs h.n) (hs:CSim rs h M) (he:G (DS T ev R ys f args h k)) (hk:Q6w G rs h k K):VCallsTo P f args M K:=by
 unfold DS at he;rw[hf] at he;simp only at he;split at he
 .rename_i hb;exact hF.callsTo hm BL (cR R G hG ys vc none _ _ h _ rs M _ hY hs (ET.q1o (zC hb)) he (Mk hG hk))
 .exact(hG.fail he).elim
theorem SB (cR:Sd P ev) (hG:Good R G) {ys:Ys}{i:Nat}{args:List Value}{h:CH}{k:Value->CH->A}{rs:VR}{M:Heap}{K:Value->Heap->Prop}
  (hY:YOk P ys rs h.n) (hs:CSim rs h M) (he:G (FM ev R ys i args h k)) (hk:Q6w G rs h k K):Pb P i args M K:=by
 unfold FM at he;split at he
 .rename_i c hc;obtain⟨aO,lE,ai⟩:=hY i c hc;split at he
  .rename_i hg;split at he
   .rename_i hlen;refine ai args M K ⟨hs.lp hg,hlen,?_⟩;refine cR R G hG ys c.a (some i) _ _ h _ rs M _ hY hs (Ra c.ps args lE) he ?_;intro e kF h1 fC σ1 bz fM fO jK fL _ gY;cases e with
    |normal =>
     simp only[Q1r] at gY;split at gY
     .rename_i gK;have e1:fC i=rs i:=fO i aO;have n7:=jK.lp gK;rw[e1] at n7;refine⟨n7,?_⟩;have kE:=jK.lt gK;refine cR R G hG ys c.b (some i) kF bz _ _ fC _ _ (hY.mono (n':=(h1.upd i (.lp .busy none)).n) fM fO) (jK.upd kE (b:=.lp .busy none) (by rw[EB.to,e1])) fL gY ?_;intro e2 fR h2 eC M2 aT eB dT dB fS _ dj;have lO:h1.n<=h2.n:=eB;have kG:eC i=rs i:=(dT i kE).trans e1;unfold I2 at dj;split at dj
      .rename_i n8;have ig:=dB.lt n8;have n9:=dB.lp n8;rw[kG] at n9;refine⟨n9,?_⟩;have dZ:∀ j,j<h.n->eC j=rs j:=λj hj=>(dT j (x8 hj fM)).trans (fO j hj);cases e2 with
       |normal=>exact hk _ (h2.upd i (.lp .ready none)) eC _ (zZ fM lO) dZ (dB.upd ig (b:=.lp .ready none) (by simp only[EB.to,kG])) dj
       |ret=>exact hk _ (h2.upd i (.lp .done (some .ret))) eC _ (zZ fM lO) dZ (dB.upd ig (b:=.lp .done (some .ret)) (by simp only[EB.to,kG])) dj
       |exit id=>exact hk _ (h2.upd i (.lp .done (some (.exit id)))) eC _ (zZ fM lO) dZ (dB.upd ig (b:=.lp .done (some (.exit id))) (by simp only[EB.to,kG])) dj
       |_=>exact(hG.fail dj).elim
      .exact(hG.fail dj).elim
     .exact(hG.fail gY).elim
    |_=>exact(hG.fail gY).elim
   .exact(hG.fail he).elim
  .exact(hG.fail he).elim
 .exact(hG.fail he).elim
theorem Bl (hG:Good R G) {i m since clock:Nat}{seen:List Nat}{h:CH}{k:Value->CH->A}:∀ (es:List Jo),
  (∀ e∈es,seen.contains e.2.2=true)/\Mv R i m since clock seen h k es=none \/
  ∃ a,Mv R i m since clock seen h k es=some a/\(G a->∀ e∈es,seen.contains e.2.2=false->G (k (.tuple #[.bool true,e.1,e.2.1]) (h.upd i (.iter m since (seen++[e.2.2]) clock))))
 |[]=>.inl ⟨λ_ h=>(by cases h),rfl⟩
 |e::es=>by
  have ih:=Bl hG (i:=i) (m:=m) (since:=since) (clock:=clock) (seen:=seen) (h:=h) (k:=k) es;by_cases hc:seen.contains e.2.2=true
  .have he:Mv R i m since clock seen h k (e::es)=Mv R i m since clock seen h k es:=by rw[Mv,z0 hc]
   rw[he];rcases ih with⟨h1,h2⟩|⟨a,h1,h2⟩
   .exact .inl ⟨λx hx=>by rcases zf.1 hx with rfl|hx;exact hc;exact h1 x hx,h2⟩
   .refine .inr ⟨a,h1,λlP x hx bB=>?_⟩;rcases zf.1 hx with rfl|hx
    .rw[hc] at bB;cases bB
    .exact h2 lP x hx bB
  .rcases ih with⟨h1,h2⟩|⟨a,h1,h2⟩
   .refine .inr ⟨k (.tuple #[.bool true,e.1,e.2.1]) (h.upd i (.iter m since (seen++[e.2.2]) clock)),by rw[Mv,z1 hc,h2],λlP x hx bB=>?_⟩;rcases zf.1 hx with rfl|hx
    .exact lP
    .rw[h1 x hx] at bB;cases bB
   .refine .inr ⟨R.both (k (.tuple #[.bool true,e.1,e.2.1]) (h.upd i (.iter m since (seen++[e.2.2]) clock))) a,by rw[Mv,z1 hc,h1],λlP x hx bB=>?_⟩;obtain⟨g1,g2⟩:=hG.both _ _ lP;rcases zf.1 hx with rfl|hx
    .exact g1
    .exact h2 g2 x hx bB
theorem Cj (hG:Good R G) {x:Value}{h:CH}{k:Value->CH->A}{rs:VR}{M:Heap}{K:Value->Heap->Prop}(hs:CSim rs h M) (he:G (Q4q R x h k)) (hk:Q6w G rs h k K):LU x M K:=by
 unfold Q4q at he;unfold LU;split at he
 .rename_i i;split at he
  .rename_i m since seen last hg;have hi:=hs.lt hg;simp only[hs.iter hg];split at he
   .rename_i es clock wr fz;obtain⟨k1,_⟩:=hs.mapAt fz;simp only[k1];split at he
    .rename_i hc;refine⟨hc.1,hc.2,?_⟩;rcases Bl hG (i:=i) (m:=m) (since:=since) (clock:=clock) (seen:=seen) (h:=h) (k:=k) es with⟨h1,h2⟩|⟨a,h1,h2⟩
     .rw[h2] at he;simp only at he;split at he
      .exact⟨λ_=>hk _ _ rs M (z5 _) (λ_ _=>rfl) hs he,λe gm lQ=>by rw[h1 e gm] at lQ;cases lQ⟩
      .exact(hG.fail he).elim
     .rw[h1] at he;simp only at he;have key:G a->∀ e∈es,seen.contains e.2.2=false->K (.tuple #[.bool true,e.1,e.2.1]) (M.upd i (.obj (.iter m since (seen++[e.2.2]) clock) true)):=λlP e gm lQ =>
       hk _ (h.upd i (.iter m since (seen++[e.2.2]) clock)) rs _ (z5 _) (λ_ _=>rfl) (hs.upd hi rfl) (h2 lP e gm lQ)
      split at he
      .obtain⟨g1,g2⟩:=hG.both _ _ he;exact⟨λ_=>hk _ _ rs M (z5 _) (λ_ _=>rfl) hs g1,key g2⟩
      .rename_i hn;exact⟨λhh=>absurd hh hn,key he⟩
    .exact(hG.fail he).elim
   .exact(hG.fail he).elim
  .exact(hG.fail he).elim
 .exact(hG.fail he).elim
theorem TY (hm:P.follows .mixedOrders=true) (hT:TabOk P T) (cR:Sd P ev) (hG:Good R G) {ys:Ys}{o:VOp}{et:ET}{env:Env}(hE:FRel et env) {h:CH}{k:Value->CH->A}{rs:VR}{M:Heap}{K:Value->Heap->Prop}
  (hY:YOk P ys rs h.n) (hs:CSim rs h M) (he:G (Q5a T ev R ys o et h k)) (hk:Q6w G rs h k K):vop (Q2 P) o env M K:=by
 have aj:=Hd hE;have other:∀ o':VOp,G (It R (Cr o' (MW et) h) k)->QW (Q6 o' (Q3 env) M) λp=>K p.1 p.2:=by
  intro o' hg;rw[aj] at hg;unfold It at hg;split at hg
  .rename_i p hp;obtain⟨h1,M',h2,h3⟩:=Kt hs hp;rw[h2];exact hk _ _ rs M' h1 (λ_ _=>rfl) h3 hg
  .exact(hG.fail hg).elim
 cases o
 case callF f args =>
  simp only[Q5a,aj] at he;exact G6 hm hT cR hG hY hs he hk
 case callV f args =>
  simp only[Q5a,aj] at he;simp only[vop];unfold Q1w at he;split at he
  .rename_i g first cap hg
   simp only[hg];exact G6 hm hT cR hG hY hs he hk
  .rename_i i first cap hg
   simp only[hg];exact SB cR hG hY hs he hk
  .exact(hG.fail he).elim
 case ext x =>
  cases x
  case nextMap x =>
   simp only[Q5a,aj] at he;exact Cj hG hs he hk
  case delete a b c=>exact other (.ext (.delete a b c)) he
  case mapEntry a z b c=>exact other (.ext (.mapEntry a z b c)) he
  case entryStore a b c=>exact other (.ext (.entryStore a b c)) he
  all_goals exact other _ he
 case move a=>exact other (.move a) he
 case makeFunc a b c=>exact other (.makeFunc a b c) he
 case bad=>exact other .bad he
 all_goals exact other _ he
theorem PI (hm:P.follows .mixedOrders=true) (hT:TabOk P T) (cR:Sd P ev) (hG:Good R G) {ys:Ys}{k:ET->CH->A}{K:Env->Heap->Prop}:∀ (ops:List VOper) (et:ET) (env:Env) (h:CH) (rs:VR) (M:Heap),
  YOk P ys rs h.n->CSim rs h M->FRel et env->G (I6 T ev R ys ops et h k)->Q18 G rs h (List.length env) k K->T1 (Q2 P) ops env M K:=by
 intro ops;induction ops with
 |nil=>intro et env h rs M hY hs hE he hk;exact hk et h rs M env (z5 _) (λ_ _=>rfl) hs hE rfl he
 |cons o rest ih =>
  intro et env h rs M hY hs hE he hk
  have he:G (match Fy et o.guard with
   |none=>R.fail
   |some true=>Q5a T ev R ys o.op et h λv h'=>I6 T ev R ys rest (et.put o.dst v) h' k
   |some false=>I6 T ev R ys rest (et.put o.dst undef) h k):=he
  rw[CT hE] at he;simp only[T1];split at he
  .exact(hG.fail he).elim
  .rename_i hw;rw[hw];refine⟨λ_=>?_,λhh=>by cases hh⟩;refine TY hm hT cR hG hE hY hs he ?_;intro v h' bn M' hn hr a8 hg;refine ih _ _ h' bn M' (hY.mono hn hr) a8 (hE.put _ _) hg ?_;intro fR h2 eC M2 aT eB dT dB fS hl dj;exact hk fR h2 eC M2 aT (zZ hn eB) (λi hi=>(dT i (by omega)).trans (hr i hi)) dB fS (by rw[hl,Zp]) dj
  .rename_i hw;rw[hw];refine⟨λhh=>(by cases hh),λ_=>?_⟩;refine ih _ _ h rs M hY hs (hE.put _ _) he ?_;intro fR h2 eC M2 aT eB dT dB fS hl dj;exact hk fR h2 eC M2 aT eB dT dB fS (by rw[hl,Zp]) dj
def CSims (rs:VR) (n:Nat):List CH->List Heap->Prop
 |[],[]=>True
 |h::hs,M::σs=>(CSim rs h M/\h.n<=n)/\CSims rs n hs σs
 |_,_=>False
theorem CSims.mono {rs bn:VR}{n n':Nat}(hn:n<=n') (hr:∀ i,i<n->bn i=rs i):∀ {hs:List CH}{σs:List Heap},CSims rs n hs σs->CSims bn n' hs σs
 |[],[],_=>trivial
 |h::hs,M::σs,⟨⟨h1,h2⟩,h3⟩=>⟨⟨h1.rs λi hi=>hr i (by omega),by omega⟩,CSims.mono hn hr h3⟩
 |[],_::_,h=>h.elim
 |_::_,[],h=>h.elim
theorem CSims.snoc {rs:VR}{n:Nat}{h:CH}{M:Heap}(hs:CSim rs h M) (hn:h.n<=n):∀ {hl:List CH}{σl:List Heap},CSims rs n hl σl->CSims rs n (hl++[h]) (σl++[M])
 |[],[],_=>⟨⟨hs,hn⟩,trivial⟩
 |_::_,_::_,⟨h1,h2⟩=>⟨h1,CSims.snoc hs hn h2⟩
 |[],_::_,h=>h.elim
 |_::_,[],h=>h.elim
theorem Bq {rs:VR}{h:CH}{M:Heap}(hs:CSim rs h M) {op:VOp}{ev:Operand->Value}{v:Value}(hr:CB op ev v h=true):JQ op ev v M:=by
 unfold CB at hr;split at hr
 .rename_i q hq;obtain⟨_,M',h2,_⟩:=Kt hs hq;unfold JQ;rw[h2];exact NA _ _ _ hr
 .cases hr
def Q0h:List (Nat×(CH->Bool))->List (Nat×(Heap->Prop))->Prop
 |[],[]=>True
 |c::l,d::m=>(c.1=d.1/\∀ rs h M,CSim rs h M->c.2 h=true->d.2 M)/\Q0h l m
 |_,_=>False
theorem MT {rs:VR}{h:CH}{M:Heap}(hs:CSim rs h M) {r:Nat}:∀ {l:List (Nat×(CH->Bool))}{m:List (Nat×(Heap->Prop))},Q0h l m->I7 r h l=true->JP r M m
 |[],[],_,_=>trivial
 |c::l,d::m,⟨⟨h1,h2⟩,h3⟩,he=>by
  simp only[I7,z2,zp,Bool.not_eq_true'] at he;refine⟨λhr=>h2 rs h M hs ?_,MT hs h3 he.2⟩;rcases he.1 with h|h
  .rw[h1,Nat.ble_eq_true_of_le hr] at h;cases h
  .exact h
 |[],_::_,h,_=>h.elim
 |_::_,[],h,_=>h.elim
theorem CSims.mem {rs:VR}{n:Nat}:∀ {hl:List CH}{σl:List Heap},CSims rs n hl σl->∀ (f:CH->Bool) (Q:Heap->Prop),(∀ rs h M,CSim rs h M->f h=true->Q M)->∀ j,(hl.drop j).all f=true->∀ U∈σl.drop j,Q U
 |[],[],_,_,_,_,_,_,U,hτ=>by simp at hτ
 |h::hl,M::σl,⟨h1,h2⟩,f,Q,hQ,0,ha,U,hτ=>by
  simp only[zX,zR,z2,zf] at ha hτ;rcases hτ with rfl|hτ
  .exact hQ rs h U h1.1 ha.1
  .exact CSims.mem h2 f Q hQ 0 (by simpa using ha.2) U (by simpa using hτ)
 |h::hl,M::σl,⟨h1,h2⟩,f,Q,hQ,j+1,ha,U,hτ=>CSims.mem h2 f Q hQ j (by simpa using ha) U (by simpa using hτ)
 |[],_::_,h,_,_,_,_,_,_,_=>h.elim
 |_::_,[],h,_,_,_,_,_,_,_=>h.elim
theorem CSims.length {rs:VR}{n:Nat}:∀ {hl:List CH}{σl:List Heap},CSims rs n hl σl->hl.length=σl.length
 |[],[],_=>rfl
 |_::_,_::_,⟨_,h⟩=>by simp[CSims.length h]
 |[],_::_,h=>h.elim
 |_::_,[],h=>h.elim
theorem Bm (hm:P.follows .mixedOrders=true) (hT:TabOk P T) (cR:Sd P ev) (hG:Good R G) {ys:Ys}{k:ET->CH->A}{K:Env->Heap->Prop}:∀ (ops:List DOper) (et:ET) (env:Env) (hl:List CH) (h:CH) (pe:List (Nat×(CH->Bool))) (rs:VR) (σl:List Heap) (M:Heap) (pv:List (Nat×(Heap->Prop))),
  YOk P ys rs h.n->CSim rs h M->FRel et env->CSims rs h.n hl σl->Q0h pe pv->G (Mx T ev R ys ops et hl h pe k)->Q18 G rs h (List.length env) k K->Zm (Q2 P) ops env σl M pv K:=by
 intro ops;induction ops with
 |nil=>intro et env hl h pe rs σl M pv hY hs hE lR hp he hk;exact hk et h rs M env (z5 _) (λ_ _=>rfl) hs hE rfl he
 |cons o rest ih =>
  intro et env hl h pe rs σl M pv hY hs hE lR ep he hk;have aj:=Hd hE;simp only[Mx,CT hE,aj] at he;simp only[Zm];have hlen:=lR.length;split at he
  .exact(hG.fail he).elim
  .rename_i hw;rw[hw];refine⟨λ_=>?_,λhh=>by cases hh⟩;split at he
   .rename_i au;rw[z0 au];split at he
    .rename_i p hp;split at he
     .rename_i lS;obtain⟨fD,qJ⟩:=lS;simp only[CH.newOk,z2,z6] at fD;obtain⟨n1,n2,n3⟩:=fD;have n1:h.n<=p.2.n:=zC n1;have n2:p.2.n<=1000000000:=zC n2;have lT:CSim rs p.2 (p.2.toHeap rs):=DB (by omega);refine .inl ⟨p.1,p.2.toHeap rs,?_,?_,?_⟩
      .refine TY hm hT cR (Q59 p) hE hY hs hp ?_;intro v h' bn M' hn hr a8 hg;have hg:(v,h')=p:=osj hg;subst hg;refine⟨rfl,?_⟩;have:CSim rs h' M':=by
        refine⟨a8.n,a8.sm,λi=>?_⟩;rw[a8.get];cases gK:h'.get i with
        |none=>rfl
        |some b =>
         rcases zh i h.n with hi|hi
         .rw[hr i hi]
         .have aO:=a8.lt gK;have:=n3 i (List.mem_range'_1.2 ⟨hi,by simp at n1 |-;omega⟩);simp only[gK] at this;cases b<;>first|rfl|cases this
       exact this.eq
      .rw[<-hlen];exact MT lT ep qJ
      .refine ih _ _ _ p.2 pe rs _ _ pv (hY.mono n1 (λ_ _=>rfl)) lT (hE.put _ _) ((lR.mono n1 (λ_ _=>rfl)).snoc lT (z5 _)) ep he ?_;intro fR h2 eC M2 aT eB dT dB fS cj dj;exact hk fR h2 eC M2 aT (zZ n1 eB) (λi hi=>dT i (by omega)) dB fS (by rw[cj,Zp]) dj
     .exact(hG.fail he).elim
    .exact(hG.fail he).elim
   .rename_i au;rw[z1 au];have done:∀ (u:Value) (pG:List (Nat×(CH->Bool))) (pH:List (Nat×(Heap->Prop))),Q0h pG pH->G (Mx T ev R ys rest (et.put o.dst u) hl h pG k)->Zm (Q2 P) rest (X7 env o.dst u) σl M pH K:=by
     intro u pG pH bk hg;refine ih _ _ hl h pG rs σl M pH hY hs (hE.put _ _) lR bk hg ?_;intro fR h2 eC M2 aT eB dT dB fS cj dj;exact hk fR h2 eC M2 aT eB dT dB fS (by rw[cj,Zp]) dj
    split at he
    .rename_i bu;rw[z0 bu];split at he
     .rename_i p hp;split at he
      .rename_i ae;obtain⟨_,M',h2,_⟩:=Kt hs hp;rw[h2];refine⟨lR.mem _ _ (λrs h M hc hf=>Bq hc hf) _ ae,?_⟩;refine done _ _ _ ?_ he;rw[<-hlen];split
       .exact⟨⟨rfl,λrs h M hc hf=>Bq hc hf⟩,ep⟩
       .exact ep
      .exact(hG.fail he).elim
     .exact(hG.fail he).elim
    .rename_i bu;rw[z1 bu];split at he
     .rename_i p hp;obtain⟨_,M',h2,_⟩:=Kt hs hp;rw[h2];exact done _ _ _ ep he
     .exact(hG.fail he).elim
  .rename_i hw;rw[hw];refine⟨λhh=>(by cases hh),λ_=>?_⟩;split at he
   .rename_i au;rw[z0 au];split at he
    .rename_i qJ;refine⟨by rw[<-hlen];exact MT hs ep qJ,?_⟩;refine ih _ _ _ h pe rs _ M pv hY hs (hE.put _ _) (lR.snoc hs (z5 _)) ep he ?_;intro fR h2 eC M2 aT eB dT dB fS cj dj;exact hk fR h2 eC M2 aT eB dT dB fS (by rw[cj,Zp]) dj
    .exact(hG.fail he).elim
   .rename_i au;rw[z1 au];refine ih _ _ _ h pe rs _ M pv hY hs (hE.put _ _) lR ep he ?_;intro fR h2 eC M2 aT eB dT dB fS cj dj;exact hk fR h2 eC M2 aT eB dT dB fS (by rw[cj,Zp]) dj
theorem ET.q2e {e:ET}{env:Env}(h:FRel e env):e.list=env:=by
 apply zT;intro i;unfold ET.list;rw[zQ];rcases zh i e.m with hi|hi
 .rw[List.getElem?_range hi];have:=h.get i;rw[h.m] at hi;rw[z4,z3 hi] at this;rw[z3 hi,xj,<-this];rfl
 .rw[zj (by simpa using hi),zj (by rw[<-h.m];exact hi)];rfl
theorem RI {ρ:Plc}{n:Nat}{vs:Array Value}{cs:List Value}(h:VRel ρ n (.tuple vs) (.tuple cs.toArray)):LRel ρ n vs.toList cs:=by
 obtain⟨ds,he,hl⟩:=h.q1l;have:cs.toArray=ds:=by injection he
 subst this;simpa using hl
theorem SF (hm:P.follows .mixedOrders=true) (hT:TabOk P T) (cR:Sd P ev) {ys:Ys}{x:Value×CH}{vs:Array Value}(jG:x.1=.tuple vs) {K:Env->Heap->Prop}{et:ET}{env:Env}{h:CH}{rs:VR}{M:Heap}(hY:YOk P ys rs h.n) (hs:CSim rs h M) (hE:FRel et env)
  (hk:K vs.toList (x.2.toHeap rs)):∀ (alts:List (List DOper)),EP x (CL T ev ys et h alts)->∀ ops∈alts,Zm (Q2 P) ops env [M] M [] λbz σ1=>∃ aT M2,DropE M bz σ1 aT M2/\K aT M2:=by
 have one:∀ a:List DOper,EP x (Q60 T ev ys et h a)->Zm (Q2 P) a env [M] M [] λbz σ1=>∃ aT M2,DropE M bz σ1 aT M2/\K aT M2:=by intro a ha;refine Bm hm hT cR (Rj x) a et env [h] h [] rs [M] M [] hY hs hE ⟨⟨hs,z5 _⟩,trivial⟩ trivial ha ?_;intro dK h' bn M' af hn hr a8 bZ hl hg;obtain⟨y,hy,h1,h2,h3⟩:=hg;unfold Q7g at hy;have hd:=Bk hs a8 hr hy h1 h2 h3;rw[ET.q2e bZ,jG] at hd;refine⟨vs.toList,x.2.toHeap rs,?_,hk⟩;intro ρ0 w0 ρ w cs gi qq hH hL;obtain⟨ρ',d1,d2,d3⟩:=hd ρ0 w0 ρ w (.tuple cs.toArray) gi qq hH (VRel.q0j hL);exact⟨ρ',RI d1,d2,d3⟩
 intro alts;induction alts with
 |nil=>rintro⟨y,hy,_⟩;cases hy
 |cons a l ih =>
  intro he ops ho;cases l with
  |nil =>obtain rfl:=z8.1 ho;exact one _ he
  |cons b r =>
   obtain⟨g1,g2⟩:=(Rj x).both _ _ he;rcases zf.1 ho with rfl|ho
   .exact one _ g1
   .exact ih g2 ops ho
theorem L1 (hm:P.follows .mixedOrders=true) (hT:TabOk P T) (cR:Sd P ev) (hG:Good R G) {ys:Ys}{k:ET->CH->A}{K:Env->Heap->Prop}:∀ (aQ:List DSeg) (et:ET) (env:Env) (h:CH) (rs:VR) (M:Heap),
  YOk P ys rs h.n->CSim rs h M->FRel et env->G (Hu T ev R ys aQ et h k)->Q18 G rs h (List.length env) k K->Mn (Q2 P) aQ env M K:=by
 intro aQ;induction aQ with
 |nil=>intro et env h rs M hY hs hE he hk;exact hk et h rs M env (z5 _) (λ_ _=>rfl) hs hE rfl he
 |cons x rest ih =>
  intro et env h rs M hY hs hE he hk;have next:Q18 G rs h (List.length env) (λet h=>Hu T ev R ys rest et h k) (λenv M=>Mn (Q2 P) rest env M K):=by intro kF h1 fC σ1 bz fM fO jK fL eR gY;refine ih kF bz h1 fC σ1 (hY.mono fM fO) jK fL gY ?_;intro fR h2 eC M2 aT eB dT dB fS cj dj;exact hk fR h2 eC M2 aT (zZ fM eB) (λi hi=>(dT i (by omega)).trans (fO i hi)) dB fS (cj.trans eR) dj
  cases x with
  |one o=>exact PI hm hT cR hG [o] et env h rs M hY hs hE he next
  |alts l =>
   have many:G (match CL T ev ys et h l with
     |some x=>(match x.1 with
      |.tuple vs=>if x.2.room=true/\Nat.ble h.n x.2.n=true/\vs.toList.length=et.m then Hu T ev R ys rest (ET.of vs.toList 0) x.2 k else R.fail
      |_=>R.fail)
     |none=>R.fail)->Mn (Q2 P) (.alts l::rest) env M K:=by
    intro he;split at he
    .rename_i x hx;split at he
     .rename_i vs jG;split at he
      .rename_i hc;obtain⟨c1,c2,c3⟩:=hc;have a7:x.2.n<=1000000000:=zC c1;have tS:FRel (ET.of vs.toList 0) vs.toList:=by
        have:=ET.q1o (args:=vs.toList) (nt:=0) (by show vs.toList.length+(0-vs.toList.length)<=_;have:=hE.sm;omega);simpa using this
       exact SF hm hT cR jG hY hs hE (next _ x.2 rs _ _ (zC c2) (λ_ _=>rfl) (DB (by omega)) tS (by rw[c3,hE.m]) he) l ⟨x,hx,rfl,rfl,λ_=>rfl⟩
      .exact(hG.fail he).elim
     .exact(hG.fail he).elim
    .exact(hG.fail he).elim
   match l,he with
   |[],he=>exact many he
   |[a],he =>intro ops ho;obtain rfl:=z8.1 ho;refine Bm hm hT cR hG ops et env [h] h [] rs [M] M [] hY hs hE ⟨⟨hs,z5 _⟩,trivial⟩ trivial he ?_;intro dK h' bn M' af hn hr a8 bZ hl hg;exact⟨af,M',.refl _ _ _,next dK h' bn M' af hn hr a8 bZ hl hg⟩
   |a::b::r,he=>exact many he
def SS (P:Program) (T:Tab) (ev:Q6p) (c:VCode):Prop:=∀ {A:Type}(R:AnsOps A) (G:A->Prop),Good R G->∀ (ys:Ys) (ro:Option Nat) (et:ET) (env:Env) (h:CH) (k:Exit->ET->CH->A) (rs:VR) (M:Heap) (Q:Exit->Env->Heap->Prop),
 YOk P ys rs h.n->CSim rs h M->FRel et env->G (LJ T ev R ys c ro et h k)->Q05 G rs h (List.length env) k Q->vwp (Q2 P) c ro Q env M
theorem Sz (hm:P.follows .mixedOrders=true) (hT:TabOk P T) (cR:Sd P ev) (hG:Good R G) {ys:Ys}{g:Operand}{ps:List Nat}{a b:VCode}{ro:Option Nat}{et:ET}{env:Env}{h:CH}{k:Exit->ET->CH->A}{rs:VR}{M:Heap}{Q:Exit->Env->Heap->Prop}
  (hY:YOk P ys rs h.n) (hs:CSim rs h M) (hE:FRel et env) (he:G (Iy T ev R ys (MW et g) ps a b ro et h k)) (hk:Q05 G rs h (List.length env) k Q):vwp (Q2 P) (.rangeF g ps a b) ro Q env M:=by
 rw[Hd hE] at he;unfold Iy at he;simp only[vwp,Lk];split at he
 .rename_i f first cap hg
  simp only[hg];split at he
  .rename_i vc rl nt hf;have hF:=hT.code f vc rl nt hf;split at he
   .rename_i lS;obtain⟨aO,a7⟩:=lS;have nH:(Q2 P).it f=some λi Y args M K=>Vg P i Y->VCallsTo P f args M K:=by
     simp only[Q2];rw[z0 hF.enterable]
    rw[nH];refine⟨?_,λr tT=>?_⟩
    .cases ro with
     |none=>trivial
     |some i =>
      simp only[Q4f] at aO;split at aO
      .rename_i st pend gK;exact⟨_,_,_,_,hs.lp gK⟩
      .cases aO
    .let fC:VR:=λi=>if i=h.n then (env,r) else rs i
     have ek:∀ i,i<h.n->fC i=rs i:=λi hi=>by simp only[fC];rw[z1 (by omega)]
     have jK:CSim fC (h.push (.lp .ready none)) (M.push (.obj (.lp env r .ready none) true)) :=
      (hs.rs ek).push a7 (by simp[EB.to,fC])
     have tU:YOk P ((h.n,⟨ps,a,b,et⟩)::ys) fC (h.push (.lp .ready none)).n:=by
      intro i c hc;simp only[Ys.find] at hc;split at hc
      .rename_i eZ;have eZ:=zH eZ;subst eZ;obtain rfl:=osj hc;refine⟨Nat.lt_succ_self _,by simp only[fC,zx];exact hE,?_⟩;rw[hs.n] at *
       simpa [fC,hs.n] using tT
      .obtain⟨h1,h2,h3⟩:=hY i c hc;rw[ek i h1];exact⟨Nat.lt_succ_of_lt h1,h2,h3⟩
     rw[<-hs.n];refine Rx hm cR hG hf hF tU jK he ?_;intro v h' bn M' hn hr a8 dL;have pC:h.n+1<=h'.n:=hn;unfold Z06 at dL;unfold Q1d;split at dL
     .rename_i st pend gK;have hi:=a8.lt gK;simp only[a8.lp gK];split at dL
      .rename_i cG;refine⟨(by rintro rfl;cases cG),?_⟩;have dZ:∀ j,j<h.n->bn j=rs j:=λj hj=>(hr j (Nat.lt_succ_of_lt hj)).trans (ek j hj);have bg:=a8.kill hi;split at dL
       .exact hk _ _ _ bn _ _ (by show h.n<=h'.n;omega) dZ bg hE rfl dL
       .exact hk _ _ _ bn _ _ (by show h.n<=h'.n;omega) dZ bg hE rfl dL
       .exact hk _ _ _ bn _ _ (by show h.n<=h'.n;omega) dZ bg hE rfl dL
       .exact(hG.fail dL).elim
      .exact(hG.fail dL).elim
     .exact(hG.fail dL).elim
   .exact(hG.fail he).elim
  .exact(hG.fail he).elim
 .exact(hG.fail he).elim
theorem Sr (hm:P.follows .mixedOrders=true) (hT:TabOk P T) (cR:Sd P ev)
  (n_:∀ b,SS P T ev b->SS P T ev (.loop b)):∀ (c:VCode),SS P T ev c:=by
 intro c;induction c with
 |skip=>intro A R G hG ys ro et env h k rs M Q hY hs hE he hk;exact hk _ _ _ rs M _ (z5 _) (λ_ _=>rfl) hs hE rfl he
 |region ops =>intro A R G hG ys ro et env h k rs M Q hY hs hE he hk;exact PI hm hT cR hG ops et env h rs M hY hs hE he λdK h' bn M' af h1 h2 h3 h4 h5 h6=>hk _ _ _ _ _ _ h1 h2 h3 h4 h5 h6
 |regionD aQ =>intro A R G hG ys ro et env h k rs M Q hY hs hE he hk;exact L1 hm hT cR hG aQ et env h rs M hY hs hE he λdK h' bn M' af h1 h2 h3 h4 h5 h6=>hk _ _ _ _ _ _ h1 h2 h3 h4 h5 h6
 |rangeF g ps a b fA e6 =>intro A R G hG ys ro et env h k rs M Q hY hs hE he hk;exact Sz hm hT cR hG hY hs hE he hk
 |seq a b fA e6 =>
  intro A R G hG ys ro et env h k rs M Q hY hs hE he hk;simp only[vwp];refine fA R G hG ys ro et env h _ rs M _ hY hs hE he ?_;intro e dK h' bn M' af hn hr a8 bZ hl hg;cases e with
  |normal =>refine e6 R G hG ys ro dK af h' k bn M' Q (hY.mono hn hr) a8 bZ hg ?_;intro e2 fR h2 eC M2 aT eB dT dB fS cj dj;exact hk e2 fR h2 eC M2 aT (zZ hn eB) (λi hi=>(dT i (by omega)).trans (hr i hi)) dB fS (cj.trans hl) dj
  |_=>exact hk _ dK h' bn M' af hn hr a8 bZ hl hg
 |cond c a b fA e6 =>
  intro A R G hG ys ro et env h k rs M Q hY hs hE he hk;have he:G (Q4m R (MW et c) (LJ T ev R ys a ro et h k) (LJ T ev R ys b ro et h k)):=he;rw[Hd hE] at he;unfold Q4m at he;simp only[vwp];split at he
  .rename_i hc;rw[hc];exact⟨λ_=>fA R G hG ys ro et env h k rs M Q hY hs hE he hk,λhh=>by cases hh⟩
  .rename_i hc;rw[hc];exact⟨λhh=>(by cases hh),λ_=>e6 R G hG ys ro et env h k rs M Q hY hs hE he hk⟩
  .exact(hG.fail he).elim
 |block id b ih =>
  intro A R G hG ys ro et env h k rs M Q hY hs hE he hk;simp only[vwp];refine ih R G hG ys ro et env h _ rs M _ hY hs hE he ?_;intro e dK h' bn M' af hn hr a8 bZ hl hg;cases e with
  |exit hZ =>
   simp only[Iw] at hg;simp only[AD];split at hg
   .rename_i bc;rw[z0 bc];exact hk _ dK h' bn M' af hn hr a8 bZ hl hg
   .rename_i bc;rw[z1 bc];exact hk _ dK h' bn M' af hn hr a8 bZ hl hg
  |_=>exact hk _ dK h' bn M' af hn hr a8 bZ hl hg
 |loop b ih =>intro A R G hG ys ro et env h k rs M Q hY hs hE he hk;exact n_ b ih R G hG ys ro et env h k rs M Q hY hs hE he hk
 |exit id=>intro A R G hG ys ro et env h k rs M Q hY hs hE he hk;exact hk _ _ _ rs M _ (z5 _) (λ_ _=>rfl) hs hE rfl he
 |ret=>intro A R G hG ys ro et env h k rs M Q hY hs hE he hk;exact hk _ _ _ rs M _ (z5 _) (λ_ _=>rfl) hs hE rfl he
 |bad=>intro A R G hG ys ro et env h k rs M Q hY hs hE he hk;exact(hG.fail he).elim
theorem R7 {v:Value}(h:Ek v=true):QN v=true\/∃ vs,v=.tuple vs/\vs.toList.all QN=true:=by unfold Ek at h;split at h<;>first|exact .inl rfl|exact .inr ⟨_,rfl,h⟩|cases h
theorem Q0q {ρ:Plc}{n:Nat}{v c:Value}(h:Ek v=true) (hv:VRel ρ n v c):c=v:=by
 rcases R7 h with hp|⟨vs,rfl,ae⟩
 .exact KQ hp hv
 .obtain⟨ds,rfl,hl⟩:=hv.q1l;have ae:∀ x∈vs.toList,QN x=true:=z6.1 ae;have:ds.toList=vs.toList:=by
   apply zT;intro i;rcases zh i vs.toList.length with hi|hi
   .have cF:i<ds.toList.length:=by rw[<-hl.1];exact hi
    rw[z3 hi,z3 cF];rw[KQ (ae _ (zn hi)) (hl.2 i _ _ (z3 hi) (z3 cF))]
   .rw[zj hi,zj (by rw[<-hl.1];exact hi)]
  rw[Re this]
theorem Oj {ρ:Plc}{n:Nat}{v:Value}(h:Ek v=true):VRel ρ n v v:=by
 rcases R7 h with hp|⟨vs,rfl,ae⟩
 .exact W1 hp
 .exact .tuple _ _ rfl λi h1 _=>W1 (z6.1 ae _ (by simp))
theorem B4 (m:Nat) (env:Env) (h:List.length env=m):BE (List.range m) env=env:=by
 apply zT;intro i;simp only[BE,zQ];rcases zh i m with hi|hi
 .rw[List.getElem?_range hi];simp[z4,h,hi]
 .rw[zj (by simpa using hi),zj (by omega)];rfl
theorem TW:∀ (l:List Nat) (vs base:List Value) (i:Nat),l.Nodup->vs.length=l.length->(∀ x∈l,x<base.length)->(XD l vs base)[i]?=if i∈l then vs[l.idxOf i]? else base[i]?
 |[],[],base,i,_,_,_=>by simp[XD]
 |[],_::_,_,_,_,h,_=>by simp at h
 |_::_,[],_,_,_,h,_=>by simp at h
 |x::l,v::vs,base,i,hn,h,hb=>by
  obtain⟨h1,h2⟩:=zU.1 hn;simp only[XD];rw[TW l vs _ i h2 (by simpa using h) (λy hy=>by rw[xx];exact hb y (by simp[hy]))];by_cases mU:i=x
  .subst mU;rw[z1 h1,z0 (by simp),List.getElem?_set_self (hb i (by simp))];simp
  .by_cases fP:i∈l
   .have e:(x::l).idxOf i=l.idxOf i+1:=by rw[List.idxOf_cons,show (x==i)=false from by simpa using Ne.symm mU];rfl
    rw[z0 fP,z0 (by simp[fP]),e];rfl
   .rw[z1 fP,z1 (by simp[mU,fP]),List.getElem?_set_ne (Ne.symm mU)]
theorem Sl (m:Nat) (vs:List Value) (h:vs.length=m):XD (List.range m) vs (List.replicate m poison)=vs:=by
 apply zT;intro i;rw[TW _ _ _ _ List.nodup_range (by simpa using h) (λx hx=>by simpa using hx)];split
 .rename_i hi;have hi:=zr.1 hi;have:(List.range m).idxOf i=i:=by
   have h1:(List.range m).idxOf i<(List.range m).length:=List.idxOf_lt_length_of_mem (zr.2 hi);have h2:=List.getElem_idxOf h1;rw[List.getElem_range] at h2;exact h2
  rw[this]
 .rename_i hi;have hi:m<=i:=by simpa using hi
  rw[zj (by simpa using hi),zj (by omega)]
theorem Ef (hm:P.follows .mixedOrders=true) (hT:TabOk P T):∀ (n:Nat) (c:VCode),SS P T (D6 T n) c:=by
 intro n;induction n using Nat.strongRecOn with
 |ind n pF =>
  have cR:Sd P (D6 T n):=by
   cases n with
   |zero=>intro A R G hG ys c ro et env h k rs M Q hY hs hE he hk;exact(hG.fail he).elim
   |succ n=>intro A R G hG ys c ro et env h k rs M Q hY hs hE he hk;exact pF n (Nat.lt_succ_self _) c R G hG ys ro et env h k rs M Q hY hs hE he hk
  refine Sr hm hT cR λb e6=>?_;intro A R G hG ys ro et env h k rs M Q hY hs hE he hk;have oa:∀ j,j<=n->SS P T (D6 T j) b:=λj hj=>by
   rcases zh j n with h'|h'
   .exact pF j h' b
   .obtain rfl:j=n:=by omega
    exact e6
  simp only[vwp];refine⟨List.range (List.length env),λj vs σ1=>j<=n/\∃ kF h1 fC,h.n<=h1.n/\(∀ i,i<h.n->fC i=rs i)/\CSim fC h1 σ1/\FRel kF vs/\List.length vs=List.length env/\G (LJ T (D6 T j) R ys (.loop b) ro kF h1 k),n,?_,?_⟩
  .rw[B4 _ _ rfl];exact⟨z5 _,et,h,rs,z5 _,λ_ _=>rfl,hs,hE,rfl,he⟩
  .rintro j vs σ1 ⟨hj,kF,h1,fC,g1,g2,g3,gE,g4,g5⟩;rw[Sl _ _ g4];refine oa j hj R G hG ys ro kF vs h1 _ fC σ1 _ (hY.mono g1 g2) g3 gE g5 ?_;intro e dK h' bn M' af hn hr a8 bZ hl hg;cases e with
   |normal =>
    cases j with
    |zero=>exact(hG.fail hg).elim
    |succ j =>
     refine⟨j,Nat.lt_succ_self _,by omega,dK,h',bn,zZ g1 hn,λi hi=>(hr i (by omega)).trans (g2 i hi),a8,?_,?_,?_⟩
     .rw[B4 _ _ (hl.trans g4)];exact bZ
     .rw[B4 _ _ (hl.trans g4)];exact hl.trans g4
     .exact hg
   |_=>exact hk _ dK h' bn M' af (zZ g1 hn) (λi hi=>(hr i (by omega)).trans (g2 i hi)) a8 bZ (hl.trans g4) hg
theorem HM (hm:P.follows .mixedOrders=true) (hT:TabOk P T) (n:Nat):Sd P (D6 T n):=by
 cases n with
 |zero=>intro A R G hG ys c ro et env h k rs M Q hY hs hE he hk;exact(hG.fail he).elim
 |succ n=>intro A R G hG ys c ro et env h k rs M Q hY hs hE he hk;exact Ef hm hT n c R G hG ys ro et env h k rs M Q hY hs hE he hk
theorem HRel.forget {ρ:Plc}{M:Heap}{w:World}(hH:HRel ρ M w):HRel (λ_=>none) Heap.empty w :=
 ⟨⟨λi b h=>(by cases h),λ_ _=>rfl,λi p h=>(by cases h),λi j p q b _ h=>(by cases h)⟩,λg cs hg=>⟨(hH.tab g cs hg).1,λ⟨_,_,_,h,_⟩=>by cases h⟩⟩
theorem Lb {f:FuncId}{args:List Value}(ha:args.all QN=true) {v:Value}(hv:Ek v=true) (he:Xf P f) (h0:VCallsTo P f args Heap.empty (λu _=>u=v)) {M:Heap}{K:Value->Heap->Prop}(hK:K v M):VCalled P f args M K:=by
 refine VCallsTo.called he ?_;intro ρ w az hH hL;refine (h0 (λ_=>none) w az hH.forget ?_).mono ?_
 .refine⟨hL.1,λi a c jZ hc=>?_⟩;have hp:=z6.1 ha a (zE jZ);have:=KQ hp (hL.2 i a c jZ hc);subst this;exact W1 hp
 .rintro e w' ⟨c,rfl,u,ρ',M',rfl,eF,gH,hE⟩;refine⟨c,rfl,u,ρ,M,hK,?_,?_,?_⟩
  .have:c=u:=Q0q hv eF;subst this;exact Oj hv
  .exact hH.world hE.size (λi p hp=>hE.keep _ (hH.lt i p hp) (λ⟨_,_,_,h,_⟩=>by cases h)) λg cs hg=>hE.keep _ (hH.tab.lt hg) (λ⟨_,_,_,h,_⟩=>by cases h)
  .exact⟨hE.os,hE.tape,hE.output,hE.size,λB hB _=>hE.keep B hB (λ⟨_,_,_,h,_⟩=>by cases h),λ_ _ h=>h,z5 _,λ_ _ _ h=>h⟩
theorem Q12 (hm:P.follows .mixedOrders=true) (hT:TabOk P T) (n:Nat) {f:FuncId}{vc:VCode}{rl:List VResult}{nt:Nat}(hF:Fun P f vc rl nt) (args:List Value) (ha:args.all QN=true) (v:Value) (hv:Ek v=true) (p:Value->Bool) (hp:∀ u,p u=true->u=v)
  (dM:Nat.ble (ET.of args nt).m 1000000=true) (he:D6 T n Xx [] vc none (ET.of args nt) CH.empty (Q63 false rl λv _=>p v)=true) {M:Heap}{K:Value->Heap->Prop}(hK:K v M):VCalled P f args M K:=by
 refine Lb ha hv hF.enterable ?_ hK;refine hF.callsTo hm BL ?_
 exact HM hm hT n Xx (·=true) Rr [] vc none _ _ CH.empty _ (λ_=>([],default)) Heap.empty _ (λi c h=>by cases h) ⟨rfl,by decide,λi=>rfl⟩ (ET.q1o (zC dM)) he
  (Mk (R:=Xx) Rr λv' h' bn M' _ _ _ hg=>hp v' hg)
end
end Go.V
namespace Go.V
open Go
def Q5p (P:Program) (f:FuncId):Option FEnt->Prop
 |none=>True
 |some (.code vc rs nt)=>Fun P f vc rs nt
 |some (.codeJ vc rs nt)=>Fun P f vc rs nt
 |some (.codeM vc rs nt ms)=>Fun P f vc rs nt/\∀ m∈ms,NM P f m
 |some .same=>∀ (v:Value) (M:Heap) (K:Value->Heap->Prop),K v M->VCalled P f [v] M K
def EntsOk (P:Program):Nat->List (Option FEnt)->Prop
 |_,[]=>True
 |i,e::l=>Q5p P i e/\EntsOk P (i+1) l
theorem EntsOk.get {P:Program}:∀ {l:List (Option FEnt)}{i j:Nat}{e:FEnt},EntsOk P i l->l[j]?=some (some e)->Q5p P (i+j) (some e)
 |[],_,_,_,_,h=>by simp at h
 |x::l,i,0,e,h,hj=>by simp at hj;subst hj;exact h.1
 |x::l,i,j+1,e,h,hj=>by have:=EntsOk.get (l:=l) (i:=i+1) (j:=j) h.2 (by simpa using hj);rw[zk,xP 1 j] at this;exact this
theorem AB {P:Program}{l:List (Option FEnt)}(h:EntsOk P 0 l):TabOk P (λf=>(l[f]?).join):=by
 have key:∀ f e,(l[f]?).join=some e->Q5p P f (some e):=λf e he=>by
  have:=EntsOk.get (j:=f) (e:=e) h (by
   cases hl:l[f]? with
   |none=>rw[hl] at he;cases he
   |some x=>rw[hl] at he;simp at he;rw[he])
  simpa using this
 exact⟨λf vc rs nt he=>key f _ he,λf vc rs nt he=>key f _ he,λf vc rs nt ms he=>key f _ he,λf he=>key f _ he⟩
def isTrue:Value->Bool
 |.bool true=>true
 |_=>false
theorem Ir {v:Value}(h:isTrue v=true):v=.bool true:=by
 unfold isTrue at h;split at h
 .rfl
 .cases h
theorem Q1l {P:Program}(hm:P.follows .mixedOrders=true) {T:Tab}(hT:TabOk P T) (n:Nat) {f:FuncId}{vc:VCode}{rl:List VResult}{nt:Nat}(hF:Fun P f vc rl nt) (dM:Nat.ble (ET.of [] nt).m 1000000=true)
  (he:D6 T n Xx [] vc none (ET.of [] nt) CH.empty (Q63 false rl λv _=>isTrue v)=true) {M:Heap}{K:Value->Heap->Prop}(hK:K (.bool true) M):VCalled P f [] M K :=
 Q12 hm hT n hF [] rfl (.bool true) rfl isTrue (λ_ h=>Ir h) dM he hK
def XN:List PB->CH->CH
 |[],h=>h
 |b::l,h=>XN l (h.push (.cells b.c b.esz false b.tight))
def SU (M:Heap) (l:List PB):Heap where
 get i:=if i<M.n then M.get i else (l[i-M.n]?).map (PB.blk false)
 n:=M.n+l.length
 wf i h:=by rw[z1 (by omega),zj (by omega)];rfl
theorem TL {rs:VR}:∀ (fr:List PB) {h:CH}{M:Heap},CSim rs h M->h.n+fr.length<=1000000000->CSim rs (XN fr h) (SU M fr)/\(XN fr h).n=h.n+fr.length
 |[],h,M,hs,_=>by
  have:SU M []=M:=Heap.ext' (λj=>by
   show (if j<M.n then M.get j else _)=_;split
   .rfl
   .rename_i hj;rw[M.wf j (by omega)];simp) rfl
  rw[this];exact⟨hs,rfl⟩
 |b::l,h,M,hs,hr=>by
  have hr:h.n+(l.length+1)<=1000000000:=hr;have hn:=hs.n;have h1:CSim rs (h.push (.cells b.c b.esz false b.tight)) (M.push (b.blk false)):=hs.push (Nat.ble_eq_true_of_le (by omega)) rfl;obtain⟨h2,h3⟩:=TL l h1 (by show h.n+1+_<=_;omega);refine⟨?_,by rw[show XN (b::l) h=XN l (h.push (.cells b.c b.esz false b.tight)) from rfl,h3];show h.n+1+l.length=h.n+(l.length+1);omega⟩;have:SU M (b::l)=SU (M.push (b.blk false)) l:=Heap.ext' (λj=>by
   show (if j<M.n then M.get j else _)=(if j<M.n+1 then (M.push (b.blk false)).get j else _);rcases Nat.lt_trichotomy j M.n with hj|hj|hj
   .rw[z0 hj,z0 (by omega),Heap.q0i _ _ hj]
   .subst hj;rw[z1 (by omega),z0 (by omega),Heap.q0a];simp
   .rw[z1 (by omega),z1 (by omega)];rw[show j-M.n=(j-(M.push (b.blk false)).n)+1 by simp;omega];rfl) (by simp[SU];omega)
  rw[this];exact h2
theorem Sv (bl fr:List PB):XY (SU Heap.empty bl) fr=Qt bl fr:=Heap.ext' (λj=>by
 have hn:(SU Heap.empty bl).n=bl.length:=by simp[SU,Heap.empty]
 show (if j<(SU Heap.empty bl).n then (SU Heap.empty bl).get j else (fr[j-(SU Heap.empty bl).n]?).map (PB.blk true))=(if j<bl.length then _ else _);rw[hn];split
 .simp[SU,Heap.empty]
 .rfl) (by simp[XY,SU,Qt,Heap.empty])
def Aq (m:Memo):Bool:=Nat.ble (m.bl.length+m.fr.length) 1000000000&&m.fr.all (λb=>b.c.all QN)
theorem D7 {P:Program}(hm:P.follows .mixedOrders=true) {T:Tab}(hT:TabOk P T) (n:Nat) {f:FuncId}{m:Memo}(hf:Aq m=true)
  (he:DS T (D6 T n) Xx [] f m.args (XN m.bl CH.empty) (λu h'=>TZ 20 u m.v&&h'.same (X3 m.fr (XN m.bl CH.empty)))=true):NM P f m:=by
 simp only[Aq,z2,z6] at hf;obtain⟨h1,h3⟩:=hf;have h1:=zC h1;have e0:∀ rs:VR,CSim rs CH.empty Heap.empty:=λrs=>⟨rfl,by decide,λi=>rfl⟩;have s1:∀ rs:VR,CSim rs (XN m.bl CH.empty) (SU Heap.empty m.bl)/\(XN m.bl CH.empty).n=0+m.bl.length:=λrs=>TL m.bl (e0 rs) (by show 0+_<=_;omega);have s2:∀ rs:VR,CSim rs (X3 m.fr (XN m.bl CH.empty)) (Qt m.bl m.fr):=λrs=>by rw[<-Sv];exact(Ng m.fr (s1 rs).1 (by rw[(s1 rs).2];omega)).1
 have mT:SU Heap.empty m.bl=Qt m.bl []:=by
  rw[<-Sv];exact Heap.ext' (λj=>by
   show _=(if j<(SU Heap.empty m.bl).n then _ else _);split
   .rfl
   .rename_i hj;rw[(SU Heap.empty m.bl).wf j (by omega)];simp) rfl
 refine⟨?_,λb hb=>z6.2 (h3 b hb)⟩;rw[<-mT];refine G6 (R:=Xx) (G:=(·=true)) (rs:=λ_=>([],default)) hm hT (λ{A}=>HM hm hT n (A:=A)) Rr (λi c h=>by cases h) (s1 _).1 he ?_;intro v h' bn M' _ _ a8 hg;rw[z2] at hg;refine⟨NA 20 _ _ hg.1,?_⟩;obtain⟨g1,g2⟩:=CV hg.2;refine Heap.ext' (λj=>?_) ?_
 .rw[a8.get,g2,(s2 bn).get]
 .rw[<-a8.n,g1,(s2 bn).n]
end Go.V
namespace Go.Proofs.Tryz
open Go Go.V Go.Proofs
theorem mixed:Tryz.prog.follows .mixedOrders=true:=by kernel_rfl
def cof (fn:Func):VCode:=match fn.body.bind (comp Tryz.prog) with|some c=>c|none=>.bad
theorem Q1 {fn:Func}(h:(fn.body.bind (comp Tryz.prog)).isSome=true):fn.body.bind (comp Tryz.prog)=some (cof fn):=by
 unfold cof;cases h2:fn.body.bind (comp Tryz.prog) with
 |none=>rw[h2] at h;cases h
 |some c=>rfl
def c2:VCode:=cof Tryz.f2
theorem Z4u:Fun Tryz.prog 2 c2 [] 1:=⟨Tryz.f2,Tryz.func2,Q1 (by kernel_rfl),by kernel_rfl,rfl,rfl⟩
def c3:VCode:=cof Tryz.f3
theorem Z53:Fun Tryz.prog 3 c3 [.tmp 2] 84:=⟨Tryz.f3,Tryz.func3,Q1 (by kernel_rfl),by kernel_rfl,rfl,rfl⟩
def c4:VCode:=cof Tryz.f4
theorem Z57:Fun Tryz.prog 4 c4 [.tmp 4] 203:=⟨Tryz.f4,Tryz.func4,Q1 (by kernel_rfl),by kernel_rfl,rfl,rfl⟩
def c5:VCode:=cof Tryz.f5
theorem Z52:Fun Tryz.prog 5 c5 [.tmp 2] 92:=⟨Tryz.f5,Tryz.func5,Q1 (by kernel_rfl),by kernel_rfl,rfl,rfl⟩
def c6:VCode:=cof Tryz.f6
theorem Z4e:Fun Tryz.prog 6 c6 [.tmp 6] 129:=⟨Tryz.f6,Tryz.func6,Q1 (by kernel_rfl),by kernel_rfl,rfl,rfl⟩
def c7:VCode:=cof Tryz.f7
theorem Z4q:Fun Tryz.prog 7 c7 [.tmp 4] 283:=⟨Tryz.f7,Tryz.func7,Q1 (by kernel_rfl),by kernel_rfl,rfl,rfl⟩
def c8:VCode:=cof Tryz.f8
theorem fun8:Fun Tryz.prog 8 c8 [.tmp 6] 207:=⟨Tryz.f8,Tryz.func8,Q1 (by kernel_rfl),by kernel_rfl,rfl,rfl⟩
def c9:VCode:=cof Tryz.f9
theorem Z4s:Fun Tryz.prog 9 c9 [.tmp 2] 249:=⟨Tryz.f9,Tryz.func9,Q1 (by kernel_rfl),by kernel_rfl,rfl,rfl⟩
def c10:VCode:=cof Tryz.f10
theorem Q8r:Fun Tryz.prog 10 c10 [.tmp 6] 205:=⟨Tryz.f10,Tryz.func10,Q1 (by kernel_rfl),by kernel_rfl,rfl,rfl⟩
def c11:VCode:=cof Tryz.f11
theorem Q8h:Fun Tryz.prog 11 c11 [.tmp 2] 265:=⟨Tryz.f11,Tryz.func11,Q1 (by kernel_rfl),by kernel_rfl,rfl,rfl⟩
def c12:VCode:=cof Tryz.f12
theorem Q7x:Fun Tryz.prog 12 c12 [.tmp 4] 132:=⟨Tryz.f12,Tryz.func12,Q1 (by kernel_rfl),by kernel_rfl,rfl,rfl⟩
def c13:VCode:=cof Tryz.f13
theorem Q8l:Fun Tryz.prog 13 c13 [.tmp 4] 228:=⟨Tryz.f13,Tryz.func13,Q1 (by kernel_rfl),by kernel_rfl,rfl,rfl⟩
def c14:VCode:=cof Tryz.f14
theorem Q7t:Fun Tryz.prog 14 c14 [.tmp 6] 133:=⟨Tryz.f14,Tryz.func14,Q1 (by kernel_rfl),by kernel_rfl,rfl,rfl⟩
def c15:VCode:=cof Tryz.f15
theorem Q50:Fun Tryz.prog 15 c15 [.tmp 0] 226:=⟨Tryz.f15,Tryz.func15,Q1 (by kernel_rfl),by kernel_rfl,rfl,rfl⟩
def c16:VCode:=cof Tryz.f16
theorem Q5g:Fun Tryz.prog 16 c16 [.cell 2 true 2] 9:=⟨Tryz.f16,Tryz.func16,Q1 (by kernel_rfl),by kernel_rfl,rfl,rfl⟩
def c17:VCode:=cof Tryz.f17
theorem Q5x:Fun Tryz.prog 17 c17 [.tmp 2,.tmp 3] 49:=⟨Tryz.f17,Tryz.func17,Q1 (by kernel_rfl),by kernel_rfl,rfl,rfl⟩
def c18:VCode:=cof Tryz.f18
theorem Q85:Fun Tryz.prog 18 c18 [.cell 2 true 2,.tmp 3] 34:=⟨Tryz.f18,Tryz.func18,Q1 (by kernel_rfl),by kernel_rfl,rfl,rfl⟩
def c19:VCode:=cof Tryz.f19
theorem Q7n:Fun Tryz.prog 19 c19 [.tmp 2] 32:=⟨Tryz.f19,Tryz.func19,Q1 (by kernel_rfl),by kernel_rfl,rfl,rfl⟩
def c20:VCode:=cof Tryz.f20
theorem Q9r:Fun Tryz.prog 20 c20 [.tmp 2] 45:=⟨Tryz.f20,Tryz.func20,Q1 (by kernel_rfl),by kernel_rfl,rfl,rfl⟩
def c21:VCode:=cof Tryz.f21
theorem Q9x:Fun Tryz.prog 21 c21 [.tmp 4] 17:=⟨Tryz.f21,Tryz.func21,Q1 (by kernel_rfl),by kernel_rfl,rfl,rfl⟩
def c22:VCode:=cof Tryz.f22
theorem Q7h:Fun Tryz.prog 22 c22 [.tmp 4] 26:=⟨Tryz.f22,Tryz.func22,Q1 (by kernel_rfl),by kernel_rfl,rfl,rfl⟩
def c23:VCode:=cof Tryz.f23
theorem Q8w:Fun Tryz.prog 23 c23 [.tmp 2] 74:=⟨Tryz.f23,Tryz.func23,Q1 (by kernel_rfl),by kernel_rfl,rfl,rfl⟩
def c24:VCode:=cof Tryz.f24
theorem Z05:Fun Tryz.prog 24 c24 [.cell 2 true 2] 44:=⟨Tryz.f24,Tryz.func24,Q1 (by kernel_rfl),by kernel_rfl,rfl,rfl⟩
def c25:VCode:=cof Tryz.f25
theorem Q8c:Fun Tryz.prog 25 c25 [.tmp 2] 6:=⟨Tryz.f25,Tryz.func25,Q1 (by kernel_rfl),by kernel_rfl,rfl,rfl⟩
def c26:VCode:=cof Tryz.f26
theorem Q7q:Fun Tryz.prog 26 c26 [.tmp 4,.tmp 5,.tmp 6,.tmp 7] 79:=⟨Tryz.f26,Tryz.func26,Q1 (by kernel_rfl),by kernel_rfl,rfl,rfl⟩
def c27:VCode:=cof Tryz.f27
theorem Q65:Fun Tryz.prog 27 c27 [.tmp 6,.tmp 7] 29:=⟨Tryz.f27,Tryz.func27,Q1 (by kernel_rfl),by kernel_rfl,rfl,rfl⟩
def c28:VCode:=cof Tryz.f28
theorem Q4u:Fun Tryz.prog 28 c28 [.tmp 6,.tmp 7] 33:=⟨Tryz.f28,Tryz.func28,Q1 (by kernel_rfl),by kernel_rfl,rfl,rfl⟩
def c29:VCode:=cof Tryz.f29
theorem Q72:Fun Tryz.prog 29 c29 [.tmp 4] 15:=⟨Tryz.f29,Tryz.func29,Q1 (by kernel_rfl),by kernel_rfl,rfl,rfl⟩
def c30:VCode:=cof Tryz.f30
theorem Q88:Fun Tryz.prog 30 c30 [.tmp 6] 15:=⟨Tryz.f30,Tryz.func30,Q1 (by kernel_rfl),by kernel_rfl,rfl,rfl⟩
def c31:VCode:=cof Tryz.f31
theorem Q9n:Fun Tryz.prog 31 c31 [.cell 4 true 4,.tmp 5] 41:=⟨Tryz.f31,Tryz.func31,Q1 (by kernel_rfl),by kernel_rfl,rfl,rfl⟩
def c32:VCode:=cof Tryz.f32
theorem Z04:Fun Tryz.prog 32 c32 [.tmp 6,.tmp 7] 60:=⟨Tryz.f32,Tryz.func32,Q1 (by kernel_rfl),by kernel_rfl,rfl,rfl⟩
def c33:VCode:=cof Tryz.f33
theorem Q7i:Fun Tryz.prog 33 c33 [.tmp 2] 37:=⟨Tryz.f33,Tryz.func33,Q1 (by kernel_rfl),by kernel_rfl,rfl,rfl⟩
def c34:VCode:=cof Tryz.f34
theorem Q94:Fun Tryz.prog 34 c34 [.cell 2 true 3] 34:=⟨Tryz.f34,Tryz.func34,Q1 (by kernel_rfl),by kernel_rfl,rfl,rfl⟩
def c35:VCode:=cof Tryz.f35
theorem Q7j:Fun Tryz.prog 35 c35 [.tmp 2] 36:=⟨Tryz.f35,Tryz.func35,Q1 (by kernel_rfl),by kernel_rfl,rfl,rfl⟩
def c36:VCode:=cof Tryz.f36
theorem Q71:Fun Tryz.prog 36 c36 [.tmp 2,.tmp 3] 34:=⟨Tryz.f36,Tryz.func36,Q1 (by kernel_rfl),by kernel_rfl,rfl,rfl⟩
def c37:VCode:=cof Tryz.f37
theorem Q83:Fun Tryz.prog 37 c37 [.cell 2 false 1,.tmp 3] 44:=⟨Tryz.f37,Tryz.func37,Q1 (by kernel_rfl),by kernel_rfl,rfl,rfl⟩
def c38:VCode:=cof Tryz.f38
theorem Q82:Fun Tryz.prog 38 c38 [.tmp 2] 78:=⟨Tryz.f38,Tryz.func38,Q1 (by kernel_rfl),by kernel_rfl,rfl,rfl⟩
def c39:VCode:=cof Tryz.f39
theorem Z0e:Fun Tryz.prog 39 c39 [.tmp 4] 63:=⟨Tryz.f39,Tryz.func39,Q1 (by kernel_rfl),by kernel_rfl,rfl,rfl⟩
def c40:VCode:=cof Tryz.f40
theorem Q8d:Fun Tryz.prog 40 c40 [.tmp 2] 5:=⟨Tryz.f40,Tryz.func40,Q1 (by kernel_rfl),by kernel_rfl,rfl,rfl⟩
def c41:VCode:=cof Tryz.f41
theorem Z0b:Fun Tryz.prog 41 c41 [.tmp 4] 27:=⟨Tryz.f41,Tryz.func41,Q1 (by kernel_rfl),by kernel_rfl,rfl,rfl⟩
def c42:VCode:=cof Tryz.f42
theorem Q7y:Fun Tryz.prog 42 c42 [.tmp 6,.tmp 7] 57:=⟨Tryz.f42,Tryz.func42,Q1 (by kernel_rfl),by kernel_rfl,rfl,rfl⟩
def c43:VCode:=cof Tryz.f43
theorem Q8q:Fun Tryz.prog 43 c43 [.tmp 2,.tmp 3] 45:=⟨Tryz.f43,Tryz.func43,Q1 (by kernel_rfl),by kernel_rfl,rfl,rfl⟩
def c44:VCode:=cof Tryz.f44
theorem Q9e:Fun Tryz.prog 44 c44 [.tmp 8] 46:=⟨Tryz.f44,Tryz.func44,Q1 (by kernel_rfl),by kernel_rfl,rfl,rfl⟩
def c45:VCode:=cof Tryz.f45
theorem Q9i:Fun Tryz.prog 45 c45 [.tmp 4] 66:=⟨Tryz.f45,Tryz.func45,Q1 (by kernel_rfl),by kernel_rfl,rfl,rfl⟩
def c46:VCode:=cof Tryz.f46
theorem Q8g:Fun Tryz.prog 46 c46 [.cell 2 true 2] 50:=⟨Tryz.f46,Tryz.func46,Q1 (by kernel_rfl),by kernel_rfl,rfl,rfl⟩
def c47:VCode:=cof Tryz.f47
theorem Q7z:Fun Tryz.prog 47 c47 [.cell 2 true 2,.tmp 3] 54:=⟨Tryz.f47,Tryz.func47,Q1 (by kernel_rfl),by kernel_rfl,rfl,rfl⟩
def c48:VCode:=cof Tryz.f48
theorem Q9k:Fun Tryz.prog 48 c48 [.tmp 6,.tmp 7,.tmp 8] 58:=⟨Tryz.f48,Tryz.func48,Q1 (by kernel_rfl),by kernel_rfl,rfl,rfl⟩
def c49:VCode:=cof Tryz.f49
theorem Q8n:Fun Tryz.prog 49 c49 [.tmp 4] 20:=⟨Tryz.f49,Tryz.func49,Q1 (by kernel_rfl),by kernel_rfl,rfl,rfl⟩
def c50:VCode:=cof Tryz.f50
theorem Q4l:Fun Tryz.prog 50 c50 [.tmp 4] 16:=⟨Tryz.f50,Tryz.func50,Q1 (by kernel_rfl),by kernel_rfl,rfl,rfl⟩
def c51:VCode:=cof Tryz.f51
theorem Q5w:Fun Tryz.prog 51 c51 [.cell 2 true 2] 74:=⟨Tryz.f51,Tryz.func51,Q1 (by kernel_rfl),by kernel_rfl,rfl,rfl⟩
def c52:VCode:=cof Tryz.f52
theorem Q4i:Fun Tryz.prog 52 c52 [.tmp 4] 52:=⟨Tryz.f52,Tryz.func52,Q1 (by kernel_rfl),by kernel_rfl,rfl,rfl⟩
def c53:VCode:=cof Tryz.f53
theorem Q7o:Fun Tryz.prog 53 c53 [.cell 2 true 2] 37:=⟨Tryz.f53,Tryz.func53,Q1 (by kernel_rfl),by kernel_rfl,rfl,rfl⟩
def c54:VCode:=cof Tryz.f54
theorem Q8o:Fun Tryz.prog 54 c54 [.tmp 4,.tmp 5,.tmp 6,.tmp 7,.tmp 8] 91:=⟨Tryz.f54,Tryz.func54,Q1 (by kernel_rfl),by kernel_rfl,rfl,rfl⟩
def c55:VCode:=cof Tryz.f55
theorem Q97:Fun Tryz.prog 55 c55 [.cell 2 true 3,.tmp 3] 165:=⟨Tryz.f55,Tryz.func55,Q1 (by kernel_rfl),by kernel_rfl,rfl,rfl⟩
def c56:VCode:=cof Tryz.f56
theorem Q8p:Fun Tryz.prog 56 c56 [.tmp 4] 37:=⟨Tryz.f56,Tryz.func56,Q1 (by kernel_rfl),by kernel_rfl,rfl,rfl⟩
def c57:VCode:=cof Tryz.f57
theorem Q9q:Fun Tryz.prog 57 c57 [.tmp 2] 11:=⟨Tryz.f57,Tryz.func57,Q1 (by kernel_rfl),by kernel_rfl,rfl,rfl⟩
def c58:VCode:=cof Tryz.f58
theorem Z0d:Fun Tryz.prog 58 c58 [.cell 2 true 2,.tmp 3] 54:=⟨Tryz.f58,Tryz.func58,Q1 (by kernel_rfl),by kernel_rfl,rfl,rfl⟩
def c59:VCode:=cof Tryz.f59
theorem Z00:Fun Tryz.prog 59 c59 [.tmp 6,.tmp 7,.tmp 8] 65:=⟨Tryz.f59,Tryz.func59,Q1 (by kernel_rfl),by kernel_rfl,rfl,rfl⟩
def c60:VCode:=cof Tryz.f60
theorem Q9h:Fun Tryz.prog 60 c60 [.cell 0 true 2] 8:=⟨Tryz.f60,Tryz.func60,Q1 (by kernel_rfl),by kernel_rfl,rfl,rfl⟩
def c61:VCode:=cof Tryz.f61
theorem Q73:Fun Tryz.prog 61 c61 [.cell 2 true 3] 23:=⟨Tryz.f61,Tryz.func61,Q1 (by kernel_rfl),by kernel_rfl,rfl,rfl⟩
def c62:VCode:=cof Tryz.f62
theorem Q5r:Fun Tryz.prog 62 c62 [.cell 2 true 3,.tmp 3] 43:=⟨Tryz.f62,Tryz.func62,Q1 (by kernel_rfl),by kernel_rfl,rfl,rfl⟩
def c63:VCode:=cof Tryz.f63
theorem Q4z:Fun Tryz.prog 63 c63 [.tmp 4] 25:=⟨Tryz.f63,Tryz.func63,Q1 (by kernel_rfl),by kernel_rfl,rfl,rfl⟩
def c64:VCode:=cof Tryz.f64
theorem Q7w:Fun Tryz.prog 64 c64 [.tmp 4] 12:=⟨Tryz.f64,Tryz.func64,Q1 (by kernel_rfl),by kernel_rfl,rfl,rfl⟩
def c65:VCode:=cof Tryz.f65
theorem Z0g:Fun Tryz.prog 65 c65 [.tmp 2] 4:=⟨Tryz.f65,Tryz.func65,Q1 (by kernel_rfl),by kernel_rfl,rfl,rfl⟩
def c66:VCode:=cof Tryz.f66
theorem Q95:Fun Tryz.prog 66 c66 [.tmp 4] 10:=⟨Tryz.f66,Tryz.func66,Q1 (by kernel_rfl),by kernel_rfl,rfl,rfl⟩
def c67:VCode:=cof Tryz.f67
theorem Q7r:Fun Tryz.prog 67 c67 [.tmp 4] 20:=⟨Tryz.f67,Tryz.func67,Q1 (by kernel_rfl),by kernel_rfl,rfl,rfl⟩
def c68:VCode:=cof Tryz.f68
theorem Q98:Fun Tryz.prog 68 c68 [.tmp 4] 14:=⟨Tryz.f68,Tryz.func68,Q1 (by kernel_rfl),by kernel_rfl,rfl,rfl⟩
def c69:VCode:=cof Tryz.f69
theorem Q8m:Fun Tryz.prog 69 c69 [.tmp 4] 26:=⟨Tryz.f69,Tryz.func69,Q1 (by kernel_rfl),by kernel_rfl,rfl,rfl⟩
def c70:VCode:=cof Tryz.f70
theorem Z01:Fun Tryz.prog 70 c70 [.tmp 4] 55:=⟨Tryz.f70,Tryz.func70,Q1 (by kernel_rfl),by kernel_rfl,rfl,rfl⟩
def c71:VCode:=cof Tryz.f71
theorem Q84:Fun Tryz.prog 71 c71 [.tmp 4] 41:=⟨Tryz.f71,Tryz.func71,Q1 (by kernel_rfl),by kernel_rfl,rfl,rfl⟩
def c72:VCode:=cof Tryz.f72
theorem Q7s:Fun Tryz.prog 72 c72 [.tmp 4] 33:=⟨Tryz.f72,Tryz.func72,Q1 (by kernel_rfl),by kernel_rfl,rfl,rfl⟩
def c73:VCode:=cof Tryz.f73
theorem Q5q:Fun Tryz.prog 73 c73 [.cell 4 true 4,.tmp 5] 33:=⟨Tryz.f73,Tryz.func73,Q1 (by kernel_rfl),by kernel_rfl,rfl,rfl⟩
def c74:VCode:=cof Tryz.f74
theorem Q77:Fun Tryz.prog 74 c74 [.tmp 2] 70:=⟨Tryz.f74,Tryz.func74,Q1 (by kernel_rfl),by kernel_rfl,rfl,rfl⟩
def c75:VCode:=cof Tryz.f75
theorem Q9v:Fun Tryz.prog 75 c75 [.tmp 2] 25:=⟨Tryz.f75,Tryz.func75,Q1 (by kernel_rfl),by kernel_rfl,rfl,rfl⟩
def c76:VCode:=cof Tryz.f76
theorem Q8b:Fun Tryz.prog 76 c76 [.tmp 4] 19:=⟨Tryz.f76,Tryz.func76,Q1 (by kernel_rfl),by kernel_rfl,rfl,rfl⟩
def c77:VCode:=cof Tryz.f77
theorem Q5f:Fun Tryz.prog 77 c77 [.tmp 2] 5:=⟨Tryz.f77,Tryz.func77,Q1 (by kernel_rfl),by kernel_rfl,rfl,rfl⟩
def c78:VCode:=cof Tryz.f78
theorem Q6g:Fun Tryz.prog 78 c78 [.tmp 6] 15:=⟨Tryz.f78,Tryz.func78,Q1 (by kernel_rfl),by kernel_rfl,rfl,rfl⟩
def c79:VCode:=cof Tryz.f79
theorem Q4w:Fun Tryz.prog 79 c79 [.tmp 6,.tmp 7] 28:=⟨Tryz.f79,Tryz.func79,Q1 (by kernel_rfl),by kernel_rfl,rfl,rfl⟩
def c80:VCode:=cof Tryz.f80
theorem Q4o:Fun Tryz.prog 80 c80 [.tmp 2] 9:=⟨Tryz.f80,Tryz.func80,Q1 (by kernel_rfl),by kernel_rfl,rfl,rfl⟩
def c81:VCode:=cof Tryz.f81
theorem Q4j:Fun Tryz.prog 81 c81 [.tmp 2] 4:=⟨Tryz.f81,Tryz.func81,Q1 (by kernel_rfl),by kernel_rfl,rfl,rfl⟩
def c82:VCode:=cof Tryz.f82
theorem Q75:Fun Tryz.prog 82 c82 [.tmp 4] 30:=⟨Tryz.f82,Tryz.func82,Q1 (by kernel_rfl),by kernel_rfl,rfl,rfl⟩
def c83:VCode:=cof Tryz.f83
theorem Q8t:Fun Tryz.prog 83 c83 [.tmp 4] 24:=⟨Tryz.f83,Tryz.func83,Q1 (by kernel_rfl),by kernel_rfl,rfl,rfl⟩
def c84:VCode:=cof Tryz.f84
theorem Q7b:Fun Tryz.prog 84 c84 [.tmp 2] 7:=⟨Tryz.f84,Tryz.func84,Q1 (by kernel_rfl),by kernel_rfl,rfl,rfl⟩
def c85:VCode:=cof Tryz.f85
theorem Q9u:Fun Tryz.prog 85 c85 [.tmp 3] 9:=⟨Tryz.f85,Tryz.func85,Q1 (by kernel_rfl),by kernel_rfl,rfl,rfl⟩
def c86:VCode:=cof Tryz.f86
theorem Q5t:Fun Tryz.prog 86 c86 [.tmp 4] 16:=⟨Tryz.f86,Tryz.func86,Q1 (by kernel_rfl),by kernel_rfl,rfl,rfl⟩
def c87:VCode:=cof Tryz.f87
theorem Q4n:Fun Tryz.prog 87 c87 [.tmp 2] 6:=⟨Tryz.f87,Tryz.func87,Q1 (by kernel_rfl),by kernel_rfl,rfl,rfl⟩
def c88:VCode:=cof Tryz.f88
theorem Q54:Fun Tryz.prog 88 c88 [.tmp 6] 11:=⟨Tryz.f88,Tryz.func88,Q1 (by kernel_rfl),by kernel_rfl,rfl,rfl⟩
def c89:VCode:=cof Tryz.f89
theorem Q76:Fun Tryz.prog 89 c89 [.tmp 4] 9:=⟨Tryz.f89,Tryz.func89,Q1 (by kernel_rfl),by kernel_rfl,rfl,rfl⟩
def c90:VCode:=cof Tryz.f90
theorem Q8f:Fun Tryz.prog 90 c90 [.cell 4 false 1] 39:=⟨Tryz.f90,Tryz.func90,Q1 (by kernel_rfl),by kernel_rfl,rfl,rfl⟩
def c91:VCode:=cof Tryz.f91
theorem Q9c:Fun Tryz.prog 91 c91 [.tmp 4] 76:=⟨Tryz.f91,Tryz.func91,Q1 (by kernel_rfl),by kernel_rfl,rfl,rfl⟩
def c92:VCode:=cof Tryz.f92
theorem Q74:Fun Tryz.prog 92 c92 [.cell 6 false 1] 110:=⟨Tryz.f92,Tryz.func92,Q1 (by kernel_rfl),by kernel_rfl,rfl,rfl⟩
def c93:VCode:=cof Tryz.f93
theorem Q9d:Fun Tryz.prog 93 c93 [.tmp 4] 26:=⟨Tryz.f93,Tryz.func93,Q1 (by kernel_rfl),by kernel_rfl,rfl,rfl⟩
def c94:VCode:=cof Tryz.f94
theorem Q6z:Fun Tryz.prog 94 c94 [.tmp 4] 19:=⟨Tryz.f94,Tryz.func94,Q1 (by kernel_rfl),by kernel_rfl,rfl,rfl⟩
def c95:VCode:=cof Tryz.f95
theorem Q9f:Fun Tryz.prog 95 c95 [.tmp 6] 29:=⟨Tryz.f95,Tryz.func95,Q1 (by kernel_rfl),by kernel_rfl,rfl,rfl⟩
def c96:VCode:=cof Tryz.f96
theorem Q9l:Fun Tryz.prog 96 c96 [.tmp 4] 9:=⟨Tryz.f96,Tryz.func96,Q1 (by kernel_rfl),by kernel_rfl,rfl,rfl⟩
def c97:VCode:=cof Tryz.f97
theorem Q89:Fun Tryz.prog 97 c97 [.tmp 2] 9:=⟨Tryz.f97,Tryz.func97,Q1 (by kernel_rfl),by kernel_rfl,rfl,rfl⟩
def c98:VCode:=cof Tryz.f98
theorem Q96:Fun Tryz.prog 98 c98 [.tmp 6] 88:=⟨Tryz.f98,Tryz.func98,Q1 (by kernel_rfl),by kernel_rfl,rfl,rfl⟩
def c99:VCode:=cof Tryz.f99
theorem Q7v:Fun Tryz.prog 99 c99 [.tmp 4] 6:=⟨Tryz.f99,Tryz.func99,Q1 (by kernel_rfl),by kernel_rfl,rfl,rfl⟩
def Z41:VCode:=cof Tryz.f100
theorem Q2k:Fun Tryz.prog 100 Z41 [.tmp 4] 9:=⟨Tryz.f100,Tryz.func100,Q1 (by kernel_rfl),by kernel_rfl,rfl,rfl⟩
def Z3l:VCode:=cof Tryz.f101
theorem Q2e:Fun Tryz.prog 101 Z3l [.tmp 4] 23:=⟨Tryz.f101,Tryz.func101,Q1 (by kernel_rfl),by kernel_rfl,rfl,rfl⟩
def Z1a:VCode:=cof Tryz.f102
theorem O5:Fun Tryz.prog 102 Z1a [.tmp 4] 10:=⟨Tryz.f102,Tryz.func102,Q1 (by kernel_rfl),by kernel_rfl,rfl,rfl⟩
def Z11:VCode:=cof Tryz.f103
theorem Ob:Fun Tryz.prog 103 Z11 [.cell 2 true 3,.tmp 3] 30:=⟨Tryz.f103,Tryz.func103,Q1 (by kernel_rfl),by kernel_rfl,rfl,rfl⟩
def Z1g:VCode:=cof Tryz.f104
theorem IP:Fun Tryz.prog 104 Z1g [.tmp 4] 26:=⟨Tryz.f104,Tryz.func104,Q1 (by kernel_rfl),by kernel_rfl,rfl,rfl⟩
def Z3v:VCode:=cof Tryz.f105
theorem Q3e:Fun Tryz.prog 105 Z3v [.tmp 4] 11:=⟨Tryz.f105,Tryz.func105,Q1 (by kernel_rfl),by kernel_rfl,rfl,rfl⟩
def Z3t:VCode:=cof Tryz.f106
theorem Q3g:Fun Tryz.prog 106 Z3t [.cell 2 true 3] 5:=⟨Tryz.f106,Tryz.func106,Q1 (by kernel_rfl),by kernel_rfl,rfl,rfl⟩
def Z1d:VCode:=cof Tryz.f107
theorem Fa:Fun Tryz.prog 107 Z1d [.cell 6 false 1] 73:=⟨Tryz.f107,Tryz.func107,Q1 (by kernel_rfl),by kernel_rfl,rfl,rfl⟩
def Z29:VCode:=cof Tryz.f108
theorem Q46:Fun Tryz.prog 108 Z29 [.tmp 2] 5:=⟨Tryz.f108,Tryz.func108,Q1 (by kernel_rfl),by kernel_rfl,rfl,rfl⟩
def Z1q:VCode:=cof Tryz.f109
theorem Q38:Fun Tryz.prog 109 Z1q [] 14:=⟨Tryz.f109,Tryz.func109,Q1 (by kernel_rfl),by kernel_rfl,rfl,rfl⟩
def Z20:VCode:=cof Tryz.f110
theorem Q29:Fun Tryz.prog 110 Z20 [] 16:=⟨Tryz.f110,Tryz.func110,Q1 (by kernel_rfl),by kernel_rfl,rfl,rfl⟩
def Z1k:VCode:=cof Tryz.f111
theorem F9:Fun Tryz.prog 111 Z1k [.tmp 2] 6:=⟨Tryz.f111,Tryz.func111,Q1 (by kernel_rfl),by kernel_rfl,rfl,rfl⟩
def Z0v:VCode:=cof Tryz.f112
theorem Is:Fun Tryz.prog 112 Z0v [.tmp 3] 14:=⟨Tryz.f112,Tryz.func112,Q1 (by kernel_rfl),by kernel_rfl,rfl,rfl⟩
def Z0m:VCode:=cof Tryz.f113
theorem OC:Fun Tryz.prog 113 Z0m [.tmp 4] 9:=⟨Tryz.f113,Tryz.func113,Q1 (by kernel_rfl),by kernel_rfl,rfl,rfl⟩
def Z2t:VCode:=cof Tryz.f114
theorem Q31:Fun Tryz.prog 114 Z2t [.tmp 2] 4:=⟨Tryz.f114,Tryz.func114,Q1 (by kernel_rfl),by kernel_rfl,rfl,rfl⟩
def Z1o:VCode:=cof Tryz.f115
theorem Q3c:Fun Tryz.prog 115 Z1o [.tmp 4] 48:=⟨Tryz.f115,Tryz.func115,Q1 (by kernel_rfl),by kernel_rfl,rfl,rfl⟩
def Z0u:VCode:=cof Tryz.f116
theorem IY:Fun Tryz.prog 116 Z0u [.tmp 6] 25:=⟨Tryz.f116,Tryz.func116,Q1 (by kernel_rfl),by kernel_rfl,rfl,rfl⟩
def Z1y:VCode:=cof Tryz.f117
theorem Q42:Fun Tryz.prog 117 Z1y [] 28:=⟨Tryz.f117,Tryz.func117,Q1 (by kernel_rfl),by kernel_rfl,rfl,rfl⟩
def Z17:VCode:=cof Tryz.f118
theorem Io:Fun Tryz.prog 118 Z17 [.tmp 4] 52:=⟨Tryz.f118,Tryz.func118,Q1 (by kernel_rfl),by kernel_rfl,rfl,rfl⟩
def Z1h:VCode:=cof Tryz.f119
theorem FZ:Fun Tryz.prog 119 Z1h [.tmp 2] 5:=⟨Tryz.f119,Tryz.func119,Q1 (by kernel_rfl),by kernel_rfl,rfl,rfl⟩
def Z0k:VCode:=cof Tryz.f120
theorem I1:Fun Tryz.prog 120 Z0k [] 11:=⟨Tryz.f120,Tryz.func120,Q1 (by kernel_rfl),by kernel_rfl,rfl,rfl⟩
def Z1l:VCode:=cof Tryz.f121
theorem Oe:Fun Tryz.prog 121 Z1l [] 14:=⟨Tryz.f121,Tryz.func121,Q1 (by kernel_rfl),by kernel_rfl,rfl,rfl⟩
def Z37:VCode:=cof Tryz.f122
theorem Q2y:Fun Tryz.prog 122 Z37 [.tmp 6] 79:=⟨Tryz.f122,Tryz.func122,Q1 (by kernel_rfl),by kernel_rfl,rfl,rfl⟩
def Z0j:VCode:=cof Tryz.f123
theorem Og:Fun Tryz.prog 123 Z0j [.tmp 3] 17:=⟨Tryz.f123,Tryz.func123,Q1 (by kernel_rfl),by kernel_rfl,rfl,rfl⟩
def Z12:VCode:=cof Tryz.f124
theorem FN:Fun Tryz.prog 124 Z12 [.tmp 4] 9:=⟨Tryz.f124,Tryz.func124,Q1 (by kernel_rfl),by kernel_rfl,rfl,rfl⟩
def Z0y:VCode:=cof Tryz.f125
theorem FL:Fun Tryz.prog 125 Z0y [.tmp 4] 13:=⟨Tryz.f125,Tryz.func125,Q1 (by kernel_rfl),by kernel_rfl,rfl,rfl⟩
def Z31:VCode:=cof Tryz.f126
theorem Q20:Fun Tryz.prog 126 Z31 [.tmp 4] 19:=⟨Tryz.f126,Tryz.func126,Q1 (by kernel_rfl),by kernel_rfl,rfl,rfl⟩
def Z3p:VCode:=cof Tryz.f127
theorem Q3n:Fun Tryz.prog 127 Z3p [.tmp 6] 8:=⟨Tryz.f127,Tryz.func127,Q1 (by kernel_rfl),by kernel_rfl,rfl,rfl⟩
def Z44:VCode:=cof Tryz.f128
theorem Q3f:Fun Tryz.prog 128 Z44 [] 14:=⟨Tryz.f128,Tryz.func128,Q1 (by kernel_rfl),by kernel_rfl,rfl,rfl⟩
def Z42:VCode:=cof Tryz.f129
theorem Q21:Fun Tryz.prog 129 Z42 [.tmp 4] 36:=⟨Tryz.f129,Tryz.func129,Q1 (by kernel_rfl),by kernel_rfl,rfl,rfl⟩
def Z1r:VCode:=cof Tryz.f130
theorem Q3a:Fun Tryz.prog 130 Z1r [.tmp 4] 66:=⟨Tryz.f130,Tryz.func130,Q1 (by kernel_rfl),by kernel_rfl,rfl,rfl⟩
def Z3z:VCode:=cof Tryz.f131
theorem Q3t:Fun Tryz.prog 131 Z3z [.tmp 4] 26:=⟨Tryz.f131,Tryz.func131,Q1 (by kernel_rfl),by kernel_rfl,rfl,rfl⟩
def Z3r:VCode:=cof Tryz.f132
theorem Q3b:Fun Tryz.prog 132 Z3r [.tmp 6] 22:=⟨Tryz.f132,Tryz.func132,Q1 (by kernel_rfl),by kernel_rfl,rfl,rfl⟩
def Z3d:VCode:=cof Tryz.f133
theorem Q28:Fun Tryz.prog 133 Z3d [.tmp 3] 12:=⟨Tryz.f133,Tryz.func133,Q1 (by kernel_rfl),by kernel_rfl,rfl,rfl⟩
def Z4c:VCode:=cof Tryz.f134
theorem Q2h:Fun Tryz.prog 134 Z4c [.tmp 4] 143:=⟨Tryz.f134,Tryz.func134,Q1 (by kernel_rfl),by kernel_rfl,rfl,rfl⟩
def Z3w:VCode:=cof Tryz.f135
theorem Q35:Fun Tryz.prog 135 Z3w [] 31:=⟨Tryz.f135,Tryz.func135,Q1 (by kernel_rfl),by kernel_rfl,rfl,rfl⟩
def Z2l:VCode:=cof Tryz.f136
theorem Q48:Fun Tryz.prog 136 Z2l [.tmp 4] 19:=⟨Tryz.f136,Tryz.func136,Q1 (by kernel_rfl),by kernel_rfl,rfl,rfl⟩
def Z0s:VCode:=cof Tryz.f137
theorem Ib:Fun Tryz.prog 137 Z0s [.tmp 4] 13:=⟨Tryz.f137,Tryz.func137,Q1 (by kernel_rfl),by kernel_rfl,rfl,rfl⟩
def Z0n:VCode:=cof Tryz.f138
theorem Fw:Fun Tryz.prog 138 Z0n [.tmp 4] 6:=⟨Tryz.f138,Tryz.func138,Q1 (by kernel_rfl),by kernel_rfl,rfl,rfl⟩
def Z1u:VCode:=cof Tryz.f139
theorem Q2q:Fun Tryz.prog 139 Z1u [.tmp 4] 13:=⟨Tryz.f139,Tryz.func139,Q1 (by kernel_rfl),by kernel_rfl,rfl,rfl⟩
def Z3e:VCode:=cof Tryz.f140
theorem Q1z:Fun Tryz.prog 140 Z3e [] 148:=⟨Tryz.f140,Tryz.func140,Q1 (by kernel_rfl),by kernel_rfl,rfl,rfl⟩
def Z0l:VCode:=cof Tryz.f141
theorem Fz:Fun Tryz.prog 141 Z0l [.tmp 2] 8:=⟨Tryz.f141,Tryz.func141,Q1 (by kernel_rfl),by kernel_rfl,rfl,rfl⟩
def Z1j:VCode:=cof Tryz.f142
theorem FX:Fun Tryz.prog 142 Z1j [.tmp 4] 19:=⟨Tryz.f142,Tryz.func142,Q1 (by kernel_rfl),by kernel_rfl,rfl,rfl⟩
def Z3q:VCode:=cof Tryz.f143
theorem Q41:Fun Tryz.prog 143 Z3q [] 19:=⟨Tryz.f143,Tryz.func143,Q1 (by kernel_rfl),by kernel_rfl,rfl,rfl⟩
def Z30:VCode:=cof Tryz.f144
theorem Q2l:Fun Tryz.prog 144 Z30 [.tmp 4,.tmp 5] 30:=⟨Tryz.f144,Tryz.func144,Q1 (by kernel_rfl),by kernel_rfl,rfl,rfl⟩
def Z0r:VCode:=cof Tryz.f145
theorem Ih:Fun Tryz.prog 145 Z0r [] 39:=⟨Tryz.f145,Tryz.func145,Q1 (by kernel_rfl),by kernel_rfl,rfl,rfl⟩
def Z19:VCode:=cof Tryz.f146
theorem F6:Fun Tryz.prog 146 Z19 [.tmp 4] 13:=⟨Tryz.f146,Tryz.func146,Q1 (by kernel_rfl),by kernel_rfl,rfl,rfl⟩
def Z1i:VCode:=cof Tryz.f147
theorem IA:Fun Tryz.prog 147 Z1i [] 134:=⟨Tryz.f147,Tryz.func147,Q1 (by kernel_rfl),by kernel_rfl,rfl,rfl⟩
def Z10:VCode:=cof Tryz.f148
theorem Od:Fun Tryz.prog 148 Z10 [.tmp 4] 19:=⟨Tryz.f148,Tryz.func148,Q1 (by kernel_rfl),by kernel_rfl,rfl,rfl⟩
def Z1v:VCode:=cof Tryz.f149
theorem Q3l:Fun Tryz.prog 149 Z1v [] 45:=⟨Tryz.f149,Tryz.func149,Q1 (by kernel_rfl),by kernel_rfl,rfl,rfl⟩
def Z1t:VCode:=cof Tryz.f150
theorem Q25:Fun Tryz.prog 150 Z1t [.tmp 8] 55:=⟨Tryz.f150,Tryz.func150,Q1 (by kernel_rfl),by kernel_rfl,rfl,rfl⟩
def Z3b:VCode:=cof Tryz.f151
theorem Q2x:Fun Tryz.prog 151 Z3b [] 148:=⟨Tryz.f151,Tryz.func151,Q1 (by kernel_rfl),by kernel_rfl,rfl,rfl⟩
def Z36:VCode:=cof Tryz.f152
theorem Q1q:Fun Tryz.prog 152 Z36 [.tmp 4] 18:=⟨Tryz.f152,Tryz.func152,Q1 (by kernel_rfl),by kernel_rfl,rfl,rfl⟩
def Z0z:VCode:=cof Tryz.f153
theorem I3:Fun Tryz.prog 153 Z0z [.tmp 2] 26:=⟨Tryz.f153,Tryz.func153,Q1 (by kernel_rfl),by kernel_rfl,rfl,rfl⟩
def Z16:VCode:=cof Tryz.f154
theorem I0:Fun Tryz.prog 154 Z16 [] 20:=⟨Tryz.f154,Tryz.func154,Q1 (by kernel_rfl),by kernel_rfl,rfl,rfl⟩
def Z2r:VCode:=cof Tryz.f155
theorem Q33:Fun Tryz.prog 155 Z2r [] 53:=⟨Tryz.f155,Tryz.func155,Q1 (by kernel_rfl),by kernel_rfl,rfl,rfl⟩
def Z3f:VCode:=cof Tryz.f156
theorem Q2b:Fun Tryz.prog 156 Z3f [] 60:=⟨Tryz.f156,Tryz.func156,Q1 (by kernel_rfl),by kernel_rfl,rfl,rfl⟩
def Z2c:VCode:=cof Tryz.f157
theorem Q1s:Fun Tryz.prog 157 Z2c [] 67:=⟨Tryz.f157,Tryz.func157,Q1 (by kernel_rfl),by kernel_rfl,rfl,rfl⟩
def Z4d:VCode:=cof Tryz.f158
theorem Q2s:Fun Tryz.prog 158 Z4d [.tmp 8,.tmp 9] 63:=⟨Tryz.f158,Tryz.func158,Q1 (by kernel_rfl),by kernel_rfl,rfl,rfl⟩
def Z2z:VCode:=cof Tryz.f159
theorem Q24:Fun Tryz.prog 159 Z2z [] 34:=⟨Tryz.f159,Tryz.func159,Q1 (by kernel_rfl),by kernel_rfl,rfl,rfl⟩
def Z49:VCode:=cof Tryz.f160
theorem Q3p:Fun Tryz.prog 160 Z49 [.tmp 8] 141:=⟨Tryz.f160,Tryz.func160,Q1 (by kernel_rfl),by kernel_rfl,rfl,rfl⟩
def Z32:VCode:=cof Tryz.f161
theorem Q4g:Fun Tryz.prog 161 Z32 [.tmp 10] 90:=⟨Tryz.f161,Tryz.func161,Q1 (by kernel_rfl),by kernel_rfl,rfl,rfl⟩
def Z2a:VCode:=cof Tryz.f162
theorem Q3r:Fun Tryz.prog 162 Z2a [.tmp 10,.tmp 11] 178:=⟨Tryz.f162,Tryz.func162,Q1 (by kernel_rfl),by kernel_rfl,rfl,rfl⟩
def Z14:VCode:=cof Tryz.f163
theorem IQ:Fun Tryz.prog 163 Z14 [.tmp 2] 19:=⟨Tryz.f163,Tryz.func163,Q1 (by kernel_rfl),by kernel_rfl,rfl,rfl⟩
def Z0t:VCode:=cof Tryz.f164
theorem Iz:Fun Tryz.prog 164 Z0t [.tmp 2] 25:=⟨Tryz.f164,Tryz.func164,Q1 (by kernel_rfl),by kernel_rfl,rfl,rfl⟩
def Z3i:VCode:=cof Tryz.f165
theorem Q2t:Fun Tryz.prog 165 Z3i [.tmp 4,.tmp 5] 17:=⟨Tryz.f165,Tryz.func165,Q1 (by kernel_rfl),by kernel_rfl,rfl,rfl⟩
def Z3y:VCode:=cof Tryz.f166
theorem Q2u:Fun Tryz.prog 166 Z3y [.tmp 4,.tmp 5] 51:=⟨Tryz.f166,Tryz.func166,Q1 (by kernel_rfl),by kernel_rfl,rfl,rfl⟩
def Z18:VCode:=cof Tryz.f167
theorem FJ:Fun Tryz.prog 167 Z18 [] 49:=⟨Tryz.f167,Tryz.func167,Q1 (by kernel_rfl),by kernel_rfl,rfl,rfl⟩
def Z1p:VCode:=cof Tryz.f168
theorem Q1u:Fun Tryz.prog 168 Z1p [] 56:=⟨Tryz.f168,Tryz.func168,Q1 (by kernel_rfl),by kernel_rfl,rfl,rfl⟩
def Z2s:VCode:=cof Tryz.f169
theorem Q44:Fun Tryz.prog 169 Z2s [] 65:=⟨Tryz.f169,Tryz.func169,Q1 (by kernel_rfl),by kernel_rfl,rfl,rfl⟩
def Z2j:VCode:=cof Tryz.f170
theorem Q3o:Fun Tryz.prog 170 Z2j [.tmp 6,.tmp 7] 57:=⟨Tryz.f170,Tryz.func170,Q1 (by kernel_rfl),by kernel_rfl,rfl,rfl⟩
def Z43:VCode:=cof Tryz.f171
theorem Q22:Fun Tryz.prog 171 Z43 [] 32:=⟨Tryz.f171,Tryz.func171,Q1 (by kernel_rfl),by kernel_rfl,rfl,rfl⟩
def Z3h:VCode:=cof Tryz.f172
theorem Q3z:Fun Tryz.prog 172 Z3h [.tmp 6] 133:=⟨Tryz.f172,Tryz.func172,Q1 (by kernel_rfl),by kernel_rfl,rfl,rfl⟩
def Z0p:VCode:=cof Tryz.f173
theorem F2:Fun Tryz.prog 173 Z0p [.tmp 4] 17:=⟨Tryz.f173,Tryz.func173,Q1 (by kernel_rfl),by kernel_rfl,rfl,rfl⟩
def Z2n:VCode:=cof Tryz.f174
theorem Q2m:Fun Tryz.prog 174 Z2n [.tmp 8] 84:=⟨Tryz.f174,Tryz.func174,Q1 (by kernel_rfl),by kernel_rfl,rfl,rfl⟩
def Z28:VCode:=cof Tryz.f175
theorem Q32:Fun Tryz.prog 175 Z28 [.tmp 8,.tmp 9] 168:=⟨Tryz.f175,Tryz.func175,Q1 (by kernel_rfl),by kernel_rfl,rfl,rfl⟩
def Z2g:VCode:=cof Tryz.f176
theorem Q3w:Fun Tryz.prog 176 Z2g [] 53:=⟨Tryz.f176,Tryz.func176,Q1 (by kernel_rfl),by kernel_rfl,rfl,rfl⟩
def Z45:VCode:=cof Tryz.f177
theorem Q34:Fun Tryz.prog 177 Z45 [] 60:=⟨Tryz.f177,Tryz.func177,Q1 (by kernel_rfl),by kernel_rfl,rfl,rfl⟩
def Z3x:VCode:=cof Tryz.f178
theorem Q3m:Fun Tryz.prog 178 Z3x [] 67:=⟨Tryz.f178,Tryz.func178,Q1 (by kernel_rfl),by kernel_rfl,rfl,rfl⟩
def Z24:VCode:=cof Tryz.f179
theorem Q3u:Fun Tryz.prog 179 Z24 [.tmp 8,.tmp 9] 63:=⟨Tryz.f179,Tryz.func179,Q1 (by kernel_rfl),by kernel_rfl,rfl,rfl⟩
def Z3s:VCode:=cof Tryz.f180
theorem Q2p:Fun Tryz.prog 180 Z3s [] 34:=⟨Tryz.f180,Tryz.func180,Q1 (by kernel_rfl),by kernel_rfl,rfl,rfl⟩
def Z4b:VCode:=cof Tryz.f181
theorem Q3d:Fun Tryz.prog 181 Z4b [.tmp 8] 141:=⟨Tryz.f181,Tryz.func181,Q1 (by kernel_rfl),by kernel_rfl,rfl,rfl⟩
def Z2e:VCode:=cof Tryz.f182
theorem Q2c:Fun Tryz.prog 182 Z2e [.tmp 10] 90:=⟨Tryz.f182,Tryz.func182,Q1 (by kernel_rfl),by kernel_rfl,rfl,rfl⟩
def Z35:VCode:=cof Tryz.f183
theorem Q2a:Fun Tryz.prog 183 Z35 [.tmp 10,.tmp 11] 178:=⟨Tryz.f183,Tryz.func183,Q1 (by kernel_rfl),by kernel_rfl,rfl,rfl⟩
def Z0x:VCode:=cof Tryz.f184
theorem IT:Fun Tryz.prog 184 Z0x [.tmp 2] 22:=⟨Tryz.f184,Tryz.func184,Q1 (by kernel_rfl),by kernel_rfl,rfl,rfl⟩
def Z47:VCode:=cof Tryz.f185
theorem Q2v:Fun Tryz.prog 185 Z47 [] 82:=⟨Tryz.f185,Tryz.func185,Q1 (by kernel_rfl),by kernel_rfl,rfl,rfl⟩
def Z23:VCode:=cof Tryz.f186
theorem Q4d:Fun Tryz.prog 186 Z23 [.tmp 2] 7:=⟨Tryz.f186,Tryz.func186,Q1 (by kernel_rfl),by kernel_rfl,rfl,rfl⟩
def Z27:VCode:=cof Tryz.f187
theorem Q4e:Fun Tryz.prog 187 Z27 [.tmp 2] 33:=⟨Tryz.f187,Tryz.func187,Q1 (by kernel_rfl),by kernel_rfl,rfl,rfl⟩
def Z2i:VCode:=cof Tryz.f188
theorem Q1y:Fun Tryz.prog 188 Z2i [.tmp 8] 18:=⟨Tryz.f188,Tryz.func188,Q1 (by kernel_rfl),by kernel_rfl,rfl,rfl⟩
def Z48:VCode:=cof Tryz.f189
theorem Q3h:Fun Tryz.prog 189 Z48 [.tmp 12] 41:=⟨Tryz.f189,Tryz.func189,Q1 (by kernel_rfl),by kernel_rfl,rfl,rfl⟩
def Z46:VCode:=cof Tryz.f190
theorem Q3s:Fun Tryz.prog 190 Z46 [] 76:=⟨Tryz.f190,Tryz.func190,Q1 (by kernel_rfl),by kernel_rfl,rfl,rfl⟩
def Z3j:VCode:=cof Tryz.f191
theorem Q2n:Fun Tryz.prog 191 Z3j [.tmp 6] 15:=⟨Tryz.f191,Tryz.func191,Q1 (by kernel_rfl),by kernel_rfl,rfl,rfl⟩
def Z21:VCode:=cof Tryz.f192
theorem Q27:Fun Tryz.prog 192 Z21 [.tmp 10] 36:=⟨Tryz.f192,Tryz.func192,Q1 (by kernel_rfl),by kernel_rfl,rfl,rfl⟩
def Z38:VCode:=cof Tryz.f193
theorem Q2w:Fun Tryz.prog 193 Z38 [] 82:=⟨Tryz.f193,Tryz.func193,Q1 (by kernel_rfl),by kernel_rfl,rfl,rfl⟩
def Z2q:VCode:=cof Tryz.f194
theorem Q3x:Fun Tryz.prog 194 Z2q [.tmp 8] 18:=⟨Tryz.f194,Tryz.func194,Q1 (by kernel_rfl),by kernel_rfl,rfl,rfl⟩
def Z2p:VCode:=cof Tryz.f195
theorem Q49:Fun Tryz.prog 195 Z2p [.tmp 12] 41:=⟨Tryz.f195,Tryz.func195,Q1 (by kernel_rfl),by kernel_rfl,rfl,rfl⟩
def Z1z:VCode:=cof Tryz.f196
theorem Q2z:Fun Tryz.prog 196 Z1z [.tmp 10,.tmp 11] 32:=⟨Tryz.f196,Tryz.func196,Q1 (by kernel_rfl),by kernel_rfl,rfl,rfl⟩
def Z2u:VCode:=cof Tryz.f197
theorem Q3v:Fun Tryz.prog 197 Z2u [.tmp 8,.tmp 9] 28:=⟨Tryz.f197,Tryz.func197,Q1 (by kernel_rfl),by kernel_rfl,rfl,rfl⟩
def Z2m:VCode:=cof Tryz.f198
theorem Q4c:Fun Tryz.prog 198 Z2m [.tmp 10,.tmp 11] 32:=⟨Tryz.f198,Tryz.func198,Q1 (by kernel_rfl),by kernel_rfl,rfl,rfl⟩
end Go.Proofs.Tryz
namespace Go.V
open Go
inductive Kind where
 |i (k:IntKind)
 |bo
 |st
 |list (k:Kind)
 |pair (a b:Kind)
 deriving DecidableEq,Inhabited
abbrev Kind.T:Kind->Type
 |.i _=>Int
 |.bo=>Bool
 |.st=>List UInt8
 |.list k=>List k.T
 |.pair a b=>a.T×b.T
def Kind.size:Kind->Nat
 |.pair a b=>a.size+b.size
 |_=>1
def Kind.dflt:(k:Kind)->k.T
 |.i _=>(0:Int)
 |.bo=>false
 |.st=>([]:List UInt8)
 |.list _=>[]
 |.pair a b=>(a.dflt,b.dflt)
def Kind.one:Kind->Bool
 |.pair _ _=>false
 |_=>true
theorem Kind.size_pos:∀ k:Kind,0<k.size
 |.pair a b=>by have:=a.size_pos;simp only[Kind.size];omega
 |.i _|.bo|.st|.list _=>by simp[Kind.size]
theorem Kind.q1p:∀ {k:Kind},k.one=true->k.size=1
 |.pair _ _,h=>by cases h
 |.i _,_|.bo,_|.st,_|.list _,_=>rfl
def Kind.prim:Kind->Bool
 |.i _|.bo|.st=>true
 |_=>false
def Kind.keyk:Kind->Bool
 |.pair a b=>a.keyk&&b.keyk
 |k=>k.prim
abbrev AT:List Kind->Type
 |[]=>Unit
 |[k]=>k.T
 |k::k'::ks=>k.T×AT (k'::ks)
structure Gd where
 id:Nat
 want:Bool
 c:Bool
inductive DW where
 |out
 |el (i:Int) (off sz:Nat)
 |row (k:Kind) (x:List k.T) (i:Int)
 |rowp (k:Kind) (x:List k.T) (i j:Int) (off:Nat)
 |inn (k:Kind) (x:List k.T)
 |inp (k:Kind) (l:List k.T) (j:Int) (off:Nat)
 |dat
 |obx (c:Bool)
 |yv
inductive SV where
 |dd (o:Nat) (w:DW)
 |any
 |val (k:Kind) (x:k.T)
 |bid (n:Nat) (c:Bool)
 |grd (gs:List Gd) (v:SV)
 |nilS
 |nilP
 |nilM
 |nilF
 |lst (o:Nat)
 |sub (o:Nat) (lo n sz:Nat)
 |elp (o:Nat) (i:Int) (off sz:Nat)
 |rop (k:Kind) (l:List k.T) (i:Int) (off:Nat)
 |box (o:Nat) (off:Nat)
 |cp (l:List SV) (off:Nat)
 |map (o:Nat)
 |agg (l:List SV)
 |tup (l:List SV)
 |fn (f:Nat) (first dD:List SV)
 |pf (ks:List Kind) (r:Kind) (cS:AT ks->Prop) (p:AT ks->r.T)
structure LpD where
 i:Nat
 vals:List Value
 r:Loop
inductive LpS where
 |busy
 |rdy
 |ret
 |exit (id:Nat)
def LpS.st:LpS->LoopState
 |.busy=>.busy
 |.rdy=>.ready
 |.ret=>.done
 |.exit _=>.done
def LpS.pend:LpS->Option Code
 |.busy=>none
 |.rdy=>none
 |.ret=>some .ret
 |.exit id=>some (.exit id)
def LpS.live:LpS->Bool
 |.busy=>false
 |_=>true
inductive OB where
 |dead
 |lst (ty:Nat) (k:Kind) (xs:List k.T) (nl:Bool)
 |cells (l:List SV) (u:Option Nat)
 |map (kk vk:Kind) (m:List (kk.T×vk.T))
 |stk (l:List SV) (vals:List Value)
 |deep (ty:Nat) (q:Option Nat) (k:Kind) (xs:List k.T) (nl:Bool) (hole:Option Nat)
 |iter (kk vk:Kind) (m:List (kk.T×vk.T)) (dn:List Nat)
 |mapE (kk vk:Kind) (m:List (kk.T×vk.T)) (key:kk.T) (n:Int)
 |lpf (l:List SV) (q:LpD) (s:LpS)
instance:Inhabited SV:=⟨.any⟩
instance:Inhabited OB:=⟨.dead⟩
inductive Rows {α:Type}(R:α->List Value->Prop):List α->List Value->Prop
 |nil:Rows R [] []
 |cons {x:α}{xs:List α}{c cs:List Value}(h:R x c) (t:Rows R xs cs):Rows R (x::xs) (c++cs)
def SlRel (h:Heap) (sz:Nat) {α:Type}(R:α->List Value->Prop) (l:List α) (v:Value):Prop :=
 (l=[]/\v=.slice none 0 0)\/∃ i o cap c e wr t,v=.slice (some ⟨i,o,none⟩) l.length cap/\l.length<=cap/\h.get i=some (.cells c e wr t)/\e.sz=sz/\o+l.length*sz<=c.length/\Rows R l ((c.drop o).take (l.length*sz))
def KC (h:Heap):(k:Kind)->k.T->List Value->Prop
 |.i ik,x,cs=>cs=[.int ik x]
 |.bo,x,cs=>cs=[.bool x]
 |.st,x,cs=>cs=[.string ⟨x.toArray⟩]
 |.list k,l,cs=>∃ v,cs=[v]/\SlRel h k.size (λx c=>KC h k x c) l v
 |.pair a b,x,cs=>∃ c1 c2,cs=c1++c2/\KC h a x.1 c1/\KC h b x.2 c2
theorem Rows.length {α:Type}{R:α->List Value->Prop}{n:Nat}(hR:∀ x c,R x c->c.length=n) {xs:List α}{cs:List Value}(h:Rows R xs cs):cs.length=xs.length*n:=by
 induction h with
 |nil=>simp
 |cons h _ ih=>simp only[zB,hR _ _ h,ih,zP,zG,xD];omega
theorem Rows.mono {α:Type}{R R':α->List Value->Prop}(hR:∀ x c,R x c->R' x c) {xs:List α}{cs:List Value}(h:Rows R xs cs):Rows R' xs cs:=by
 induction h with
 |nil=>exact .nil
 |cons h _ ih=>exact .cons (hR _ _ h) ih
theorem Rows.append {α:Type}{R:α->List Value->Prop}{xs ys:List α}{cs ds:List Value}(h:Rows R xs cs) (h':Rows R ys ds):Rows R (xs++ys) (cs++ds):=by
 induction h with
 |nil=>exact h'
 |cons h _ ih=>rw[x7];exact .cons h ih
theorem Rows.at {α:Type}{R:α->List Value->Prop}{n:Nat}(hR:∀ x c,R x c->c.length=n) {xs:List α}{cs:List Value}(h:Rows R xs cs) {k:Nat}(hk:k<xs.length):R xs[k] ((cs.drop (k*n)).take n):=by
 induction h generalizing k with
 |nil=>simp at hk
 |@cons x xs c cs h t ih =>
  have hc:=hR _ _ h;cases k with
  |zero=>simp only[Nat.zero_mul,zX,List.getElem_cons_zero];rw[<-hc,List.take_left];exact h
  |succ k =>
   have:=ih (k:=k) (by simpa using hk);rw[List.getElem_cons_succ,zG,xD];have e:(c++cs).drop (k*n+n)=cs.drop (k*n):=by rw[List.drop_append,hc];rw[List.drop_eq_nil_of_le (by omega)];simp
   rw[e];exact this
theorem Rows.take {α:Type}{R:α->List Value->Prop}{n:Nat}(hR:∀ x c,R x c->c.length=n) {xs:List α}{cs:List Value}(h:Rows R xs cs) (k:Nat):Rows R (xs.take k) (cs.take (k*n)):=by
 induction h generalizing k with
 |nil=>simp;exact .nil
 |@cons x xs c cs h t ih =>
  have hc:=hR _ _ h;cases k with
  |zero=>simp;exact .nil
  |succ k =>have e1:c.take ((k+1)*n)=c:=zD (by rw[hc,zG];omega);rw[wb,List.take_append,hc,show (k+1)*n-n=k*n by rw[zG];omega,e1];exact .cons h (ih k)
theorem Rows.drop {α:Type}{R:α->List Value->Prop}{n:Nat}(hR:∀ x c,R x c->c.length=n) {xs:List α}{cs:List Value}(h:Rows R xs cs) (k:Nat):Rows R (xs.drop k) (cs.drop (k*n)):=by
 induction h generalizing k with
 |nil=>simp;exact .nil
 |@cons x xs c cs h t ih =>
  have hc:=hR _ _ h;cases k with
  |zero=>simp;exact .cons h t
  |succ k =>have e1:c.drop ((k+1)*n)=[]:=List.drop_eq_nil_of_le (by rw[hc,zG];omega);rw[wk,List.drop_append,hc,show (k+1)*n-n=k*n by rw[zG];omega,e1,xe];exact ih k
theorem Rows.set {α:Type}{R:α->List Value->Prop}{n:Nat}(hR:∀ x c,R x c->c.length=n) {xs:List α}{cs:List Value}(h:Rows R xs cs) {k:Nat}(hk:k<xs.length) {y:α}{d:List Value}(hd:R y d):Rows R (xs.set k y) (cs.take (k*n)++d++cs.drop (k*n+n)):=by
 have e:xs.set k y=xs.take k++([y]++xs.drop (k+1)):=by rw[List.set_eq_take_append_cons_drop,z0 hk];rfl
 rw[e,x7];have h2:=h.drop hR (k+1);rw[zG,xD] at h2;exact(h.take hR k).append ((show Rows R [y] d by simpa using Rows.cons hd .nil).append h2)
theorem Rows.replicate {α:Type}{R:α->List Value->Prop}{x:α}{c:List Value}(h:R x c):∀ n,Rows R (List.replicate n x) (List.replicate n c).flatten
 |0=>by simp;exact .nil
 |n+1=>by simp only[xt,List.flatten_cons];exact .cons h (Rows.replicate h n)
theorem KC.length {h:Heap}:∀ {k:Kind}{x:k.T}{cs:List Value},KC h k x cs->cs.length=k.size
 |.i _,_,_,e|.bo,_,_,e|.st,_,_,e=>by simp only[KC] at e;subst e;rfl
 |.list k,l,cs,e=>by obtain⟨v,rfl,_⟩:=e;rfl
 |.pair a b,x,cs,e=>by obtain⟨c1,c2,rfl,h1,h2⟩:=e;simp only[zB,KC.length h1,KC.length h2,Kind.size]
theorem SlRel.mono {h h':Heap}(hl:h.Le h') {sz:Nat}{α:Type}{R R':α->List Value->Prop}(hR:∀ x c,R x c->R' x c) {l:List α}{v:Value}(hs:SlRel h sz R l v):SlRel h' sz R' l v:=by
 rcases hs with hs|⟨i,o,cap,c,e,wr,t,h1,h2,h3,h4,h5,h6⟩
 .exact .inl hs
 .exact .inr ⟨i,o,cap,c,e,wr,t,h1,h2,hl.2 _ _ h3,h4,h5,h6.mono hR⟩
theorem KC.mono {h h':Heap}(hl:h.Le h'):∀ {k:Kind}{x:k.T}{cs:List Value},KC h k x cs->KC h' k x cs
 |.i _,_,_,e|.bo,_,_,e|.st,_,_,e=>e
 |.list k,l,cs,e=>by obtain⟨v,hv,hs⟩:=e;exact⟨v,hv,hs.mono hl λx c hx=>KC.mono (k:=k) hl hx⟩
 |.pair a b,x,cs,e=>by obtain⟨c1,c2,hc,h1,h2⟩:=e;exact⟨c1,c2,hc,KC.mono hl h1,KC.mono hl h2⟩
theorem KC.cellOk {h:Heap}:∀ {k:Kind}{x:k.T}{cs:List Value},KC h k x cs->cs.all cellOk=true
 |.i _,_,_,e|.bo,_,_,e|.st,_,_,e=>by simp only[KC] at e;subst e;rfl
 |.list k,l,cs,e=>by obtain⟨v,rfl,hs⟩:=e;rcases hs with⟨_,rfl⟩|⟨i,o,cap,c,e,wr,t,rfl,_⟩<;>rfl
 |.pair a b,x,cs,e=>by obtain⟨c1,c2,rfl,h1,h2⟩:=e;rw[List.all_append,KC.cellOk h1,KC.cellOk h2];rfl
def Nq:(k:Kind)->k.T->List SV
 |.pair a b,x=>Nq a x.1++Nq b x.2
 |.i k,x=>[.val (.i k) x]
 |.bo,x=>[.val .bo x]
 |.st,x=>[.val .st x]
 |.list k,x=>[.val (.list k) x]
def IF:(k:Kind)->k.T->SV
 |.pair a b,x=>.agg (Nq (.pair a b) x)
 |.i k,x=>.val (.i k) x
 |.bo,x=>.val .bo x
 |.st,x=>.val .st x
 |.list k,x=>.val (.list k) x
inductive RowsO {α:Type}(R:α->List Value->List Nat->Prop):List α->List Value->List Nat->Prop
 |nil:RowsO R [] [] []
 |cons {x:α}{xs:List α}{c cs:List Value}{is js:List Nat}(h:R x c is) (t:RowsO R xs cs js):RowsO R (x::xs) (c++cs) (is++js)
def KO (H:Heap):(q:Option Nat)->(k:Kind)->k.T->List Value->List Nat->Prop
 |_,.i ik,x,cs,is=>cs=[.int ik x]/\is=[]
 |_,.bo,x,cs,is=>cs=[.bool x]/\is=[]
 |_,.st,x,cs,is=>cs=[.string ⟨x.toArray⟩]/\is=[]
 |q,.list k,l,cs,is=>(l=[]/\cs=[.slice none 0 0]/\is=[])\/∃ i cap c e t js,cs=[.slice (some ⟨i,0,none⟩) l.length cap]/\is=i::js/\l.length<=cap/\H.get i=some (.cells c e true t)/\e.sz=k.size/\(∀ ty,q=some ty->e.ty=ty)/\cap*k.size<=c.length /\
   RowsO (λx c is=>KO H none k x c is) l (c.take (l.length*k.size)) js
 |_,.pair a b,x,cs,is=>∃ c1 c2 i1 i2,cs=c1++c2/\is=i1++i2/\KO H none a x.1 c1 i1/\KO H none b x.2 c2 i2
def Z5f (i:Nat):Blk->Value
 |.cells c e _ t=>.tuple #[.int .i64 (i:Nat),.agg c.toArray,.int .i64 (e.sz:Nat),.int .i64 (e.ty:Nat),.bool t]
 |_=>.bool true
def Z4o:Value->Option (Nat×Blk)
 |.tuple ⟨[.int _ i,.agg c,.int _ sz,.int _ ty,.bool t]⟩=>some (i.toNat,.cells c.toList ⟨sz.toNat,ty.toNat⟩ true t)
 |_=>none
def Q90:List Value->List (Nat×Blk)
 |[]=>[]
 |v::vs=>match Z4o v with|some p=>p::Q90 vs|none=>Q90 vs
def RF:List (Nat×Blk)->Nat->Option Blk
 |[],_=>none
 |(j,b)::r,i=>if i=j then some b else RF r i
def Q6m:List (Nat×Blk)->Nat
 |[]=>0
 |(j,_)::r=>max (j+1) (Q6m r)
theorem SP:∀ (l:List (Nat×Blk)) (i:Nat),Q6m l<=i->RF l i=none
 |[],_,_=>rfl
 |(j,b)::r,i,h=>by
  simp only[Q6m] at h;have:¬ i=j:=by omega
  simp only[RF,z1 this];exact SP r i (by omega)
def listH (l:List (Nat×Blk)):Heap:=⟨RF l,Q6m l,λi h=>SP l i h⟩
def phd:Value->Value
 |.tuple ⟨v::_⟩=>v
 |v=>v
def Xl:Value->Heap
 |.tuple ⟨_::vs⟩=>listH (Q90 vs)
 |_=>listH []
def DR (p:Value):DW->Value->Prop
 |.out,v=>v=phd p/\∃ a n c,v=.slice a n c
 |.el i off sz,v=>∃ b len cap,phd p=.slice (some ⟨b,0,none⟩) len cap/\0<=i/\i<len/\v=.pointer (some ⟨b,i.toNat*sz+off,none⟩)
 |.row k x i,v=>KC (Xl p) (.list k) x [v]/\(∀ a n c,v=.slice (some a) n c->a.off=0)/\∃ b len cap c e t,phd p=.slice (some ⟨b,0,none⟩) len cap/\0<=i/\i<len/\(Xl p).get b=some (.cells c e true t)/\c[i.toNat]?=some v
 |.rowp k x i j off,v=>∃ b len cap c e t r rl rc bI re rt,phd p=.slice (some ⟨b,0,none⟩) len cap/\0<=i/\i<len/\(Xl p).get b=some (.cells c e true t)/\c[i.toNat]?=some (.slice (some ⟨r,0,none⟩) rl rc)/\0<=j/\j<rl/\x.length=rl/\(Xl p).get r=some (.cells bI re true rt)/\rl*k.size<=bI.length/\Rows (KC (Xl p) k) x (bI.take (rl*k.size))/\v=.pointer (some ⟨r,j.toNat*k.size+off,none⟩)
 |.inn k x,v=>KC (Xl p) (.list k) x [v]
 |.inp k l j off,v=>∃ b o c e wr t,0<=j/\j<l.length/\(Xl p).get b=some (.cells c e wr t)/\v=.pointer (some ⟨b,o+j.toNat*k.size+off,none⟩)/\o+l.length*k.size<=c.length/\Rows (KC (Xl p) k) l ((c.drop o).take (l.length*k.size))
 |.dat,v=>(phd p=.slice none 0 0/\v=.pointer none)\/∃ b n cap,phd p=.slice (some ⟨b,0,none⟩) n cap/\0<n/\v=.pointer (some ⟨b,0,none⟩)
 |.yv,v=>∃ i,p=.pointer (some ⟨i,0,none⟩)/\v=.func (.yield i) #[] #[]
 |.obx c,v=>(c=false/\v=.pointer none)\/(c=true/\∃ b,phd p=.pointer (some ⟨b,0,none⟩)/\v=.pointer (some ⟨b,0,none⟩))
def KV (h:Heap) (k:Kind) (x:k.T) (v:Value):Prop:=(k.one=true/\KC h k x [v])\/(k.one=false/\∃ cs,v=.agg cs.toArray/\KC h k x cs)
theorem KV.mono {h h':Heap}(hl:h.Le h') {k:Kind}{x:k.T}{v:Value}(e:KV h k x v):KV h' k x v:=by
 rcases e with⟨ho,e⟩|⟨ho,cs,hv,e⟩
 .exact .inl ⟨ho,e.mono hl⟩
 .exact .inr ⟨ho,cs,hv,e.mono hl⟩
def TS (h:Heap):(ks:List Kind)->AT ks->List Value->Prop
 |[],_,vs=>vs=[]
 |[k],x,vs=>∃ v,vs=[v]/\KV h k x v
 |k::k'::ks,x,vs=>∃ v cN,vs=v::cN/\KV h k x.1 v/\TS h (k'::ks) x.2 cN
def gtb (tb:Nat->Option Bool):SV->Prop
 |.bid n c=>tb n=some c
 |_=>True
section
variable (P:Program)
def PfRel (B:Heap) (ks:List Kind) (r:Kind) (cS:AT ks->Prop) (p:AT ks->r.T) (v:Value):Prop :=
 ∃ g first cap,v=.func (.func g) first cap/\∀ x,cS x->∀ M vs,B.Le M->TS M ks x vs->VCalled P g (first.toList++vs++cap.toList) M λv' M'=>M'=M/\KV M r (p x) v'
mutual
def SR (B:Heap) (pl:Nat->Value) (tb:Nat->Option Bool):SV->Value->Prop
 |.any,_=>True
 |.val k x,v=>KC B k x [v]
 |.bid n c,v=>v=.bool c/\tb n=some c
 |.grd gs v,u=>((∀ g∈gs,tb g.id=some g.c)/\gtb tb v)/\((∀ g∈gs,g.c=g.want)->SR B pl tb v u)/\((∃ g∈gs,g.c≠g.want)->u=undef)
 |.nilS,v=>v=.slice none 0 0
 |.nilP,v=>v=.pointer none
 |.nilM,v=>v=.map none
 |.nilF,v=>v=.nilFunc
 |.lst o,v=>v=pl o/\∃ a n c,v=.slice a n c
 |.sub o lo n sz,v=>(lo=0/\n=0/\v=.slice none 0 0/\pl o=.slice none 0 0)\/∃ i len cap aq,pl o=.slice (some ⟨i,0,none⟩) len cap/\lo+n<=len/\n<=aq/\v=.slice (some ⟨i,lo*sz,none⟩) n aq
 |.elp o i off sz,v=>∃ b len cap,pl o=.slice (some ⟨b,0,none⟩) len cap/\0<=i/\i<len/\v=.pointer (some ⟨b,i.toNat*sz+off,none⟩)
 |.rop k l i off,v=>∃ b o c e wr t,0<=i/\i<l.length/\B.get b=some (.cells c e wr t)/\v=.pointer (some ⟨b,o+i.toNat*k.size+off,none⟩)/\o+l.length*k.size<=c.length/\Rows (KC B k) l ((c.drop o).take (l.length*k.size))
 |.box o off,v=>∃ b,pl o=.pointer (some ⟨b,0,none⟩)/\v=.pointer (some ⟨b,off,none⟩)
 |.cp l off,v=>∃ b c e wr t,B.get b=some (.cells c e wr t)/\v=.pointer (some ⟨b,off,none⟩)/\SRs B pl tb l c
 |.map o,v=>v=pl o/\∃ m,v=.map m
 |.agg l,v=>∃ cs,v=.agg cs.toArray/\SRs B pl tb l cs
 |.tup l,v=>∃ cs,v=.tuple cs.toArray/\SRs B pl tb l cs
 |.dd o w,v=>DR (pl o) w v
 |.fn f first dD,v=>∃ a b,v=.func (.func f) a.toArray b.toArray/\SRs B pl tb first a/\SRs B pl tb dD b
 |.pf ks r cS p,v=>PfRel P B ks r cS p v
def SRs (B:Heap) (pl:Nat->Value) (tb:Nat->Option Bool):List SV->List Value->Prop
 |[],vs=>vs=[]
 |s::ss,vs=>∃ v cN,vs=v::cN/\SR B pl tb s v/\SRs B pl tb ss cN
end
end
end Go.V
namespace Go.V
open Go
abbrev Own:=List (Nat×OB)
def Q8:Own->Nat->OB
 |[],_=>.dead
 |(k,b)::r,d=>bif Nat.beq k d then b else Q8 r d
def oset:Own->Nat->OB->Own
 |[],d,b=>[(d,b)]
 |(k,c)::r,d,b=>bif Nat.beq k d then (d,b)::r else bif Nat.blt d k then (d,b)::(k,c)::r else (k,c)::oset r d b
structure St where
 env:List SV
 own:Own
 nx:Nat
mutual
def SV.kill (o:Nat):SV->SV
 |.lst o'=>bif Nat.beq o' o then .any else .lst o'
 |.sub o' lo n sz=>bif Nat.beq o' o then .any else .sub o' lo n sz
 |.elp o' i off sz=>bif Nat.beq o' o then .any else .elp o' i off sz
 |.dd o' w=>bif Nat.beq o' o then .any else .dd o' w
 |.box o' off=>bif Nat.beq o' o then .any else .box o' off
 |.map o'=>bif Nat.beq o' o then .any else .map o'
 |.grd gs v=>.grd gs (SV.kill o v)
 |.agg l=>.agg (SVs.kill o l)
 |.tup l=>.tup (SVs.kill o l)
 |.cp l off=>.cp (SVs.kill o l) off
 |.fn f a b=>.fn f (SVs.kill o a) (SVs.kill o b)
 |.any=>.any
 |.val k x=>.val k x
 |.bid n c=>.bid n c
 |.nilS=>.nilS
 |.nilP=>.nilP
 |.nilM=>.nilM
 |.nilF=>.nilF
 |.rop k l i off=>.rop k l i off
 |.pf ks r cS p=>.pf ks r cS p
def SVs.kill (o:Nat):List SV->List SV
 |[]=>[]
 |s::ss=>SV.kill o s::SVs.kill o ss
end
def OB.kill (o:Nat):OB->OB
 |.cells l u=>.cells (SVs.kill o l) u
 |.dead=>.dead
 |.lst ty k xs nl=>.lst ty k xs nl
 |.map kk vk m=>.map kk vk m
 |.stk l vals=>.stk (SVs.kill o l) vals
 |.deep ty q k xs nl h=>.deep ty q k xs nl h
 |.iter kk vk m dn=>.iter kk vk m dn
 |.mapE kk vk m key n=>.mapE kk vk m key n
 |.lpf l q s=>.lpf (SVs.kill o l) q s
def Es (o:Nat):Own->Own
 |[]=>[]
 |(k,b)::r=>bif Nat.beq k o then Es o r else (k,b.kill o)::Es o r
def St.kill (s:St) (o:Nat):St:=⟨SVs.kill o s.env,Es o s.own,s.nx⟩
def St.make (s:St) (o:Nat) (b:OB):St:=⟨(s.kill o).env,oset (s.kill o).own o b,s.nx⟩
def St.put (s:St) (d:Option Nat) (v:SV):St:=match d with
 |some d=>⟨s.env.set d v,s.own,s.nx⟩
 |none=>s
def cvp:Value->SV
 |.bool b=>.val .bo b
 |.int k x=>.val (.i k) x
 |.string s=>.val .st s.data.toList
 |.pointer none=>.nilP
 |.slice none 0 0=>.nilS
 |.map none=>.nilM
 |.nilFunc=>.nilF
 |_=>.any
def cv:Value->SV
 |.agg cs=>.agg (cs.toList.map cvp)
 |v=>cvp v
def Q5y:List Gd->List Gd->Bool
 |[],_=>true
 |_::_,[]=>false
 |a::l,b::m=>bif Nat.beq a.id b.id&&(a.want==b.want) then Q5y l m else Q5y (a::l) m
def Oa (gs:List Gd):SV->SV
 |.grd g v=>bif Q5y g gs then v else .any
 |v=>v
def gev (gs:List Gd) (env:List SV):Operand->SV
 |.tmp t=>Oa gs (env.getD t .any)
 |.const v=>cv v
 |.func f=>.fn f [] []
 |.global _=>.any
def NS {k:Kind}(l:List k.T) (k':Kind):Option (List k'.T):=if h:k=k' then some (h▸l) else none
def Ip {k:Kind}(x:k.T) (k':Kind):Option k'.T:=if h:k=k' then some (h▸x) else none
def asB:SV->Option Bool
 |.val .bo b=>some b
 |.bid _ c=>some c
 |_=>none
def asI:SV->Option (IntKind×Int)
 |.val (.i k) x=>some (k,x)
 |_=>none
def asS:SV->Option (List UInt8)
 |.val .st x=>some x
 |_=>none
def Kind.flat:Kind->Bool
 |.list _=>false
 |.pair a b=>a.flat&&b.flat
 |_=>true
def view (own:Own) (k:Kind):SV->Option (List k.T)
 |.nilS=>some []
 |.val (.list _k') l=>NS l k
 |.lst o=>match Q8 own o with|.lst _ _k' xs _=>NS xs k|_=>none
 |.sub o lo n sz=>match Q8 own o with|.lst _ k' xs _=>if sz=k'.size then (NS xs k).map λxs=>(xs.drop lo).take n else none|_=>none
 |.dd o w=>bif k.flat then (match Q8 own o with
  |.deep _ _ _ xs _ h=>(match w with
   |.out=>(match h with|none=>NS xs k|some _=>none)
   |.inn _ l=>NS l k
   |.row _ l _=>NS l k
   |_=>none)
  |_=>none) else none
 |_=>none
def Z2d (own:Own):SV->Option Nat
 |.nilS=>some 0
 |.val (.list _) l=>some l.length
 |.lst o=>match Q8 own o with|.lst _ _ xs _=>some xs.length|_=>none
 |.sub _ _ n _=>some n
 |.dd o w=>(match Q8 own o with
  |.deep _ _ _ xs _ h=>(match w with
   |.out=>(match h with|none=>some xs.length|some _=>none)
   |.inn _ l=>some l.length
   |.row _ l _=>some l.length
   |_=>none)
  |_=>none)
 |_=>none
def SV.solid:SV->Bool
 |.agg _|.tup _|.any|.grd _ _=>false
 |_=>true
def My:SV->Option (List SV)
 |.agg l=>bif l.all SV.solid then some l else none
 |.tup _=>none
 |.any=>none
 |.grd _ _=>none
 |v=>some [v]
def T0:(k:Kind)->List SV->Option k.T
 |.i ik,[v]=>match v with|.val (.i rV) x=>if ik=rV then some x else none|_=>none
 |.bo,[v]=>asB v
 |.st,[v]=>asS v
 |.list k,[v]=>match v with|.nilS=>some []|.val (.list _k') l=>NS l k|_=>none
 |.pair a b,l=>match T0 a (l.take a.size),T0 b (l.drop a.size) with
  |some x,some y=>some (x,y)
  |_,_=>none
 |_,_=>none
def dkV (k:Kind) (v:SV):Option k.T:=bif k.one then T0 k [v] else match v with|.agg l=>T0 k l|_=>none
def Ar (k:Kind) (z:Value):List Value:=bif k.one then [z] else match z with|.agg a=>a.toList|_=>[]
def Q70:(k:Kind)->Nat->SV->k.T->Option k.T
 |.pair a b,off,v,x=>bif Nat.blt off a.size then (Q70 a off v x.1).map λy=>(y,x.2) else (Q70 b (off-a.size) v x.2).map λy=>(x.1,y)
 |.i ik,_,v,_=>T0 (.i ik) [v]
 |.bo,_,v,_=>T0 .bo [v]
 |.st,_,v,_=>T0 .st [v]
 |.list k,_,v,_=>T0 (.list k) [v]
def V0:Kind->List Value->Bool
 |.i ik,[.int k x]=>decide (ik=k)&&(x==0)
 |.bo,[.bool b]=>!b
 |.st,[.string s]=>s.data.toList.isEmpty
 |.list _,[.slice none 0 0]=>true
 |.pair a b,l=>V0 a (l.take a.size)&&V0 b (l.drop a.size)
 |_,_=>false
def InK (k:IntKind) (x:Int):Prop:=k.min<=x/\x<=k.max
def Q6n:List Gd->Prop->Prop
 |[],p=>p
 |g::gs,p=>g.c=g.want->Q6n gs p
def LM (gs:List Gd):List Prop->Prop->Prop
 |[],q=>q
 |c::cs,q=>Q6n gs c/\LM gs cs q
abbrev CSp:=(SV->List SV->Option (Prop×SV))->List SV->Option (Prop×SV×List OB)
abbrev XSp:=Nat->List SV->St->(SV->St->Prop)->Prop
abbrev ISp:=List SV->Option (Prop×Nat×Nat×(Nat->List SV))
abbrev YSp:=List SV->St->(SV->St->Prop)->Prop
abbrev Q6y:=Nat->List SV->Nat×YSp->St->(St->Prop)->Prop
structure Cx where
 kt:List (Nat×Kind)
 cs:List (Nat×CSp)
 nt:Nat
 raw:List Nat
 off:Nat
 xs:List (Nat×XSp)
 it:List (Nat×ISp)
 el:List (Nat×Nat):=[]
 jn:List Nat:=[]
 nm:Bool:=false
 yl:List (Nat×YSp):=[]
 iy:List (Nat×Q6y):=[]
 spl:List Nat:=[]
 xf:List (Nat×Nat):=[]
def Qp {α:Type _}:List (Nat×α)->Nat->Option α
 |[],_=>none
 |(k,x)::r,d=>bif Nat.beq k d then some x else Qp r d
mutual
def PU (own:Own) (bx:List SV->Nat->SV):SV->SV
 |.lst o=>match Q8 own o with|.lst _ k xs _=>.val (.list k) xs|_=>.any
 |.sub o lo n sz=>match Q8 own o with|.lst _ k xs _=>if sz=k.size then .val (.list k) ((xs.drop lo).take n) else .any|_=>.any
 |.box o off=>match Q8 own o with|.cells l _=>bx l off|_=>.any
 |.agg l=>.agg (HR own bx l)
 |.fn f a b=>.fn f (HR own bx a) (HR own bx b)
 |.bid _ c=>.val .bo c
 |.val k x=>.val k x
 |.nilS=>.nilS
 |.nilP=>.nilP
 |.nilM=>.nilM
 |.nilF=>.nilF
 |.rop k l i off=>.rop k l i off
 |.cp l off=>.cp (HR own bx l) off
 |.pf ks r cS p=>.pf ks r cS p
 |.any=>.any
 |.grd _ _=>.any
 |.elp _ _ _ _=>.any
 |.dd o w=>(match Q8 own o with
  |.deep _ _ k xs _ h=>(match w with
   |.out=>(match h with|none=>.val (.list k) xs|some _=>.any)
   |.inn k x=>.val (.list k) x
   |.row k x _=>.val (.list k) x
   |_=>.any)
  |_=>.any)
 |.map _=>.any
 |.tup _=>.any
def HR (own:Own) (bx:List SV->Nat->SV):List SV->List SV
 |[]=>[]
 |s::ss=>PU own bx s::HR own bx ss
end
def Z4y (own:Own) (l:List SV):List SV:=HR own (λ_ _=>.any) l
def Z4p (own:Own) (l:List SV):List SV:=HR own (λc off=>.cp (Z4y own c) off) l
def Z5c (own:Own) (l:List SV):List SV:=HR own (λc off=>.cp (Z4p own c) off) l
def BK (own:Own) (l:List SV):List SV:=Z5c own l
def HB:BinOp->Int->Int->Int
 |.add,a,b=>a+b
 |.sub,a,b=>a-b
 |_,a,b=>a*b
def Hm (a b:Int):Int:=if b > a then b else a
def Z59 (a b:Int):Int:=if b<a then b else a
def Xg (k:IntKind) (x y:Int):Int:=x*2 ^ (Nat.min y.toNat k.bits)
def Z9 (k:IntKind) (x y:Int):Int:=x.fdiv (2 ^ (Nat.min y.toNat k.bits))
def gfill (c:List SV):List (Nat×Nat×SV)->Option (List SV)
 |[]=>some c
 |(o,sz,v)::rest=>match My v with
  |some vs=>if vs.length=sz/\o+sz<=c.length then gfill (setS c o vs) rest else none
  |none=>none
 where setS (c:List SV) (o:Nat):List SV->List SV
 |[]=>c
 |v::vs=>setS (c.set o v) (o+1) vs
def BI (agg:Bool) (size:Nat) (l:List SV) (off:Nat):Option SV :=
 bif agg then (if off+size<=l.length then some (.agg ((l.drop off).take size)) else none) else l[off]?
def MH (o:Nat):(k:Kind)->k.T->List SV
 |.pair a b,x=>MH o a x.1++MH o b x.2
 |.list k,x=>[.dd o (.inn k x)]
 |.i k,x=>[.val (.i k) x]
 |.bo,x=>[.val .bo x]
 |.st,x=>[.val .st x]
def Z1w (o:Nat) (i:Int):(k:Kind)->k.T->List SV
 |.list k,x=>[.dd o (.row k x i)]
 |.pair a b,x=>MH o (.pair a b) x
 |.i k,x=>[.val (.i k) x]
 |.bo,x=>[.val .bo x]
 |.st,x=>[.val .st x]
def Q1c (own:Own) (agg:Bool) (size:Nat):SV->Option SV
 |.box o off=>match Q8 own o with|.cells l _=>BI agg size l off|_=>none
 |.cp l off=>BI agg size l off
 |.elp o i off sz=>match Q8 own o with|.lst _ k xs _=>if sz=k.size/\off+size<=sz then BI agg size (Nq k (xs.getD i.toNat k.dflt)) off else none|_=>none
 |.rop k l i off=>if off+size<=k.size then BI agg size (Nq k (l.getD i.toNat k.dflt)) off else none
 |.dd o w=>(match Q8 own o with
  |.deep _ _ k xs _ h=>(match h with
   |none=>(match w with
    |.el i off sz=>if sz=k.size/\off+size<=sz then BI agg size (Z1w o i k (xs.getD i.toNat k.dflt)) off else none
    |.rowp k' x _ j off=>if off+size<=k'.size then BI agg size (MH o k' (x.getD j.toNat k'.dflt)) off else none
    |.inp k' l j off=>if off+size<=k'.size then BI agg size (MH o k' (l.getD j.toNat k'.dflt)) off else none
    |_=>none)
   |some _=>none)
  |_=>none)
 |_=>none
def WL (ev:Operand->SV):Option Operand->Int->Option Int
 |none,d=>some d
 |some x,_=>(asI (ev x)).map (·.2)
def Eh (k:MK) (a b:SV):Option Bool:=match k with
 |.int q=>(match asI a,asI b with|some (q1,x),some (q2,y)=>if q1=q/\q2=q then some (x==y) else none|_,_=>none)
 |.bool=>(match asB a,asB b with|some x,some y=>some (x==y)|_,_=>none)
 |.string=>(match asS a,asS b with|some x,some y=>some (x==y)|_,_=>none)
 |.agg _=>none
def Ht:List MK->List SV->List SV->Option Bool
 |[],_,_=>none
 |k::ks,a::l,b::m=>(match ks with
  |[]=>(match l,m with|[],[]=>Eh k a b|_,_=>none)
  |k'::ks=>(match Eh k a b,Ht (k'::ks) l m with|some x,some y=>some (x&&y)|_,_=>none))
 |_::_,_,_=>none
def Q40 (xs:List Int):List UInt8:=xs.map λx=>x.toNat.toUInt8
def gq (_kt:List (Nat×Kind)) (raw:Bool) (o:VOp) (ev:Operand->SV) (own:Own):Option (List Prop×SV) :=
 match o with
 |.move x=>some ([],ev x)
 |.arith op x y=>match asI (ev x),asI (ev y) with
  |some (k,a),some (k',b)=>if k=k' then (bif raw then some ([],.val (.i k) (k.wrap (HB op a b))) else some ([InK k (HB op a b)],.val (.i k) (HB op a b))) else none
  |_,_=>none
 |.div op x y=>match asI (ev x),asI (ev y) with
  |some (k,a),some (k',b)=>if k=k' then (match op with
   |.quo=>some ([b≠0,InK k (a.tdiv b)],.val (.i k) (a.tdiv b))
   |_=>some ([b≠0],.val (.i k) (a.tmod b))) else none
  |_,_=>none
 |.bits op x y=>match asI (ev x),asI (ev y) with
  |some (k,a),some (k',b)=>if k=k' then some ([],.val (.i k) (Q7 op k a b)) else none
  |_,_=>none
 |.shift op x y=>match asI (ev x),asI (ev y) with
  |some (k,a),some (_,b)=>(match op with
   |.shl=>bif raw then some ([0<=b],.val (.i k) (k.wrap (Xg k a b))) else some ([0<=b,InK k (Xg k a b)],.val (.i k) (Xg k a b))
   |_=>some ([0<=b],.val (.i k) (Z9 k a b)))
  |_,_=>none
 |.cmp op x y=>match asI (ev x),asI (ev y) with
  |some (k,a),some (k',b)=>if k=k' then some ([],.val .bo (Z1b op a b)) else none
  |_,_=>none
 |.str op x y=>match asS (ev x),asS (ev y) with
  |some a,some b=>(match op with
   |.add=>some ([a.length+b.length<=4611686018427387904],.val .st (a++b))
   |.eql=>some ([],.val .bo (a==b))
   |.neq=>some ([],.val .bo (!(a==b)))
   |.lss=>some ([],.val .bo (Op.bytesLess a b))
   |_=>none)
  |_,_=>none
 |.eqB neg x y=>match asB (ev x),asB (ev y) with
  |some a,some b=>some ([],.val .bo (if neg then !(a==b) else (a==b)))
  |_,_=>none
 |.un op x=>match op with
  |.not=>match asB (ev x) with|some b=>some ([],.val .bo (!b))|none=>none
  |.neg=>match asI (ev x) with|some (k,n)=>some ([InK k (0-n)],.val (.i k) (0-n))|none=>none
  |.xor=>match asI (ev x) with|some (k,n)=>some ([],.val (.i k) (Q7 .xor k (if k.signed then -1 else k.max) n))|none=>none
  |_=>none
 |.convI k x=>match asI (ev x) with
  |some (_,n)=>bif raw then some ([],.val (.i k) (k.wrap n)) else some ([InK k n],.val (.i k) n)
  |none=>none
 |.convS x=>match asS (ev x) with|some s=>some ([],.val .st s)|none=>none
 |.build z parts=>match gfill (z.map cvp) (parts.map λp=>(p.1,p.2.1,ev p.2.2)) with|some l=>some ([],.agg l)|none=>none
 |.load agg size a=>bif Nat.blt 0 size then (Q1c own agg size (ev a)).map λv=>([],v) else none
 |.fieldAddr off a=>match ev a with
  |.box o f=>some ([],.box o (f+off))
  |.cp l f=>some ([],.cp l (f+off))
  |.elp o i f sz=>some ([],.elp o i (f+off) sz)
  |.dd o w=>(match w with
   |.el i f sz=>some ([],.dd o (.el i (f+off) sz))
   |.rowp k x i j f=>some ([],.dd o (.rowp k x i j (f+off)))
   |.inp k l j f=>some ([],.dd o (.inp k l j (f+off)))
   |_=>none)
  |.rop k l i f=>some ([],.rop k l i (f+off))
  |_=>none
 |.field agg off size x=>match ev x with|.agg l=>(BI agg size l off).map λv=>([],v)|_=>none
 |.indexAddr size x i=>match ev x,asI (ev i) with
  |.lst o,some (_,j)=>(match Q8 own o with|.lst _ k xs _=>if k.size=size then some ([0<=j,j<xs.length],.elp o j 0 size) else none|_=>none)
  |.dd o w,some (_,j)=>(match Q8 own o with
   |.deep _ _ k xs _ h=>(match w with
    |.out=>(match h with|none=>(if k.size=size then some ([0<=j,j<xs.length],.dd o (.el j 0 size)) else none)|some _=>(if k.size=size then some ([0<=j,j<xs.length],.dd o (.el j 0 size)) else none))
    |.row k x i=>if k.size=size then some ([0<=j,j<x.length],.dd o (.rowp k x i j 0)) else none
    |.inn k l=>if k.size=size then some ([0<=j,j<l.length],.dd o (.inp k l j 0)) else none
    |_=>none)
   |_=>none)
  |.sub o lo n sz,some (_,j)=>(match Q8 own o with|.lst _ k _ _=>if k.size=size/\sz=size then some ([0<=j,j<n],.elp o (lo+j) 0 size) else none|_=>none)
  |.val (.list k) l,some (_,j)=>if k.size=size then some ([0<=j,j<l.length],.rop k l j 0) else none
  |_,_=>none
 |.indexStr x i=>match asS (ev x),asI (ev i) with
  |some s,some (_,j)=>some ([0<=j,j<s.length],.val (.i .u8) ((s.getD j.toNat 0).toNat:Int))
  |_,_=>none
 |.indexArr len agg size x i=>match ev x,i with
  |.agg l,.const (.int _ (Int.ofNat j))=>if j<len then (BI agg size l (j*size)).map λv=>([],v) else none
  |_,_=>none
 |.indexAddrArr len size x i=>match ev x,i with
  |.box o f,.const (.int _ (Int.ofNat j))=>if j<len then some ([],.box o (f+j*size)) else none
  |.cp l f,.const (.int _ (Int.ofNat j))=>if j<len then some ([],.cp l (f+j*size)) else none
  |_,_=>none
 |.slice size x lo hi none=>match ev x with
  |.lst o=>(match Q8 own o with
   |.lst _ k xs _=>if k.size=size then (match WL ev lo 0,WL ev hi xs.length with
    |some a,some b=>some ([0<=a,a<=b,b<=xs.length],.sub o a.toNat (b-a).toNat size)
    |_,_=>none) else none
   |_=>none)
  |.sub o l0 n sz=>(match Q8 own o with
   |.lst _ k _ _=>if k.size=size/\sz=size then (match WL ev lo 0,WL ev hi n with
    |some a,some b=>some ([0<=a,a<=b,b<=n],.sub o (l0+a.toNat) (b-a).toNat size)
    |_,_=>none) else none
   |_=>none)
  |.val (.list k) l=>if k.size=size then (match WL ev lo 0,WL ev hi l.length with
   |some a,some b=>some ([0<=a,a<=b,b<=l.length],.val (.list k) ((l.drop a.toNat).take (b-a).toNat))
   |_,_=>none) else none
  |.dd o w=>(match Q8 own o with
   |.deep _ _ _ _ _ _=>(match w with
    |.inn k l=>if k.size=size then (match WL ev lo 0,WL ev hi l.length with
     |some a,some b=>some ([0<=a,a<=b,b<=l.length],.dd o (.inn k ((l.drop a.toNat).take (b-a).toNat)))
     |_,_=>none) else none
    |.row k l _=>if k.size=size then (match WL ev lo 0,WL ev hi l.length with
     |some a,some b=>some ([0<=a,a<=b,b<=l.length],.dd o (.inn k ((l.drop a.toNat).take (b-a).toNat)))
     |_,_=>none) else none
    |_=>none)
   |_=>none)
  |.nilS=>(match WL ev lo 0,WL ev hi 0 with
   |some a,some b=>some ([a=0,b=0],.nilS)
   |_,_=>none)
  |_=>none
 |.sliceStr x lo hi=>match asS (ev x) with
  |some s=>(match WL ev lo 0,WL ev hi s.length with
   |some a,some b=>some ([0<=a,a<=b,b<=s.length],.val .st ((s.drop a.toNat).take (b-a).toNat))
   |_,_=>none)
  |none=>none
 |.len x=>match Z2d own (ev x) with|some n=>some ([],.val (.i .i64) (n:Nat))|none=>none
 |.lenStr x=>match asS (ev x) with|some s=>some ([],.val (.i .i64) (s.length:Nat))|none=>none
 |.max4 x y z w=>match asI (ev x),asI (ev y),asI (ev z),asI (ev w) with
  |some (k,a),some (k2,b),some (k3,c),some (k4,d)=>if k=k2/\k=k3/\k=k4 then some ([],.val (.i k) (Hm (Hm (Hm a b) c) d)) else none
  |_,_,_,_=>none
 |.max x y=>match asI (ev x),asI (ev y) with
  |some (k,a),some (k',b)=>if k=k' then some ([],.val (.i k) (Hm a b)) else none
  |_,_=>none
 |.min x y=>match asI (ev x),asI (ev y) with
  |some (k,a),some (k',b)=>if k=k' then some ([],.val (.i k) (Z59 a b)) else none
  |_,_=>none
 |.makeFunc (.func f) first cap=>some ([],.fn f (first.map ev) (cap.map ev))
 |.extract x i=>match ev x with|.tup l=>(l[i]?).map λv=>([],v)|_=>none
 |.nilCheck x=>match ev x with
  |.box o f=>some ([],.box o f)
  |.cp l f=>some ([],.cp l f)
  |.fn f a b=>some ([],.fn f a b)
  |_=>none
 |.ext (.eqNil 1 neg x y)=>match ev x,ev y with
  |.nilS,.nilS=>some ([],.val .bo (!neg))
  |.lst o,.nilS=>(match Q8 own o with|.lst _ _ _ nl=>some ([],.val .bo (bif neg then !nl else nl))|_=>none)
  |.dd o .out,.nilS=>(match Q8 own o with|.deep _ _ _ _ nl _=>some ([],.val .bo (bif neg then !nl else nl))|_=>none)
  |.val (.list _) l,.nilS=>some ([l≠[]],.val .bo neg)
  |_,_=>none
 |.ext (.eqNil 0 neg x y)=>match ev x,ev y with
  |.nilP,.nilP=>some ([],.val .bo (!neg))
  |.box _ _,.nilP=>some ([],.val .bo neg)
  |.cp _ _,.nilP=>some ([],.val .bo neg)
  |.dd _ (.obx c),.nilP=>some ([],.val .bo (bif neg then c else !c))
  |.dd o (.obx c),.box o' f=>(match Q8 own o with
   |.cells _ _=>if o=o'/\f=0 then some ([c=true],.val .bo (!neg)) else none
   |_=>none)
  |_,_=>none
 |.ext (.eqAgg neg s x y)=>match ev x,ev y with
  |.agg l,.agg m=>(Ht s l m).map λb=>([],.val .bo (bif neg then !b else b))
  |_,_=>none
 |.ext (.toUnsafe x)=>match ev x with
  |.box o f=>(match Q8 own o with|.cells l _=>if f<l.length then some ([],.box o f) else none|_=>none)
  |_=>none
 |.ext (.fromUnsafe u size x)=>match ev x with
  |.box o f=>(match Q8 own o with
   |.cells l (some t)=>if f=0/\t=u/\size<=l.length then some ([],.box o 0) else none
   |_=>none)
  |_=>none
 |.ext (.bytesStr x)=>match view own (.i .u8) (ev x) with
  |some xs=>some ([],.val .st (Q40 xs))
  |none=>none
 |.ext (.sliceData x)=>match ev x with
  |.nilS=>some ([],.nilP)
  |.lst o=>(match Q8 own o with|.lst _ _ xs nl=>some ([nl=false->xs≠[]],.dd o .dat)|_=>none)
  |_=>none
 |.ext (.lookup mk z ok x i)=>match ev x with
  |.map o=>(match Q8 own o with
   |.map kk vk m=>if mkOk mk kk=true/\V0 vk (Ar vk z)=true then (match dkV kk (ev i) with
    |some key=>(if ok then some ([],.tup [IF vk (aget kk m key vk.dflt),.val .bo (ahas kk m key)]) else some ([],IF vk (aget kk m key vk.dflt)))
    |none=>none) else none
   |_=>none)
  |_=>none
 |.ext (.entry x)=>match ev x with
  |.box o f=>(match Q8 own o with
   |.iter kk vk m dn=>if f=0/\kk.keyk=true/\vk.one=true then some ([dn≠[]],.tup [IF kk (m.getD (dn.getLastD 0) (kk.dflt,vk.dflt)).1,.val vk (m.getD (dn.getLastD 0) (kk.dflt,vk.dflt)).2]) else none
   |_=>none)
  |_=>none
 |.ext (.lenMap x)=>match ev x with
  |.map o=>(match Q8 own o with|.map _ _ m=>some ([],.val (.i .i64) m.length)|_=>none)
  |_=>none
 |_=>none
 where
 mkP:MK->Kind->Bool
  |.int k,.i k'=>decide (k=k')
  |.string,.st=>true
  |.bool,.bo=>true
  |_,_=>false
 mkAt:Kind->List MK->Option (List MK)
  |.pair a b,l=>(match mkAt a l with|some r=>mkAt b r|none=>none)
  |k,m::r=>bif mkP m k then some r else none
  |_,[]=>none
 mkOk (m:MK) (k:Kind):Bool:=bif k.one then mkP m k else match m with
  |.agg l=>(match mkAt k l with|some []=>true|_=>false)
  |_=>false
 keq:(k:Kind)->k.T->k.T->Bool
  |.i _,(a:Int),b=>a==b
  |.bo,(a:Bool),b=>a==b
  |.st,(a:List UInt8),b=>a==b
  |.pair k l,x,y=>keq k x.1 y.1&&keq l x.2 y.2
  |_,_,_=>false
 aget (kk:Kind) {V:Type}:List (kk.T×V)->kk.T->V->V
  |[],_,d=>d
  |(k,v)::r,key,d=>if keq kk key k then v else aget kk r key d
 ahas (kk:Kind) {V:Type}:List (kk.T×V)->kk.T->Bool
  |[],_=>false
  |(k,_)::r,key=>keq kk key k||ahas kk r key
def UI (kk:Kind) {V:Type}:List (kk.T×V)->kk.T->V->List (kk.T×V)
 |[],key,v=>[(key,v)]
 |(k,x)::r,key,v=>if gq.keq kk key k then (key,v)::r else (k,x)::UI kk r key v
def Q1g (kk:Kind) {V:Type}:List (kk.T×V)->kk.T->List (kk.T×V)
 |[],_=>[]
 |(k,x)::r,key=>if gq.keq kk key k then r else (k,x)::Q1g kk r key
mutual
def SV.ret (n:Nat):SV->Bool
 |.val k _=>k.flat
 |.nilS|.nilP|.nilM|.nilF=>true
 |.lst j=>Nat.blt j n
 |.box j _=>Nat.blt j n
 |.map j=>Nat.blt j n
 |.dd j w=>(match w with|.out=>Nat.blt j n|_=>false)
 |.agg l=>SVs.ret n l
 |.tup l=>SVs.ret n l
 |_=>false
def SVs.ret (n:Nat):List SV->Bool
 |[]=>true
 |s::ss=>SV.ret n s&&SVs.ret n ss
end
mutual
def Vd:SV->Bool
 |.val k _=>k.one
 |.box _ _=>false
 |.map _=>false
 |.dd _ _=>false
 |.agg l=>Nl l
 |.tup l=>Nl l
 |_=>true
def Nl:List SV->Bool
 |[]=>true
 |s::ss=>Vd s&&Nl ss
end
def OB.isL:OB->Bool
 |.lst _ _ _ _=>true
 |_=>false
def OB.ret:OB->Bool
 |.lst _ k _ _=>k.flat
 |.cells l _=>SVs.ret 0 l
 |.map kk vk _=>kk.flat&&vk.flat
 |.dead=>false
 |.stk _ _=>false
 |.deep _ _ _ _ _ h=>h.isNone
 |.iter _ _ _ _=>false
 |.mapE _ _ _ _ _=>false
 |.lpf _ _ _=>false
def gap (cs:List (Nat×CSp)):Nat->SV->List SV->Option (Prop×SV)
 |0,_,_=>none
 |n+1,f,args=>match f with
  |.fn g a b=>(match Qp cs g with
   |some sp=>(match sp (gap cs n) (a++args++b) with
    |some (c,v,[])=>bif v.ret 0 then some (c,v) else none
    |_=>none)
   |none=>none)
  |.pf ks r cS p=>(match deca ks args with
   |some x=>bif r.flat then some (cS x,IF r (p x)) else none
   |none=>none)
  |_=>none
 where
 deca:(ks:List Kind)->List SV->Option (AT ks)
  |[],[]=>some ()
  |[k],[v]=>asV k v
  |k::k'::ks,v::vs=>match asV k v,deca (k'::ks) vs with|some x,some y=>some (x,y)|_,_=>none
  |_,_=>none
 asV (k:Kind) (v:SV):Option k.T:=bif k.one then T0 k [v] else match v with|.agg l=>T0 k l|_=>none
def Vc (cs:List (Nat×CSp)) (f:SV) (args:List SV):Option (Prop×SV×List OB) :=
 match f with
 |.fn g a b=>(match Qp cs g with|some sp=>sp (gap cs 3) (a++args++b)|none=>none)
 |f=>(gap cs 3 f args).map λ(c,v)=>(c,v,[])
mutual
def SV.ren (d nt:Nat):SV->SV
 |.lst j=>.lst (d+j*nt)
 |.box j off=>.box (d+j*nt) off
 |.map j=>.map (d+j*nt)
 |.dd j w=>(match w with|.out=>.dd (d+j*nt) .out|_=>.any)
 |.agg l=>.agg (SVs.ren d nt l)
 |.tup l=>.tup (SVs.ren d nt l)
 |.any=>.any
 |.val k x=>.val k x
 |.bid _ c=>.val .bo c
 |.nilS=>.nilS
 |.nilP=>.nilP
 |.nilM=>.nilM
 |.nilF=>.nilF
 |.sub _ _ _ _|.elp _ _ _ _|.grd _ _|.cp _ _|.fn _ _ _|.rop _ _ _ _|.pf _ _ _ _=>.any
def SVs.ren (d nt:Nat):List SV->List SV
 |[]=>[]
 |s::ss=>SV.ren d nt s::SVs.ren d nt ss
end
def St.makes (s:St) (d nt:Nat):Nat->List OB->St
 |_,[]=>s
 |j,b::bs=>(s.make (d+j*nt) b).makes d nt (j+1) bs
def L9 (k:Kind) (ev:Operand->SV):List (Nat×Operand)->List k.T->Option (List k.T)
 |[],xs=>some xs
 |(j,x)::r,xs=>match My (ev x) with
  |some l=>(match T0 k l with
   |some y=>if j<xs.length then L9 k ev r (xs.set j y) else none
   |none=>none)
  |none=>none
mutual
def nmV:SV->(SV->Prop)->Prop
 |.val k x,K=>∀ y:k.T,y=x->K (.val k y)
 |.agg l,K=>Q6x l λl'=>K (.agg l')
 |.tup l,K=>Q6x l λl'=>K (.tup l')
 |.any,K=>K .any
 |.dd o w,K=>K (.dd o w)
 |.bid n c,K=>K (.bid n c)
 |.grd gs v,K=>K (.grd gs v)
 |.nilS,K=>K .nilS
 |.nilP,K=>K .nilP
 |.nilM,K=>K .nilM
 |.nilF,K=>K .nilF
 |.lst o,K=>K (.lst o)
 |.sub o lo n sz,K=>K (.sub o lo n sz)
 |.elp o i off sz,K=>K (.elp o i off sz)
 |.rop k l i off,K=>K (.rop k l i off)
 |.box o off,K=>K (.box o off)
 |.cp l off,K=>K (.cp l off)
 |.map o,K=>K (.map o)
 |.fn f a b,K=>K (.fn f a b)
 |.pf ks r cS p,K=>K (.pf ks r cS p)
def Q6x:List SV->(List SV->Prop)->Prop
 |[],K=>K []
 |v::r,K=>nmV v λv'=>Q6x r λr'=>K (v'::r')
end
def Z56 (o:VOp) (ev:Operand->SV):Bool:=match o with
 |.load _ _ a=>(match ev a with|.elp _ _ _ _=>true|.rop _ _ _ _=>true|.dd _ _=>true|_=>false)
 |.cmp ..|.str ..|.eqB ..|.un ..|.pick ..|.indexStr ..|.bits ..|.shift ..|.div ..|.sliceStr ..|.max ..|.max4 ..|.min ..=>true
 |.ext (.lookup ..)|.ext (.eqNil ..)|.ext (.eqAgg ..)|.ext (.entry ..)=>true
 |_=>false
def gnm (C:Cx) (o:VOp) (ev:Operand->SV) (v:SV) (K:SV->Prop):Prop:=bif C.nm&&Z56 o ev then nmV v K else K v
def CQ (C:Cx) (d:Nat) (f:SV) (args:List SV) (s:St) (K:SV->St->Prop):Prop :=
 match Vc C.cs ((BK s.own [f]).getD 0 .any) (BK s.own args) with
 |some (c,v,bs)=>bif v.ret bs.length&&(bs.all OB.ret&&Nat.blt 0 C.nt) then c/\K (v.ren d C.nt) (s.makes d C.nt 0 bs) else False
 |none=>False
def R2 (C:Cx) (d:Nat) (f:SV) (args:List SV) (s:St) (K:SV->St->Prop):Prop :=
 match f with
 |.fn g a b=>(match Qp C.xs g with
  |some x=>x d (a++(args++b)) s K
  |none=>CQ C d (.fn g a b) args s K)
 |.dd o .yv=>(match Qp C.yl o with
  |some y=>y args s K
  |none=>False)
 |f=>CQ C d f args s K
def gn (C:Cx) (d:Nat) (o:VOp) (ev:Operand->SV) (s:St) (K:SV->St->Prop):Prop :=
 match o with
 |.alloc t z=>K (.box d 0) (s.make d (.cells (z.map cvp) (some t)))
 |.box t x=>match My (ev x) with
  |some l=>K (.box d 0) (s.make d (.cells (SVs.kill d l) (some t)))
  |none=>False
 |.buildSlice e z n parts=>match Qp C.kt e.ty with
  |some k=>if k.size=e.sz/\V0 k z=true then (match L9 k ev parts (List.replicate n k.dflt) with
   |some xs=>K (.lst d) (s.make d (.lst e.ty k xs false))
   |none=>False) else False
  |none=>False
 |.makeSlice e bytes z l c=>match Qp C.kt e.ty,asI (ev l),asI (ev c) with
  |some k,some (_,a),some (_,b)=>if k.size=e.sz/\V0 k z=true then
    LM [] [0<=a,a<=b,b*bytes<=70368744177664,b<=70368744177664] (K (.lst d) (s.make d (.lst e.ty k (List.replicate a.toNat k.dflt) false))) else False
  |_,_,_=>False
 |.append e bytes x y=>match Qp C.kt e.ty with
  |some k=>(match view s.own k (ev y) with
   |some ys=>(match ev x with
    |.nilS=>if k.size=e.sz then LM [] [ys.length*bytes<=70368744177664] (K (.lst d) (s.make d (.lst e.ty k ys ys.isEmpty))) else False
    |.lst o=>(match Q8 s.own o with
     |.lst ty _k' xs nl=>if ty=e.ty/\k.size=e.sz then (match NS xs k with
      |some xs=>LM [] [(xs.length+ys.length)*bytes<=70368744177664] (K (.lst o) (s.make o (.lst ty k (xs++ys) (ys.isEmpty&&nl))))
      |none=>False) else False
     |_=>False)
    |_=>False)
   |none=>False)
  |none=>False
 |.store size a v=>match ev a,My (ev v) with
  |.box o off,some vs=>(match Q8 s.own o with
   |.cells l u=>if vs.length=size/\off+size<=l.length then K .any ⟨s.env,oset s.own o (.cells (gfill.setS l off vs) u),s.nx⟩ else False
   |_=>False)
  |.elp o i off sz,some vs=>(match Q8 s.own o with
   |.lst ty k xs nl=>(if off=0/\size=k.size/\sz=k.size then (match T0 k vs with
     |some x=>K .any ⟨s.env,oset s.own o (.lst ty k (xs.set i.toNat x) nl),s.nx⟩
     |none=>False)
    else if size=1/\vs.length=1/\sz=k.size/\off<k.size then (match Q70 k off (vs.getD 0 .any) (xs.getD i.toNat k.dflt) with
     |some x=>K .any ⟨s.env,oset s.own o (.lst ty k (xs.set i.toNat x) nl),s.nx⟩
     |none=>False) else False)
   |_=>False)
  |_,_=>False
 |.callF f args=>R2 C d (.fn f [] []) (args.map ev) s K
 |.callV f args=>R2 C d (ev f) (args.map ev) s K
 |.ext (.mapUpdate mk m k v)=>match ev m with
  |.map o=>(match Q8 s.own o with
   |.map kk vk l=>if gq.mkOk mk kk=true then (match dkV kk (ev k),dkV vk (ev v) with
    |some key,some x=>K .any ⟨s.env,oset s.own o (.map kk vk (UI kk l key x)),s.nx⟩
    |_,_=>False) else False
   |_=>False)
  |_=>False
 |.ext (.delete mk m k)=>match ev m with
  |.map o=>(match Q8 s.own o with
   |.map kk vk l=>if gq.mkOk mk kk=true then (match dkV kk (ev k) with
    |some key=>K .any ⟨s.env,oset s.own o (.map kk vk (Q1g kk l key)),s.nx⟩
    |none=>False) else False
   |_=>False)
  |_=>False
 |.ext (.mapEntry mk z m k)=>match ev m with
  |.map o=>(match Q8 s.own o with
   |.map kk vk l=>if gq.mkOk mk kk=true/\V0 vk (Ar vk z)=true then (match dkV kk (ev k) with
    |some key=>∀ n:Int,K (.tup [IF vk (gq.aget kk l key vk.dflt),.val (.i .i64) n]) ⟨s.env,oset s.own o (.mapE kk vk (UI kk l key (gq.aget kk l key vk.dflt)) key n),s.nx⟩
    |none=>False) else False
   |_=>False)
  |_=>False
 |.ext (.entryStore m st v)=>match ev m with
  |.map o=>(match Q8 s.own o with
   |.mapE kk vk l key n=>(match asI (ev st),dkV vk (ev v) with
    |some (.i64,n'),some x=>n'=n/\K .any ⟨s.env,oset s.own o (.map kk vk (UI kk l key x)),s.nx⟩
    |_,_=>False)
   |_=>False)
  |_=>False
 |.ext (.rangeMap x)=>match ev x with
  |.map o=>(match Q8 s.own o with
   |.map kk vk m=>if kk.keyk=true/\vk.one=true then K (.box d 0) (St.make ⟨s.env,oset s.own o .dead,s.nx⟩ d (.iter kk vk m [])) else False
   |_=>False)
  |_=>False
 |.ext (.nextMap x)=>match ev x with
  |.box o f=>(match Q8 s.own o with
   |.iter kk vk m dn=>if f=0/\kk.keyk=true then ((∀ r:Nat,r<m.length->r∈dn)->K (.tup [.val .bo false]) s)/\∀ r:Nat,r<m.length->r∉dn->K (.tup [.val .bo true,.any,.any]) ⟨s.env,oset s.own o (.iter kk vk m (dn++[r])),s.nx⟩ else False
   |_=>False)
  |_=>False
 |.ext (.copy size a b)=>match ev a with
  |.lst o=>(match Q8 s.own o with
   |.lst ty k xs nl=>if k.size=size then (match view s.own k (ev b) with
    |some ys=>K (.val (.i .i64) (Nat.min ys.length xs.length:Nat)) ⟨s.env,oset s.own o (.lst ty k (ys.take xs.length++xs.drop ys.length) nl),s.nx⟩
    |none=>False) else False
   |_=>False)
  |.sub o lo n sz=>(match Q8 s.own o with
   |.lst ty k xs nl=>if k.size=size/\sz=size then (match view s.own k (ev b) with
    |some ys=>K (.val (.i .i64) (Nat.min ys.length n:Nat)) ⟨s.env,oset s.own o (.lst ty k (xs.take lo++(ys.take n++xs.drop (lo+Nat.min ys.length n))) nl),s.nx⟩
    |none=>False) else False
   |_=>False)
  |_=>False
 |_=>False
def gnd (_:Cx) (_:Nat) (_:VOp) (_:Operand->SV) (_:St) (_:SV->St->Prop):Prop:=False
def SV.thing:SV->List Nat
 |.lst o=>[o]
 |.dd o _=>[o]
 |_=>[]
def Q7c (l:List SV):List Nat:=l.flatMap SV.thing
def SW (d:Nat) (o:VOp) (ev:Operand->SV):List Nat:=d::(match o with
 |.buildSlice _ _ _ parts=>parts.flatMap λp=>(match My (ev p.2) with|some l=>Q7c l|none=>[])
 |.append _ _ x y=>SV.thing (ev x)++SV.thing (ev y)
 |.store _ a v=>SV.thing (ev a)++(match My (ev v) with|some l=>Q7c l|none=>[])
 |_=>[])
def Lr (C:Cx) (d:Nat) (o:VOp) (ev:Operand->SV):Bool :=
 match o with
 |.buildSlice e _ _ _=>(match Qp C.kt e.ty with|some k=>!k.flat&&!(C.raw.contains d)|none=>false)
 |.makeSlice e _ _ _ _=>(match Qp C.kt e.ty with|some k=>!k.flat&&!(C.raw.contains d)|none=>false)
 |.append _ _ x y=>(match ev x with
  |.dd _ _=>true
  |_=>(match ev y with|.dd _ .out=>true|_=>false))
 |.store _ a _=>(match ev a with|.dd _ _=>true|_=>false)
 |_=>false
mutual
def SV.frz (o:Nat) (k:Kind) (xs:List k.T):SV->SV
 |.lst o'=>bif Nat.beq o' o then .val (.list k) xs else .lst o'
 |.sub o' lo n sz=>bif Nat.beq o' o then .any else .sub o' lo n sz
 |.elp o' i off sz=>bif Nat.beq o' o then .any else .elp o' i off sz
 |.dd o' w=>bif Nat.beq o' o then .any else .dd o' w
 |.box o' off=>bif Nat.beq o' o then .any else .box o' off
 |.map o'=>bif Nat.beq o' o then .any else .map o'
 |.grd gs v=>.grd gs (SV.frz o k xs v)
 |.agg l=>.agg (SVs.frz o k xs l)
 |.tup l=>.tup (SVs.frz o k xs l)
 |.cp l off=>.cp (SVs.frz o k xs l) off
 |.fn f a b=>.fn f (SVs.frz o k xs a) (SVs.frz o k xs b)
 |.any=>.any
 |.val k x=>.val k x
 |.bid n c=>.bid n c
 |.nilS=>.nilS
 |.nilP=>.nilP
 |.nilM=>.nilM
 |.nilF=>.nilF
 |.rop k l i off=>.rop k l i off
 |.pf ks r cS p=>.pf ks r cS p
def SVs.frz (o:Nat) (k:Kind) (xs:List k.T):List SV->List SV
 |[]=>[]
 |s::ss=>SV.frz o k xs s::SVs.frz o k xs ss
end
def OB.frz (o:Nat) (k:Kind) (xs:List k.T):OB->OB
 |.cells l u=>.cells (SVs.frz o k xs l) u
 |.dead=>.dead
 |.lst ty k xs nl=>.lst ty k xs nl
 |.map kk vk m=>.map kk vk m
 |.stk l vals=>.stk (SVs.frz o k xs l) vals
 |.lpf l q s=>.lpf (SVs.frz o k xs l) q s
 |.deep ty q k xs nl h=>.deep ty q k xs nl h
 |.iter kk vk m dn=>.iter kk vk m dn
 |.mapE kk vk m key n=>.mapE kk vk m key n
def OU (o:Nat) (k:Kind) (xs:List k.T):Own->Own
 |[]=>[]
 |(j,b)::r=>bif Nat.beq j o then OU o k xs r else (j,b.frz o k xs)::OU o k xs r
def St.frz (s:St) (o:Nat):St:=match Q8 s.own o with
 |.lst _ k xs _=>⟨SVs.frz o k xs s.env,OU o k xs s.own,s.nx⟩
 |_=>s
def St.frzs (s:St):List Nat->St
 |[]=>s
 |o::r=>(s.frz o).frzs r
def B6:List SV->List Nat
 |[]=>[]
 |s::r=>(match s with|.lst o=>o::B6 r|_=>B6 r)
def Q53 (C:Cx) (d:Nat) (o:VOp) (ev:Operand->SV) (own:Own):List Nat:=match o with
 |.store _ a v=>(match ev a with
  |.elp q _ _ _=>(match Q8 own q with
   |.lst _ k _ _=>bif k.flat then [] else (match My (ev v) with|some l=>B6 l|none=>[])
   |_=>[])
  |_=>[])
 |.buildSlice e _ _ parts=>(match Qp C.kt e.ty with
  |some k=>bif k.flat||!(C.raw.contains d) then [] else parts.flatMap λp=>(match My (ev p.2) with|some l=>B6 l|none=>[])
  |none=>[])
 |.move x=>bif C.raw.contains (2000000+d) then B6 [ev x] else []
 |_=>[]
def Bn (s:St) (j:Nat) (want:Bool):Option (List Gd×St) :=
 match s.env.getD j .any with
 |.val .bo c=>some ([⟨s.nx,want,c⟩],⟨s.env.set j (.bid s.nx c),s.own,s.nx+1⟩)
 |.bid n c=>some ([⟨n,want,c⟩],s)
 |.grd gs (.val .bo c)=>some (gs++[⟨s.nx,want,c⟩],⟨s.env.set j (.grd gs (.bid s.nx c)),s.own,s.nx+1⟩)
 |.grd gs (.bid n c)=>some (gs++[⟨n,want,c⟩],s)
 |_=>none
def gqc (C:Cx) (raw:Bool) (o:VOp) (ev:Operand->SV) (own:Own):Option (List Prop×SV) :=
 match o with
 |.callF f args=>match Vc C.cs (.fn f [] []) (BK own (args.map ev)) with
  |some (c,v,[])=>bif v.ret 0 then some ([c],v) else none
  |_=>none
 |.callV f args=>match Vc C.cs ((BK own [ev f]).getD 0 .any) (BK own (args.map ev)) with
  |some (c,v,[])=>bif v.ret 0 then some ([c],v) else none
  |_=>none
 |o=>gq C.kt raw o ev own
def CK (nt:Nat):Option (Prop×SV×List OB)->Option (Prop×SV)
 |some (c,v,bs)=>(match v,bs with
  |.lst 0,[.lst _ k xs _]=>bif k.flat&&Nat.blt 0 nt then some (c,.val (.list k) xs) else none
  |_,_=>none)
 |none=>none
def RM (C:Cx) (o:VOp) (ev:Operand->SV) (own:Own):Option (Prop×SV) :=
 match o with
 |.callF f args=>CK C.nt (Vc C.cs (.fn f [] []) (BK own (args.map ev)))
 |.callV f args=>CK C.nt (Vc C.cs ((BK own [ev f]).getD 0 .any) (BK own (args.map ev)))
 |.buildSlice e z n parts=>(match Qp C.kt e.ty with
  |some k=>if k.size=e.sz/\V0 k z=true/\k.flat=true then (match L9 k ev parts (List.replicate n k.dflt) with
   |some xs=>some (True,.val (.list k) xs)
   |none=>none) else none
  |none=>none)
 |_=>none
def L8 (env:List SV) (x:Operand):Option Bool:=match x with
 |.tmp j=>(match env.getD j .any with
  |.grd gs v=>(match gs with
   |[]=>(match v with
    |.val k x=>(match k,x with|.bo,b=>some b|_,_=>none)
    |_=>none)
   |_=>none)
  |_=>none)
 |_=>none
def O1 (env:List SV) (g:Option (Nat×Bool)):Option Bool:=match g with
 |none=>none
 |some (j,want)=>(match L8 env (.tmp j) with
  |some b=>some (b==want)
  |none=>none)
def Q3i (gs:List Gd) (env:List SV) (c a b:Operand):Option SV :=
 match gev gs env c with
 |.bid n t =>
  match a,b with
  |.const (.bool true),b=>(asB (gev (gs++[⟨n,false,t⟩]) env b)).map λy=>.val .bo (t||y)
  |a,.const (.bool false)=>(asB (gev (gs++[⟨n,true,t⟩]) env a)).map λx=>.val .bo (t&&x)
  |a,b=>match gev (gs++[⟨n,true,t⟩]) env a,gev (gs++[⟨n,false,t⟩]) env b with
   |.val (.i k) x,.val (.i k') y=>if k=k' then some (.val (.i k) (if t then x else y)) else none
   |.val .bo x,.val .bo y=>some (.val .bo (if t then x else y))
   |_,_=>none
 |_=>none
def EN (gs:List Gd) (env:List SV) (c a b:Operand):Option SV:=match L8 env c with
 |some t=>some (bif t then gev gs env a else gev gs env b)
 |none=>Q3i gs env c a b
def FO:VOp->Bool
 |.alloc ..|.box ..|.buildSlice ..|.makeSlice ..|.append ..|.store ..|.callF ..|.callV ..=>false
 |.ext (.makeMap)|.ext (.mapUpdate ..)|.ext (.delete ..)|.ext (.mapEntry ..)|.ext (.entryStore ..)|.ext (.copy ..)|.ext (.clear ..)|.ext (.unsafeStr ..)|.ext (.strBytes ..)|.ext (.rangeMap _)|.ext (.nextMap _)=>false
 |_=>true
def GU:SV->SV
 |.bid _ c=>.val .bo c
 |v=>v
def Q9a (o:VOp):Option (Nat×Nat×(Nat->VOp)):=match o with
 |.indexAddrArr len size x (.tmp t)=>some (len,t,λn=>.indexAddrArr len size x (.const (.int .i64 (Int.ofNat n))))
 |.indexArr len agg size x (.tmp t)=>some (len,t,λn=>.indexArr len agg size x (.const (.int .i64 (Int.ofNat n))))
 |_=>none
def OD (j:Int) (f:Nat->Prop):Nat->Nat->Prop
 |0,_=>True
 |n+1,i=>(j=(i:Int)->f i)/\OD j f n (i+1)
def Z4g (C:Cx) (o:VOper) (s:St) (K:St->Prop):Prop :=
 (match o.op with
 |.pick c a b=>match EN [] s.env c a b with
  |some v=>gnm C (.pick c a b) (gev [] s.env) v λv=>K (s.put o.dst v)
  |none=>False
 |op=>bif FO op then (match gq C.kt (C.raw.contains (o.dst.getD 0)) op (gev [] s.env) s.own with
   |some (cs,v)=>LM [] cs (gnm C op (gev [] s.env) v λv=>K (s.put o.dst v))
   |none=>False)
  else (match op with
   |.ext .makeMap=>(match Qp C.kt (1000000+o.dst.getD 0) with
    |some (.pair kk vk)=>K ((s.make (C.off+o.dst.getD 0) (.map kk vk [])).put o.dst (.map (C.off+o.dst.getD 0)))
    |_=>False)
   |op=>bif Lr C (o.dst.getD 0) op (gev [] s.env) then gnd C (C.off+o.dst.getD 0) op (gev [] s.env) s λv s'=>K (s'.put o.dst v) else gn C (C.off+o.dst.getD 0) op (gev [] s.env) s λv s'=>K (s'.put o.dst v)))
def Z4n (C:Cx) (o:VOper) (s:St) (K:St->Prop):Prop :=
 match Q9a o.op with
 |some (len,i,f)=>(match asI (gev [] s.env (.tmp i)) with
  |some (_,j)=>0<=j/\j<(len:Int)/\OD j (λn=>match gq C.kt (C.raw.contains (o.dst.getD 0)) (f n) (gev [] s.env) s.own with
   |some (cs,v)=>LM [] cs (gnm C (f n) (gev [] s.env) v λv=>K (s.put o.dst v))
   |none=>False) len 0
  |none=>False)
 |none=>Z4g C o s K
def Z0q (C:Cx) (o:VOper) (s:St) (K:St->Prop):Prop :=
 match o.guard with
 |none=>Z4n C o (s.frzs (Q53 C (o.dst.getD 0) o.op (gev [] s.env) s.own)) K
 |some (j,want)=>match Bn s j want with
  |none=>False
  |some (gs,s)=>(match o.op with
   |.pick c a b=>match EN gs s.env c a b with
    |some v=>gnm C (.pick c a b) (gev gs s.env) v λv=>K (s.put o.dst (.grd gs (GU v)))
    |none=>False
   |op=>(match gqc C (C.raw.contains (o.dst.getD 0)) op (gev gs s.env) s.own with
    |some (cs,v)=>LM gs cs (gnm C op (gev gs s.env) v λv=>K (s.put o.dst (.grd gs (GU v))))
    |none=>(match RM C op (gev gs s.env) s.own with
     |some (c,v)=>LM gs [c] (gnm C op (gev gs s.env) v λv=>K ((s.make (C.off+o.dst.getD 0) .dead).put o.dst (.grd gs v)))
     |none=>False)))
def gop (C:Cx) (o:VOper) (s:St) (K:St->Prop):Prop:=match O1 s.env o.guard with
 |some t=>bif t then Z0q C ⟨o.dst,o.op,none⟩ s K else K (s.put o.dst .any)
 |none=>Z0q C o s K
def Q66 (d:Nat) (s:St):Option St:=match s.env.getD d .any with
 |.box o off=>bif Nat.beq off 0 then (match Q8 s.own o with
  |.cells l _=>some ⟨s.env.set d (.cp l 0),oset s.own o .dead,s.nx⟩
  |_=>none) else none
 |_=>none
def Z1e (C:Cx) (d:Option Nat) (K:St->Prop) (s:St):Prop:=match d with
 |none=>K s
 |some d=>bif C.spl.contains d then (match asB (s.env.getD d .any) with
   |some t=>bif C.raw.contains (3000000+d) then (bif t then K (s.put (some d) (.grd [] (.val .bo true))) else K (s.put (some d) (.grd [] (.val .bo false))))
    else (t=true->K (s.put (some d) (.grd [] (.val .bo true))))/\(t=false->K (s.put (some d) (.grd [] (.val .bo false))))
   |none=>(match Q66 d s with
    |some s'=>K s'
    |none=>False))
  else K s
def Z15 (C:Cx):List VOper->St->(St->Prop)->Prop
 |[],s,K=>K s
 |o::r,s,K=>gop C o s (Z1e C o.dst λs'=>Z15 C r s' K)
def dv (o:DOper):VOper:=⟨o.dst,o.op,o.guard⟩
def Q43 (l:List DOper):Bool:=l.all λo=>!(o.kind==2)&&!(o.op.kind==2)
def gd1 (C:Cx) (o:DOper) (s:St) (K:St->Prop):Prop :=
 match o.guard with
 |none=>(match o.op with
  |.pick c a b=>(match EN [] s.env c a b with
   |some v=>gnm C (.pick c a b) (gev [] s.env) v λv=>K (s.put o.dst v)
   |none=>False)
  |op=>(match gq C.kt (C.raw.contains (o.dst.getD 0)) op (gev [] s.env) s.own with
   |some (cs,v)=>LM [] cs (gnm C op (gev [] s.env) v λv=>K (s.put o.dst v))
   |none=>False))
 |some (j,want)=>(match Bn s j want with
  |none=>False
  |some (gs,s)=>(match o.op with
   |.pick c a b=>(match EN gs s.env c a b with
    |some v=>gnm C (.pick c a b) (gev gs s.env) v λv=>K (s.put o.dst (.grd gs (GU v)))
    |none=>False)
   |op=>(match gq C.kt (C.raw.contains (o.dst.getD 0)) op (gev gs s.env) s.own with
    |some (cs,v)=>LM gs cs (gnm C op (gev gs s.env) v λv=>K (s.put o.dst (.grd gs (GU v))))
    |none=>False)))
def OB.wf:OB->Prop
 |.lst _ _ xs nl=>nl=true->xs=[]
 |_=>True
def FA:List OB->Prop->Prop
 |[],q=>q
 |b::r,q=>b.wf/\FA r q
def MG (C:Cx) (d:Nat) (f:SV) (args:List SV) (s:St) (K:List Nat->SV->St->Prop):Prop :=
 match Vc C.cs f args with
 |some (c,v,bs)=>bif v.ret bs.length&&(bs.all OB.ret&&(Nat.blt 0 C.nt&&(bs.all OB.isL&&Vd v))) then c/\FA bs (K ((List.range bs.length).map λj=>d+j*C.nt) (v.ren d C.nt) (s.makes d C.nt 0 bs)) else False
 |none=>False
def Pv:VOp->Bool
 |.alloc ..|.box ..|.buildSlice ..|.makeSlice ..=>true
 |_=>false
def Qx (d:Nat) (o:VOp) (ev:Operand->SV):Nat:=match o with
 |.append _ _ x _=>(match ev x with|.lst q=>q|_=>d)
 |.store _ a _=>(match ev a with|.box q _=>q|.elp q _ _ _=>q|_=>d)
 |.ext (.mapUpdate _ m _ _)=>(match ev m with|.map q=>q|_=>d)
 |.ext (.delete _ m _)=>(match ev m with|.map q=>q|_=>d)
 |.ext (.mapEntry _ _ m _)=>(match ev m with|.map q=>q|_=>d)
 |.ext (.entryStore m _ _)=>(match ev m with|.map q=>q|_=>d)
 |.ext (.copy _ a _)=>(match ev a with|.lst q=>q|.sub q _ _ _=>q|_=>d)
 |.ext (.unsafeStr _ a _)=>(match ev a with|.dd q _=>q|_=>d)
 |_=>d
def OB.here:OB->Bool
 |.dead=>false
 |.stk _ _=>false
 |.deep _ _ _ _ _ _=>false
 |.iter _ _ _ _=>false
 |.mapE _ _ _ _ _=>false
 |.lpf _ _ _=>false
 |_=>true
def stP:MK->Value->Bool
 |.agg [.int .i64,.int .i64],.int .i64 n=>n==0
 |_,_=>false
def Nv (o:VOp) (ev:Operand->SV) (own:Own):Option Nat:=match o with
 |.load _ _ a=>(match ev a with
  |.box q _=>bif (Q8 own q).here then some (2*q) else none
  |.elp q _ _ _=>bif (Q8 own q).here then some (2*q) else none
  |_=>none)
 |.ext (.lookup mk z false x _)=>bif stP mk z then (match ev x with
  |.map q=>(match Q8 own q with|.map _ _ _=>some (2*q+1)|_=>none)
  |_=>none) else none
 |.slice _ x _ _ none=>(match ev x with
  |.lst q=>(match Q8 own q with
   |.lst _ _ _ nl=>bif nl then none else some (2*q)
   |_=>none)
  |_=>none)
 |_=>none
def Tz:VOp->Bool
 |.ext (.mapEntry mk z _ _)=>stP mk z
 |_=>false
def Zb (A:List (Nat×Option Nat)) (j q:Nat):Bool:=A.all λa=>Nat.blt a.1 j||(match a.2 with|some t=>!(Nat.beq t q)|none=>false)
def Hp (A:List (Nat×Option Nat)) (j:Nat) (q:Option Nat):Bool:=match q with|some q=>Zb A j (q / 2)|none=>false
def TJ (R:List (Nat×Option Nat)) (hl t:Nat):Bool:=R.all λr=>Nat.blt r.1 hl||(match r.2 with|some q=>!(Nat.beq (q / 2) t)|none=>false)
def Ld (R:List (Nat×Option Nat)) (hl t:Nat):Bool:=R.all λr=>Nat.blt r.1 hl||(match r.2 with|some q=>!(Nat.beq (q / 2) t)|none=>true)
def Q6u (R:List (Nat×Option Nat)) (hl t:Nat):Bool:=R.all λr=>Nat.blt r.1 hl||(match r.2 with|some q=>!(Nat.beq (q / 2) t)||Nat.beq (q % 2) 1|none=>false)
def AW (mk:Bool) (R:List (Nat×Option Nat)) (hl:Nat) (ts:List Nat):Bool:=R.all λr=>Nat.blt r.1 hl||(match r.2 with|some q=>ts.all (λt=>!(Nat.beq (q / 2) t))|none=>mk)
def Q6t (o:VOp) (ev:Operand->SV):Bool:=match o with
 |.load _ _ a=>(match ev a with|.rop _ _ _ _=>true|.cp _ _=>true|_=>false)
 |_=>false
def FI (s:St) (j:Nat) (want:Bool) (o:VOp):Bool:=match Bn s j want with
 |some (gs,s1)=>Q6t o (gev gs s1.env)
 |none=>false
def GR (A:List (Nat×Option Nat)) (j:Nat):Bool:=A.all λa=>Nat.blt a.1 j||a.2.isSome
def Fh (C:Cx) (f:SV) (args:List SV):Option (List Prop×SV):=match Vc C.cs f args with
 |some (c,v,bs)=>(match v,bs with
  |.lst 0,[.lst _ k xs nl]=>bif k.flat&&Nat.blt 0 C.nt then some ([c,nl=true->xs=[]],.val (.list k) xs) else none
  |_,_=>none)
 |none=>none
def E7 (env:List SV) (o:DOper):DOper:=match O1 env o.guard with
 |some true=>{o with guard:=none}
 |_=>o
def Q99 (own:Own):SV->Option (List SV)
 |.box o off=>bif Nat.beq off 0 then (match Q8 own o with|.cells l _=>some l|_=>none) else none
 |.cp l off=>bif Nat.beq off 0 then some l else none
 |_=>none
def Q4b (own:Own) (j:Nat):List SV->Option Nat
 |a::_=>(match Q99 own a with
  |some l=>(match l[j]? with
   |some (.map o)=>some o
   |_=>none)
  |none=>(match a with|.map o=>some o|_=>none))
 |[]=>none
def Cx.nx (C:Cx):Cx:={C with xs:=[]}
def Xh (C:Cx):List DOper->St->Nat->Nat->List (Nat×Option Nat)->List (Nat×Option Nat)->(St->Prop)->Prop
 |[],s,_,_,_,_,K=>K s
 |o0::r,s,hl,chg,A,R,K=>match O1 s.env o0.guard with
  |some false=>if o0.kind=2 then Xh C r (s.put o0.dst .any) (hl+1) chg A R K else Xh C r (s.put o0.dst .any) hl chg A R K
  |_=>(λo:DOper =>
  if o.kind=2 then
   (match o.op with
   |.callF f args=>(match o.guard with
    |none=>(match Qp C.xs f with
     |some x=>(match Qp C.xf f with
      |some j=>(match Q4b s.own j (args.map (gev [] s.env)) with
       |some t=>bif waits o.dst.toList r&&AW false R hl [t] then
         x (C.off+o.dst.getD 0) (args.map (gev [] s.env)) s λv s'=>Xh C r (s'.put o.dst v) (hl+1) hl ((hl-1,some t)::A) R K else False
       |none=>False)
      |none=>bif waits o.dst.toList r&&R.all (λq=>Nat.blt q.1 hl) then
       x (C.off+o.dst.getD 0) (args.map (gev [] s.env)) s λv s'=>Xh C r (s'.put o.dst v) (hl+1) hl ((hl-1,none)::A) [] K
      else MG C (C.off+o.dst.getD 0) (.fn f [] []) (BK s.own (args.map (gev [] s.env))) s λts v s'=>Xh C r (s'.put o.dst v) (hl+1) (bif ts.isEmpty then chg else hl) (ts.map (λt=>(hl-1,some t))++A) (bif ts.isEmpty then R else R.map λr=>(r.1,none)) K)
     |none=>MG C (C.off+o.dst.getD 0) (.fn f [] []) (BK s.own (args.map (gev [] s.env))) s λts v s'=>Xh C r (s'.put o.dst v) (hl+1) (bif ts.isEmpty then chg else hl) (ts.map (λt=>(hl-1,some t))++A) (bif ts.isEmpty then R else R.map λr=>(r.1,none)) K)
    |some (j,want)=>(match Bn s j want with
     |none=>False
     |some (gs,s)=>(match gqc C false (.callF f args) (gev gs s.env) s.own with
      |some (cs,v)=>bif Vd v then LM gs cs (gnm C (.callF f args) (gev gs s.env) v λv=>Xh C r (s.put o.dst (.grd gs (GU v))) (hl+1) chg A R K) else False
      |none=>(match Fh C (.fn f [] []) (BK s.own (args.map (gev gs s.env))) with
       |some (cs,v)=>LM gs cs (Xh C r ((s.make (C.off+o.dst.getD 0) .dead).put o.dst (.grd gs v)) (hl+1) hl ((hl-1,none)::A) (R.map λr=>(r.1,none)) K)
       |none=>False))))
   |.callV f args=>(match o.guard with
    |none=>MG C (C.off+o.dst.getD 0) ((BK s.own [gev [] s.env f]).getD 0 .any) (BK s.own (args.map (gev [] s.env))) s λts v s'=>Xh C r (s'.put o.dst v) (hl+1) (bif ts.isEmpty then chg else hl) (ts.map (λt=>(hl-1,some t))++A) (bif ts.isEmpty then R else R.map λr=>(r.1,none)) K
    |some _=>False)
   |.ext (.rangeMap _)=>False
   |.ext (.nextMap _)=>False
   |op=>(match o.guard with
    |none=>bif Lr C (o.dst.getD 0) op (gev [] s.env) then
      (bif AW (Pv op) R hl (SW (C.off+o.dst.getD 0) op (gev [] s.env)) then
       gnd C (C.off+o.dst.getD 0) op (gev [] s.env) s λv s'=>Xh C r (s'.put o.dst v) (hl+1) hl ((SW (C.off+o.dst.getD 0) op (gev [] s.env)).map (λt=>(hl-1,some t))++A) R K else False)
     else bif (Pv op&&Ld R hl (Qx (C.off+o.dst.getD 0) op (gev [] s.env)))||TJ R hl (Qx (C.off+o.dst.getD 0) op (gev [] s.env))||(Tz op&&Q6u R hl (Qx (C.off+o.dst.getD 0) op (gev [] s.env))) then
      gn C (C.off+o.dst.getD 0) op (gev [] s.env) s λv s'=>Xh C r (s'.put o.dst v) (hl+1) hl ((hl-1,some (Qx (C.off+o.dst.getD 0) op (gev [] s.env)))::A) R K else False
    |some _=>False))
  else if o.kind=1 then
   (match o.guard with
   |none=>bif Q6t o.op (gev [] s.env)&&GR A o.kmin then gd1 C o s λs'=>Xh C r s' hl chg A R K
    else bif Nat.ble chg o.kmin||Hp A o.kmin (Nv o.op (gev [] s.env) s.own) then gd1 C o s λs'=>Xh C r s' hl chg A ((o.kmax,Nv o.op (gev [] s.env) s.own)::R) K else False
   |some (j,want)=>bif FI s j want o.op&&GR A o.kmin then gd1 C o s λs'=>Xh C r s' hl chg A R K
    else bif Nat.ble chg o.kmin then gd1 C o s λs'=>Xh C r s' hl chg A ((o.kmax,none)::R) K else False)
  else gd1 C o s λs'=>Xh C r s' hl chg A R K) (E7 s.env o0)
inductive Src where
 |slot (j:Nat)
 |cell (t off:Nat)
 |key (k:Nat)
structure LoopAnn where
 E:Type
 D:Type
 sl:List Nat
 vs:E->D->List SV
 own:E->D->List (Nat×Src×OB)
def Q6j:List Nat->List SV->List (Nat×SV)
 |[],_=>[]
 |j::js,[]=>(j,.any)::Q6j js []
 |j::js,v::vs=>(j,v)::Q6j js vs
def LoopAnn.st (A:LoopAnn) (p:A.E) (d:A.D):List (Nat×SV):=Q6j A.sl (A.vs p d)
def LoopP {D:Type}(F:D->(D->Prop)->Prop) (d0:D):Prop :=
 ∃ (I:D->Prop) (μ:D->Nat),I d0/\∀ d,I d->F d λd'=>I d'/\μ d'<μ d
def Z5l (s:St) (mp:List (Nat×Option Nat)):Src->Option (Option Nat)
 |.slot j=>match s.env.getD j .any with
  |.lst a=>some (some a)
  |.sub a _ _ _=>some (some a)
  |.dd a _=>some (some a)
  |.box a _=>some (some a)
  |.map a=>some (some a)
  |.nilS=>some none
  |_=>none
 |.cell t off=>match Qp mp t with
  |some (some a)=>(match Q8 s.own a with
   |.cells l _=>(match l.getD off .any with
    |.lst a=>some (some a)
    |.box a _=>some (some a)
    |.map a=>some (some a)
    |.nilS=>some none
    |_=>none)
   |_=>none)
  |_=>none
 |.key k=>some (some k)
def Q80 (s:St):List (Nat×Src)->List (Nat×Option Nat)->Option (List (Nat×Option Nat))
 |[],mp=>some mp
 |(t,src)::r,mp=>match Z5l s mp src with
  |some (some a)=>if (mp.any λp=>p.2==some a)||(Qp mp t).isSome then none else Q80 s r (mp++[(t,some a)])
  |some none=>if (Qp mp t).isSome then none else Q80 s r (mp++[(t,none)])
  |none=>none
def MJ {k:Kind}(x:k.T) {k':Kind}(y:k'.T):Prop:=match Ip y k with|some y=>y=x|none=>False
mutual
def SV.pure:SV->Bool
 |.lst _|.sub _ _ _ _|.elp _ _ _ _|.box _ _|.map _|.grd _ _|.bid _ _|.dd _ _=>false
 |.agg l=>SVs.pure l
 |.tup l=>SVs.pure l
 |.cp l _=>SVs.pure l
 |.fn _ a b=>SVs.pure a&&SVs.pure b
 |.any|.val _ _|.nilS|.nilP|.nilM|.nilF|.rop _ _ _ _|.pf _ _ _ _=>true
def SVs.pure:List SV->Bool
 |[]=>true
 |s::ss=>SV.pure s&&SVs.pure ss
end
mutual
def BN (mp:List (Nat×Option Nat)):SV->SV->Prop
 |.any,_=>True
 |.val k x,v=>match v with
  |.val _k' y=>MJ x y
  |.bid _ c=>MJ (k:=k) x (k':=.bo) c
  |.nilS=>match k,x with|.list _,x=>x=[]|_,_=>False
  |_=>False
 |.lst t,v=>match v with
  |.lst a=>if Qp mp t=some (some a) then True else False
  |.nilS=>if Qp mp t=some none then True else False
  |_=>False
 |.box t off,v=>match v with
  |.box a dE=>if Qp mp t=some (some a)/\off=dE then True else False
  |_=>False
 |.map t,v=>match v with
  |.map a=>if Qp mp t=some (some a) then True else False
  |_=>False
 |.dd t w,v=>(match w with
  |.obx c=>(match v with
   |.nilP=>c=false
   |.box a f=>if Qp mp t=some (some a)/\f=0 then c=true else False
   |.dd a w'=>(match w' with|.obx c'=>if Qp mp t=some (some a) then c'=c else False|_=>False)
   |_=>False)
  |.yv=>(match v with
   |.dd a w'=>(match w' with|.yv=>if Qp mp t=some (some a) then True else False|_=>False)
   |_=>False)
  |.out=>(match v with
   |.dd a w'=>(match w' with|.out=>if Qp mp t=some (some a) then True else False|_=>False)
   |.nilS=>if Qp mp t=some none then True else False
   |_=>False)
  |_=>False)
 |.agg l,v=>match v with|.agg l'=>VB mp l l'|_=>False
 |.tup l,v=>match v with|.tup l'=>VB mp l l'|_=>False
 |.fn f a b,v=>match v with|.fn f' a' b'=>if f=f' then VB mp a a'/\VB mp b b' else False|_=>False
 |.nilS,v=>match v with|.nilS=>True|_=>False
 |.nilP,v=>match v with|.nilP=>True|_=>False
 |.nilM,v=>match v with|.nilM=>True|_=>False
 |.nilF,v=>match v with|.nilF=>True|_=>False
 |.cp l off,v=>bif SVs.pure l then .cp l off=v/\SVs.pure l=true else match v with|.cp l' dE=>if off=dE then VB mp l l' else False|_=>False
 |.pf ks r cS p,v=>.pf ks r cS p=v
 |.sub t lo n sz,v=>match v with
  |.sub a tV n' tW=>if Qp mp t=some (some a) then tV=lo/\n'=n/\tW=sz else False
  |_=>False
 |.elp _ _ _ _,_|.grd _ _,_|.bid _ _,_|.rop _ _ _ _,_=>False
def VB (mp:List (Nat×Option Nat)):List SV->List SV->Prop
 |[],l=>l=[]
 |s::ss,l=>match l with|v::vs=>BN mp s v/\VB mp ss vs|[]=>False
end
def Ij (s:St) (mp:List (Nat×Option Nat)) (t:Nat) (b:OB):Prop :=
 match Qp mp t with
 |some (some a)=>(match b,Q8 s.own a with
  |.dead,_=>True
  |.lst ty k xs nl,.lst jg k' cI kH=>if ty=jg then MJ (k:=.list k) xs (k':=.list k') cI/\kH=nl else False
  |.cells l u,.cells l' u'=>if u=u' then VB mp l l' else False
  |.map kk vk m,.map jL lU m'=>if kk=jL then MJ (k:=.list (.pair kk vk)) m (k':=.list (.pair jL lU)) m' else False
  |.stk l vals,.stk l' kI=>vals=kI/\VB mp l l'
  |.lpf l q u,.lpf l' q' u'=>(match u,u' with|.rdy,.rdy=>q=q'/\VB mp l l'|.busy,.busy=>q=q'/\VB mp l l'|_,_=>False)
  |.iter kk vk m dn,.iter jL lU m' rW=>if kk=jL then MJ (k:=.list (.pair kk vk)) m (k':=.list (.pair jL lU)) m'/\rW=dn else False
  |.deep ty q k xs nl h,.deep jg q' k' cI kH h'=>if ty=jg/\q=q' then (match h,h' with|none,none=>MJ (k:=.list k) xs (k':=.list k') cI/\kH=nl|_,_=>False) else False
  |_,_=>False)
 |some none=>(match b with
  |.lst _ _ xs nl=>xs=[]/\nl=true
  |.deep _ _ _ xs nl h=>(match h with|none=>xs=[]/\nl=true|some _=>False)
  |_=>False)
 |none=>False
def gmatch (s:St) (st:List (Nat×SV)) (ow:List (Nat×Src×OB)):Prop :=
 match Q80 s (ow.map λp=>(p.1,p.2.1)) [] with
 |some mp=>slots mp st/\obs mp ow
 |none=>False
 where
 slots (mp:List (Nat×Option Nat)):List (Nat×SV)->Prop
  |[]=>True
  |(j,v)::r=>BN mp v (s.env.getD j .any)/\slots mp r
 obs (mp:List (Nat×Option Nat)):List (Nat×Src×OB)->Prop
  |[]=>True
  |(t,_,b)::r=>Ij s mp t b/\obs mp r
def Z5 (len:Nat) (st:List (Nat×SV)) (ow:List (Nat×Src×OB)):St :=
 ⟨st.foldl (λe p=>e.set p.1 p.2) (List.replicate len .any),ow.foldl (λo p=>oset o p.1 p.2.2) [],0⟩
def Z5d:SV->SV
 |.bid _ c=>.val .bo c
 |.grd _ _=>.any
 |.elp _ _ _ _=>.any
 |.rop _ _ _ _=>.any
 |.dd o w=>(match w with|.out=>.dd o .out|.obx c=>.dd o (.obx c)|.yv=>.dd o .yv|_=>.any)
 |v=>v
def Z25 (jn:List Nat) (s:St):List (Nat×SV):=jn.map λj=>(j,Z5d (s.env.getD j .any))
def Q7k:Own->List (Nat×Src×OB)
 |[]=>[]
 |(t,b)::r=>(match b with|.dead=>Q7k r|b=>(t,.key t,b)::Q7k r)
def Du (n:Nat) (s:St) (st:List (Nat×SV)) (ow:List (Nat×Src×OB)):Prop:=bif Nat.beq s.env.length n then gmatch s st ow else False
def Q61 (C:Cx):List (List DOper)->St->List (Nat×SV)->List (Nat×Src×OB)->Prop->Prop
 |[],_,_,_,Q=>Q
 |l::ls,s,st,ow,Q=>(Xh C.nx l s 1 0 [] [] λs'=>Du s.env.length s' st ow)/\Q61 C ls s st ow Q
def Rq (C:Cx):List DSeg->St->(St->Prop)->Prop
 |[],s,K=>K s
 |.one o::r,s,K=>gop C o s (Z1e C o.dst λs'=>Rq C r s' K)
 |.alts [l]::r,s,K=>bif Q43 l then Z15 C (l.map dv) s λs'=>Rq C r s' K else bif l.all (λo=>o.kind==o.op.kind) then Xh C l s 1 0 [] [] λs'=>Rq C r s' K else False
 |.alts (l::l2::ls)::r,s,K=>bif (l::l2::ls).all (λl=>l.all λo=>o.kind==o.op.kind) then
   Xh C.nx l s 1 0 [] [] λs0=>Du s.env.length s0 (Z25 C.jn s0) (Q7k s0.own)/\Q61 C (l2::ls) s (Z25 C.jn s0) (Q7k s0.own) (Rq C r (Z5 s.env.length (Z25 C.jn s0) (Q7k s0.own)) K) else False
 |.alts []::_,_,_=>False
def Q19 (R:St->Prop) (K:Exit->St->Prop):Exit->St->Prop
 |.normal,s=>R s
 |e,s=>K e s
def FP (id:Nat) (K:Exit->St->Prop):Exit->St->Prop
 |.exit hZ,s=>if hZ=id then K .normal s else K (.exit hZ) s
 |e,s=>K e s
def Z3n:Own->Bool
 |[]=>true
 |(_,b)::r=>(match b with|.lpf _ _ .ret=>false|.lpf _ _ (.exit _)=>false|_=>true)&&Z3n r
def Q3j (A:LoopAnn) (p:A.E) (next:A.D->Prop) (K:Exit->St->Prop):Exit->St->Prop
 |.normal,s=>bif Z3n s.own then ∃ d,gmatch s (A.st p d) (A.own p d)/\next d else False
 |e,s=>K e s
def Z5g {D:Type}(F:(D->Prop)->Prop) (iG:D->Prop):Prop:=∃ I:D->Prop,F I/\∀ d,I d->iG d
def Z3o (L:List (Nat×LoopAnn)) (c:Operand):Option LoopAnn:=match c with
 |.tmp j=>Qp L (3000000+j)
 |_=>none
def Q64 (n:Nat) (A:LoopAnn) (p:A.E) (next:A.D->Prop) (K:Exit->St->Prop):Exit->St->Prop
 |.normal,s=>∃ d,Du n s (A.st p d) (A.own p d)/\next d
 |e,s=>K e s
def Q93 {D:Type}(m:Nat) (F:Nat->D->(D->Prop)->Prop) (iG:D->Prop) (d0:D):Prop :=
 ∃ I:Nat->D->Prop,I 0 d0/\(∀ k d,k<m->I k d->F k d λd'=>I (k+1) d')/\∀ d,I m d->iG d
def Q4v:St->List SV->Option (St×List SV)
 |s,[]=>some (s,[])
 |s,v::vs=>match v with
  |.box o 0=>(match Q8 s.own o with
   |.cells l _=>bif SVs.pure l then (match Q4v ⟨s.env,oset s.own o .dead,s.nx⟩ vs with|some (s',r)=>some (s',.cp l 0::r)|none=>none) else none
   |_=>none)
  |v=>bif v.pure then (match Q4v s vs with|some (s',r)=>some (s',v::r)|none=>none) else none
def LK (key:Nat) (vals:List Value) (s:St):St:=s.make key (.stk (SVs.kill key s.env) vals)
def Gs:List SV->List Nat->List SV->List SV
 |env,p::ps,v::vs=>Gs (env.set p v) ps vs
 |env,_,_=>env
def O0 (key:Nat) (A:LoopAnn) (p:A.E) (vals:List Value) (next:A.D->Prop) (K:Exit->St->Prop) (e:Exit) (s:St):Prop :=
 match Q8 s.own key with
 |.stk l vs=>vs=vals/\(match e with
  |.normal=>∃ d,gmatch ⟨l,s.own,s.nx⟩ (A.st p d) (A.own p d)/\next d
  |.ret=>K .ret ⟨l,s.own,s.nx⟩
  |.exit id=>K (.exit id) ⟨l,s.own,s.nx⟩
  |_=>False)
 |_=>False
def Z54 (o:Nat) (q:LpD) (s:St):St:=s.make o (.lpf (SVs.kill o s.env) q .rdy)
def gyK (o aK:Nat) (gL:List Value) (q:LpD) (K:SV->St->Prop) (e:Exit) (s:St):Prop :=
 match Q8 s.own aK,Q8 s.own o with
 |.stk l2 kJ,.lpf l q' u=>(match u with
  |.busy=>kJ=gL/\q'=q/\(match e with
   |.normal=>K (.val .bo true) ⟨l2,oset (oset s.own aK .dead) o (.lpf l q' .rdy),s.nx⟩
   |.ret=>K (.val .bo false) ⟨l2,oset (oset s.own aK .dead) o (.lpf l q' .ret),s.nx⟩
   |.exit id=>K (.val .bo false) ⟨l2,oset (oset s.own aK .dead) o (.lpf l q' (.exit id)),s.nx⟩
   |_=>False)
  |_=>False)
 |_,_=>False
def Q57 (o:Nat) (q:LpD) (K:Exit->St->Prop) (s:St):Prop :=
 match Q8 s.own o with
 |.lpf l q' u=>(match u with
  |.busy=>False
  |.rdy=>q'=q/\K .normal ⟨l,oset s.own o .dead,s.nx⟩
  |.ret=>q'=q/\K .ret ⟨l,oset s.own o .dead,s.nx⟩
  |.exit id=>q'=q/\K (.exit id) ⟨l,oset s.own o .dead,s.nx⟩)
 |_=>False
def I8 (o aK np:Nat) (q:LpD) (W:(Exit->St->Prop)->St->Prop) (ps:List Nat):YSp:=λargs s K =>
 match Q8 s.own o with
 |.lpf l q' u=>(match u with
  |.rdy=>bif Nat.beq args.length np then q'=q/\∀ gL,W (gyK o aK gL q K) ⟨Gs (SVs.kill aK l) ps (SVs.kill aK args),oset (LK aK gL s).own o (.lpf (SVs.kill aK l) q' .busy),s.nx⟩ else False
  |_=>False)
 |_=>False
def gwp (C:Cx) (L:List (Nat×LoopAnn)):VCode->Nat->(Exit->St->Prop)->St->Prop
 |.skip,_,K,s=>K .normal s
 |.region ops,_,K,s=>Z15 C ops s λs'=>K .normal s'
 |.regionD aQ,_,K,s=>Rq C aQ s λs'=>K .normal s'
 |.seq a b,n,K,s=>gwp C L a n (Q19 (λs'=>gwp C L b n K s') K) s
 |.cond c a b,n,K,s=>match L8 s.env c with
  |some t=>bif t then gwp C L a n K s else gwp C L b n K s
  |none=>(match asB (gev [] s.env c) with
   |some t=>(match Z3o L c with
    |some A=>∃ p:A.E,Z5g (λnext=>(t=true->gwp C L a n (Q64 s.env.length A p next K) s)/\(t=false->gwp C L b n (Q64 s.env.length A p next K) s)) (λd=>K .normal (Z5 s.env.length (A.st p d) (A.own p d)))
    |none=>(t=true->gwp C L a n K s)/\(t=false->gwp C L b n K s))
   |none=>False)
 |.block id b,_,K,s=>gwp C L b id (FP id K) s
 |.loop b,n,K,s=>match Qp L n with
  |some A=>∃ (p:A.E) (d0:A.D),gmatch s (A.st p d0) (A.own p d0)/\LoopP (λd next=>gwp C L b n (Q3j A p next K) (Z5 s.env.length (A.st p d) (A.own p d))) d0
  |none=>False
 |.rangeF g ps a b,n,K,s=>match gev [] s.env g with
  |.fn f first dD=>(match Qp C.iy f with
   |some x=>∀ q:LpD,x (C.off+2000000+n) (SVs.kill (C.off+2000000+n) first++(.dd (C.off+2000000+n) .yv::SVs.kill (C.off+2000000+n) dD))
     (C.off+2000000+n,I8 (C.off+2000000+n) (100000*(C.off+2000000+n+1)-1) ps.length q (λK' s'=>gwp C L a n (Q19 (λs3=>gwp C L b n K' s3) λ_ _=>False) s') ps)
     (Z54 (C.off+2000000+n) q s) (Q57 (C.off+2000000+n) q K)
   |none=>(match first with
   |[]=>(match Qp C.it f,Q4v s dD,Qp L n with
    |some it,some (s1,cK),some A=>(match it cK with
     |some (c,m,ar,xs)=>(bif Nat.beq ps.length ar then c/\∃ (p:A.E) (d0:A.D),gmatch s1 (A.st p d0) (A.own p d0) /\
      Q93 m (λk d next=>∀ vals,gwp C L a n (Q19 (λs3=>gwp C L b n (O0 (2000000+n) A p vals next K) s3) λ_ _=>False)
       ⟨Gs (LK (2000000+n) vals (Z5 s.env.length (A.st p d) (A.own p d))).env ps (xs k),(LK (2000000+n) vals (Z5 s.env.length (A.st p d) (A.own p d))).own,0⟩)
       (λd=>K .normal (Z5 s.env.length (A.st p d) (A.own p d))) d0 else False)
     |none=>False)
    |_,_,_=>False)
   |_=>False))
  |_=>False
 |.exit id,_,K,s=>K (.exit id) s
 |.ret,_,K,s=>K .ret s
 |.bad,_,_,_=>False
section
variable {P:Program}
theorem Zs {a b:Nat}(h:¬ a=b):Nat.beq a b=false:=by
 cases e:Nat.beq a b with
 |false=>rfl
 |true=>exact absurd (zH e) h
theorem PfRel.mono {B B':Heap}(hB:B.Le B') {ks:List Kind}{r:Kind}{cS:AT ks->Prop}{p:AT ks->r.T}{v:Value}(h:PfRel P B ks r cS p v):PfRel P B' ks r cS p v:=by obtain⟨g,first,cap,hv,hx⟩:=h;exact⟨g,first,cap,hv,λx hd M vs hs ha=>hx x hd M vs (hB.trans hs) ha⟩
theorem OL {tb tb':Nat->Option Bool}(ht:∀ n c,tb n=some c->tb' n=some c) {v:SV}(h:gtb tb v):gtb tb' v:=by cases v<;>first|trivial|exact ht _ _ h
theorem Q0x {tb tb':Nat->Option Bool}{o:Nat}(ht:∀ n c,tb n=some c->tb' n=some c) {v:SV}(h:gtb tb v):gtb tb' (v.kill o):=by
 cases v
 case bid n c=>exact ht _ _ h
 all_goals (simp only[SV.kill];first|trivial|(split<;>trivial)|(cases Nat.beq _ _<;>trivial))
mutual
theorem SR.upd {B B':Heap}{pl pl':Nat->Value}{tb tb':Nat->Option Bool}{o:Nat}(hB:B.Le B') (ht:∀ n c,tb n=some c->tb' n=some c) (hp:∀ d,d≠o->pl' d=pl d) :
  ∀ (s:SV) (v:Value),SR P B pl tb s v->SR P B' pl' tb' (s.kill o) v
 |.any,_,_=>trivial
 |.val k x,v,h=>by simp only[SV.kill,SR] at h |-;exact KC.mono hB h
 |.bid n c,v,h=>by simp only[SV.kill,SR] at h |-;exact⟨h.1,ht _ _ h.2⟩
 |.grd gs s,v,h=>by simp only[SV.kill,SR] at h |-;exact⟨⟨λg hg=>ht _ _ (h.1.1 g hg),Q0x ht h.1.2⟩,λhg=>SR.upd hB ht hp s v (h.2.1 hg),h.2.2⟩
 |.nilS,v,h=>h
 |.nilP,v,h=>h
 |.nilM,v,h=>h
 |.nilF,v,h=>h
 |.lst o',v,h=>by
  by_cases e:o'=o
  .subst e;simp[SV.kill,SR]
  .simp only[SV.kill,Zs e,cond_false];simp only[SR] at h |-;rw[hp _ e];exact h
 |.sub o' lo n sz,v,h=>by
  by_cases e:o'=o
  .subst e;simp[SV.kill,SR]
  .simp only[SV.kill,Zs e,cond_false];simp only[SR] at h |-;rw[hp _ e];exact h
 |.elp o' i off sz,v,h=>by
  by_cases e:o'=o
  .subst e;simp[SV.kill,SR]
  .simp only[SV.kill,Zs e,cond_false];simp only[SR] at h |-;rw[hp _ e];exact h
 |.box o' off,v,h=>by
  by_cases e:o'=o
  .subst e;simp[SV.kill,SR]
  .simp only[SV.kill,Zs e,cond_false];simp only[SR] at h |-;rw[hp _ e];exact h
 |.map o',v,h=>by
  by_cases e:o'=o
  .subst e;simp[SV.kill,SR]
  .simp only[SV.kill,Zs e,cond_false];simp only[SR] at h |-;rw[hp _ e];exact h
 |.dd o' w,v,h=>by
  by_cases e:o'=o
  .subst e;simp[SV.kill,SR]
  .simp only[SV.kill,Zs e,cond_false];simp only[SR] at h |-;rw[hp _ e];exact h
 |.rop k l i off,v,h=>by simp only[SV.kill,SR] at h |-;obtain⟨b,o,c,e,wr,t,h1,h2,h3,h4,h5,h6⟩:=h;exact⟨b,o,c,e,wr,t,h1,h2,hB.2 _ _ h3,h4,h5,h6.mono λ_ _=>KC.mono hB⟩
 |.cp l off,v,h=>by simp only[SV.kill,SR] at h |-;obtain⟨b,c,e,wr,t,h1,h2,h3⟩:=h;exact⟨b,c,e,wr,t,hB.2 _ _ h1,h2,SRs.upd hB ht hp l c h3⟩
 |.agg l,v,h=>by simp only[SV.kill,SR] at h |-;obtain⟨cs,h1,h2⟩:=h;exact⟨cs,h1,SRs.upd hB ht hp l cs h2⟩
 |.tup l,v,h=>by simp only[SV.kill,SR] at h |-;obtain⟨cs,h1,h2⟩:=h;exact⟨cs,h1,SRs.upd hB ht hp l cs h2⟩
 |.fn f a b,v,h=>by simp only[SV.kill,SR] at h |-;obtain⟨x,y,h1,h2,h3⟩:=h;exact⟨x,y,h1,SRs.upd hB ht hp a x h2,SRs.upd hB ht hp b y h3⟩
 |.pf ks r cS p,v,h=>by simp only[SV.kill,SR] at h |-;exact h.mono hB
theorem SRs.upd {B B':Heap}{pl pl':Nat->Value}{tb tb':Nat->Option Bool}{o:Nat}(hB:B.Le B') (ht:∀ n c,tb n=some c->tb' n=some c) (hp:∀ d,d≠o->pl' d=pl d) :
  ∀ (s:List SV) (v:List Value),SRs P B pl tb s v->SRs P B' pl' tb' (SVs.kill o s) v
 |[],v,h=>h
 |s::ss,v,h=>by simp only[SVs.kill,SRs] at h |-;obtain⟨x,y,h1,h2,h3⟩:=h;exact⟨x,y,h1,SR.upd hB ht hp s x h2,SRs.upd hB ht hp ss y h3⟩
end
mutual
theorem SR.mono {B B':Heap}{pl:Nat->Value}{tb tb':Nat->Option Bool}(hB:B.Le B') (ht:∀ n c,tb n=some c->tb' n=some c) :
  ∀ (s:SV) (v:Value),SR P B pl tb s v->SR P B' pl tb' s v
 |.any,_,_=>trivial
 |.val k x,v,h=>by simp only[SR] at h |-;exact KC.mono hB h
 |.bid n c,v,h=>by simp only[SR] at h |-;exact⟨h.1,ht _ _ h.2⟩
 |.grd gs s,v,h=>by simp only[SR] at h |-;exact⟨⟨λg hg=>ht _ _ (h.1.1 g hg),OL ht h.1.2⟩,λhg=>SR.mono hB ht s v (h.2.1 hg),h.2.2⟩
 |.nilS,v,h|.nilP,v,h|.nilM,v,h|.nilF,v,h=>by simp only[SR] at h |-;exact h
 |.lst _,v,h|.sub _ _ _ _,v,h|.elp _ _ _ _,v,h|.box _ _,v,h|.map _,v,h|.dd _ _,v,h=>by simp only[SR] at h |-;exact h
 |.rop k l i off,v,h=>by simp only[SR] at h |-;obtain⟨b,o,c,e,wr,t,h1,h2,h3,h4,h5,h6⟩:=h;exact⟨b,o,c,e,wr,t,h1,h2,hB.2 _ _ h3,h4,h5,h6.mono λ_ _=>KC.mono hB⟩
 |.cp l off,v,h=>by simp only[SR] at h |-;obtain⟨b,c,e,wr,t,h1,h2,h3⟩:=h;exact⟨b,c,e,wr,t,hB.2 _ _ h1,h2,SRs.mono hB ht l c h3⟩
 |.agg l,v,h=>by simp only[SR] at h |-;obtain⟨cs,h1,h2⟩:=h;exact⟨cs,h1,SRs.mono hB ht l cs h2⟩
 |.tup l,v,h=>by simp only[SR] at h |-;obtain⟨cs,h1,h2⟩:=h;exact⟨cs,h1,SRs.mono hB ht l cs h2⟩
 |.fn f a b,v,h=>by simp only[SR] at h |-;obtain⟨x,y,h1,h2,h3⟩:=h;exact⟨x,y,h1,SRs.mono hB ht a x h2,SRs.mono hB ht b y h3⟩
 |.pf ks r cS p,v,h=>by simp only[SR] at h |-;exact h.mono hB
theorem SRs.mono {B B':Heap}{pl:Nat->Value}{tb tb':Nat->Option Bool}(hB:B.Le B') (ht:∀ n c,tb n=some c->tb' n=some c) :
  ∀ (s:List SV) (v:List Value),SRs P B pl tb s v->SRs P B' pl tb' s v
 |[],v,h=>h
 |s::ss,v,h=>by simp only[SRs] at h |-;obtain⟨x,y,h1,h2,h3⟩:=h;exact⟨x,y,h1,SR.mono hB ht s x h2,SRs.mono hB ht ss y h3⟩
end
mutual
theorem SR.frz {B:Heap}{pl:Nat->Value}{tb:Nat->Option Bool}{o:Nat}{k:Kind}{xs:List k.T}(hk:KC B (.list k) xs [pl o]) :
  ∀ (s:SV) (v:Value),SR P B pl tb s v->SR P B pl tb (s.frz o k xs) v
 |.any,_,_=>trivial
 |.val k' x,v,h=>by simp only[SV.frz];exact h
 |.bid n c,v,h=>by simp only[SV.frz];exact h
 |.grd gs s,v,h=>by simp only[SV.frz,SR] at h |-;refine⟨⟨h.1.1,?_⟩,λhg=>SR.frz hk s v (h.2.1 hg),h.2.2⟩;have h2:=h.1.2;cases s<;>first|exact h2|trivial|(simp only[SV.frz];cases Nat.beq _ _<;>trivial)
 |.nilS,v,h|.nilP,v,h|.nilM,v,h|.nilF,v,h=>h
 |.lst o',v,h=>by
  by_cases e:o'=o
  .subst e;simp only[SV.frz,Nat.beq_refl,zg];simp only[SR] at h |-;rw[h.1];exact hk
  .simp only[SV.frz,Zs e,cond_false];exact h
 |.sub o' lo n sz,v,h=>by
  simp only[SV.frz];cases Nat.beq o' o with
  |true=>trivial
  |false=>exact h
 |.elp o' i off sz,v,h=>by
  simp only[SV.frz];cases Nat.beq o' o with
  |true=>trivial
  |false=>exact h
 |.box o' off,v,h=>by
  simp only[SV.frz];cases Nat.beq o' o with
  |true=>trivial
  |false=>exact h
 |.map o',v,h=>by
  simp only[SV.frz];cases Nat.beq o' o with
  |true=>trivial
  |false=>exact h
 |.dd o' w,v,h=>by
  simp only[SV.frz];cases Nat.beq o' o with
  |true=>trivial
  |false=>exact h
 |.rop k l i off,v,h=>by simp only[SV.frz];exact h
 |.cp l off,v,h=>by simp only[SV.frz,SR] at h |-;obtain⟨b,c,e,wr,t,h1,h2,h3⟩:=h;exact⟨b,c,e,wr,t,h1,h2,SRs.frz hk l c h3⟩
 |.agg l,v,h=>by simp only[SV.frz,SR] at h |-;obtain⟨cs,h1,h2⟩:=h;exact⟨cs,h1,SRs.frz hk l cs h2⟩
 |.tup l,v,h=>by simp only[SV.frz,SR] at h |-;obtain⟨cs,h1,h2⟩:=h;exact⟨cs,h1,SRs.frz hk l cs h2⟩
 |.fn f a b,v,h=>by simp only[SV.frz,SR] at h |-;obtain⟨x,y,h1,h2,h3⟩:=h;exact⟨x,y,h1,SRs.frz hk a x h2,SRs.frz hk b y h3⟩
 |.pf ks r cS p,v,h=>by simp only[SV.frz];exact h
theorem SRs.frz {B:Heap}{pl:Nat->Value}{tb:Nat->Option Bool}{o:Nat}{k:Kind}{xs:List k.T}(hk:KC B (.list k) xs [pl o]) :
  ∀ (s:List SV) (v:List Value),SRs P B pl tb s v->SRs P B pl tb (SVs.frz o k xs s) v
 |[],v,h=>h
 |s::ss,v,h=>by simp only[SVs.frz,SRs] at h |-;obtain⟨x,y,h1,h2,h3⟩:=h;exact⟨x,y,h1,SR.frz hk s x h2,SRs.frz hk ss y h3⟩
end
theorem SRs.length {B:Heap}{pl:Nat->Value}{tb:Nat->Option Bool}:∀ {s:List SV}{v:List Value},SRs P B pl tb s v->s.length=v.length
 |[],v,h=>by simp only[SRs] at h;subst h;rfl
 |s::ss,v,h=>by simp only[SRs] at h;obtain⟨x,y,rfl,_,h3⟩:=h;simp[SRs.length h3]
theorem SRs.get {B:Heap}{pl:Nat->Value}{tb:Nat->Option Bool}:∀ {s:List SV}{v:List Value},SRs P B pl tb s v->∀ {i:Nat}{a:SV},s[i]?=some a->∃ c,v[i]?=some c/\SR P B pl tb a c
 |[],v,h,i,a,hi=>by simp at hi
 |s::ss,v,h,i,a,hi=>by
  simp only[SRs] at h;obtain⟨x,y,rfl,h2,h3⟩:=h;cases i with
  |zero=>simp at hi;subst hi;exact⟨x,rfl,h2⟩
  |succ i=>simp at hi;simpa using SRs.get h3 hi
theorem SRs.of {B:Heap}{pl:Nat->Value}{tb:Nat->Option Bool}:∀ {s:List SV}{v:List Value},s.length=v.length->(∀ (i:Nat) (a:SV) (c:Value),s[i]?=some a->v[i]?=some c->SR P B pl tb a c)->SRs P B pl tb s v
 |[],v,hl,_=>by simp only[SRs];exact zW.1 (by simpa using hl.symm)
 |s::ss,[],hl,_=>by simp at hl
 |s::ss,x::y,hl,h=>by simp only[SRs];exact⟨x,y,rfl,h 0 s x rfl rfl,SRs.of (by simpa using hl) λi a c ha hc=>h (i+1) a c (by simpa using ha) (by simpa using hc)⟩
theorem SRs.getD {B:Heap}{pl:Nat->Value}{tb:Nat->Option Bool}{s:List SV}{v:List Value}(h:SRs P B pl tb s v) (i:Nat) (d:Value):SR P B pl tb (s.getD i .any) (v.getD i d):=by
 by_cases hi:i<s.length
 .obtain⟨c,h1,h2⟩:=h.get (z3 hi);rw[z4,z4,h1,z3 hi];exact h2
 .rw[z4,zj (by omega)];simp[SR]
theorem SRs.set {B:Heap}{pl:Nat->Value}{tb:Nat->Option Bool}{s:List SV}{v:List Value}(h:SRs P B pl tb s v) (i:Nat) {a:SV}{c:Value}(ha:SR P B pl tb a c):SRs P B pl tb (s.set i a) (v.set i c):=by
 refine SRs.of (by simp[h.length]) λj a' c' h1 h2=>?_;rw[xu] at h1 h2;by_cases bY:i=j
 .subst bY;simp only[zx] at h1 h2;split at h1<;>split at h2<;>simp at h1 h2;subst h1;subst h2;exact ha
 .simp only[bY,if_false] at h1 h2;obtain⟨c,h3,h4⟩:=h.get h1;rw[h3] at h2;obtain rfl:=osj h2;exact h4
theorem SRs.append {B:Heap}{pl:Nat->Value}{tb:Nat->Option Bool}:∀ {s:List SV}{v:List Value}{s':List SV}{v':List Value},SRs P B pl tb s v->SRs P B pl tb s' v'->SRs P B pl tb (s++s') (v++v')
 |[],v,s',v',h,h'=>by simp only[SRs] at h;subst h;exact h'
 |s::ss,v,s',v',h,h'=>by simp only[SRs,zY] at h |-;obtain⟨x,y,rfl,h2,h3⟩:=h;exact⟨x,y++v',rfl,h2,SRs.append h3 h'⟩
theorem SRs.take {B:Heap}{pl:Nat->Value}{tb:Nat->Option Bool}:∀ {s:List SV}{v:List Value},SRs P B pl tb s v->∀ n,SRs P B pl tb (s.take n) (v.take n)
 |[],v,h,n=>by simp only[SRs] at h;subst h;simp[SRs]
 |s::ss,v,h,0=>by simp[SRs]
 |s::ss,v,h,n+1=>by simp only[SRs] at h;obtain⟨x,y,rfl,h2,h3⟩:=h;simp only[wb,SRs];exact⟨x,_,rfl,h2,SRs.take h3 n⟩
theorem SRs.drop {B:Heap}{pl:Nat->Value}{tb:Nat->Option Bool}:∀ {s:List SV}{v:List Value},SRs P B pl tb s v->∀ n,SRs P B pl tb (s.drop n) (v.drop n)
 |[],v,h,n=>by simp only[SRs] at h;subst h;simp[SRs]
 |s::ss,v,h,0=>by simpa using h
 |s::ss,v,h,n+1=>by simp only[SRs] at h;obtain⟨x,y,rfl,h2,h3⟩:=h;simpa using SRs.drop h3 n
theorem SRs.map {B:Heap}{pl:Nat->Value}{tb:Nat->Option Bool}{α:Type}{f:α->SV}{g:α->Value}:∀ {l:List α},(∀ x∈l,SR P B pl tb (f x) (g x))->SRs P B pl tb (l.map f) (l.map g)
 |[],_=>by simp[SRs]
 |x::l,h=>by simp only[zF,SRs];exact⟨_,_,rfl,h x (by simp),SRs.map λy hy=>h y (by simp[hy])⟩
def OB.live:OB->Bool
 |.dead=>false
 |.stk _ _=>false
 |.lpf _ _ s=>s.live
 |_=>true
def oid:Value->Option Nat
 |.slice (some a) _ _=>some a.block
 |.pointer (some a)=>some a.block
 |.map m=>m
 |_=>none
def Oid (p:Value) (i:Nat):Prop:=match p with
 |.tuple l=>∃ b,(Xl (.tuple l)).get i=some b
 |v=>oid v=some i
theorem DE {p:Value}{i:Nat}(h:oid p=some i):Oid p i:=by cases p<;>first|exact h|cases h
theorem FD {p:Value}{n i:Nat}(hp:oid p=some n) (hi:Oid p i):i=n:=by cases p<;>first|exact osj (hi.symm.trans hp)|cases hp
def RowsH {α:Type}(R:α->List Value->List Nat->Prop) (sz:Nat) (h:Option Nat):Nat->List α->List Value->List Nat->Prop
 |_,[],cs,is=>cs=[]/\is=[]
 |j,x::xs,cs,is=>∃ c cs' i1 i2,cs=c++cs'/\is=i1++i2/\(if h=some j then c.length=sz/\i1=[] else R x c i1)/\RowsH R sz h (j+1) xs cs' i2
def DO (H:Heap) (ty:Nat) (q:Option Nat) (k:Kind) (xs:List k.T) (h:Option Nat) (v:Value) (is:List Nat):Prop :=
 (xs=[]/\v=.slice none 0 0/\is=[])\/∃ i cap c t js,v=.slice (some ⟨i,0,none⟩) xs.length cap/\is=i::js/\xs.length<=cap/\H.get i=some (.cells c ⟨k.size,ty⟩ true t)/\cap*k.size<=c.length /\
  RowsH (KO H q k) k.size h 0 xs (c.take (xs.length*k.size)) js
def DP (M:Heap) (p:Value) (ty:Nat) (q:Option Nat) (k:Kind) (xs:List k.T) (nl:Bool) (h:Option Nat):Prop :=
 ∃ is,(∀ i,Oid p i<->∃ b,(Xl p).get i=some b)/\is.Nodup/\DO (Xl p) ty q k xs h (phd p) is/\(∀ i,(∃ b,(Xl p).get i=some b)<->i∈is)/\(∀ i b,(Xl p).get i=some b->M.get i=some b)/\(nl=true<->phd p=.slice none 0 0)
theorem DP.mono {M M':Heap}{p:Value}{ty:Nat}{q:Option Nat}{k:Kind}{xs:List k.T}{nl:Bool}{h:Option Nat}(hd:DP M p ty q k xs nl h) (hg:∀ i,Oid p i->M'.get i=M.get i):DP M' p ty q k xs nl h:=by obtain⟨is,hO,h1,h2,h3,h4,h5⟩:=hd;exact⟨is,hO,h1,h2,h3,λi b hb=>by rw[hg i ((hO i).2 ⟨b,hb⟩)];exact h4 i b hb,h5⟩
def MR (B:Heap) (kk vk:Kind):List (kk.T×vk.T)->List Jo->Prop
 |[],es=>es=[]
 |m::ms,es=>∃ e bS,es=e::bS/\KV B kk m.1 e.1/\KV B vk m.2 e.2.1/\MR B kk vk ms bS
def SOk (es:List Jo) (clock:Nat):Prop:=(es.map λe=>e.2.2).Nodup/\∀ e∈es,e.2.2<clock
def MC (B:Heap) (kk vk:Kind) (m:List (kk.T×vk.T)) (es:List Jo) (clock:Nat):Prop:=MR B kk vk m es/\SOk es clock
def DN (es:List Jo) (dn seen:List Nat):Prop:=seen.length=dn.length/\∀ (t r:Nat),dn[t]?=some r->∃ e,es[r]?=some e/\seen[t]?=some e.2.2
def OR (P:Program) (B:Heap) (pl:Nat->Value) (tb:Nat->Option Bool) (M:Heap) (p:Value):OB->Prop
 |.dead=>True
 |.lst ty k xs nl=>(nl=true/\xs=[]/\p=.slice none 0 0)\/(nl=false/\∃ i cap c t,p=.slice (some ⟨i,0,none⟩) xs.length cap/\xs.length<=cap/\M.get i=some (.cells c ⟨k.size,ty⟩ true t)/\cap*k.size<=c.length/\Rows (KC B k) xs (c.take (xs.length*k.size)))
 |.cells l u=>∃ i c e t,p=.pointer (some ⟨i,0,none⟩)/\M.get i=some (.cells c e true t)/\SRs P B pl tb l c/\(∀ y,u=some y->e.ty=y/\t=true)
 |.map kk vk m=>∃ i es clock,p=.map (some i)/\M.get i=some (.obj (.map es clock) true)/\MC B kk vk m es clock
 |.iter kk vk m dn=>∃ j i es clock wr seen,p=.pointer (some ⟨j,0,none⟩)/\M.get j=some (.obj (.iter i clock seen clock) true)/\B.get i=some (.obj (.map es clock) wr)/\MC B kk vk m es clock/\DN es dn seen
 |.mapE kk vk m key n=>∃ i es clock,∃ r:Nat,∃ e:Jo,p=.map (some i)/\M.get i=some (.obj (.map es clock) true)/\MC B kk vk m es clock/\es[r]?=some e/\KV B kk key e.1/\Qf e.1 es=some e/\(e.2.2:Int)=n/\∃ mk,gq.mkOk mk kk=true
 |.stk l vals=>SRs P B pl tb l vals
 |.deep ty q k xs nl h=>DP M p ty q k xs nl h
 |.lpf l q s=>p=.pointer (some ⟨q.i,0,none⟩)/\SRs P B pl tb l q.vals/\(s.live=true->M.get q.i=some (.obj (.lp q.vals q.r s.st s.pend) true))
theorem MR.mono {B B':Heap}(hB:B.Le B') {kk vk:Kind}:∀ {m:List (kk.T×vk.T)}{es:List Jo},MR B kk vk m es->MR B' kk vk m es
 |[],es,h=>h
 |m::ms,es,h=>by obtain⟨e,bS,h1,h2,h3,h4⟩:=h;exact⟨e,bS,h1,h2.mono hB,h3.mono hB,h4.mono hB⟩
theorem MC.mono {B B':Heap}(hB:B.Le B') {kk vk:Kind}{m:List (kk.T×vk.T)}{es:List Jo}{clock:Nat}(h:MC B kk vk m es clock):MC B' kk vk m es clock:=⟨h.1.mono hB,h.2⟩
theorem OR.upd {B B':Heap}{pl pl':Nat->Value}{tb tb':Nat->Option Bool}{o:Nat}(hB:B.Le B') (ht:∀ n c,tb n=some c->tb' n=some c) (hp:∀ d,d≠o->pl' d=pl d) {M M':Heap}{p:Value}{b:OB}
  (h:OR P B pl tb M p b) (hg:b.live=true->∀ i,Oid p i->M'.get i=M.get i):OR P B' pl' tb' M' p (b.kill o):=by
 cases b with
 |dead=>trivial
 |lst ty k xs nl =>
  rcases h with h|⟨h0,i,cap,c,t,h1,h2,h3,h4,h5⟩
  .exact .inl h
  .exact .inr ⟨h0,i,cap,c,t,h1,h2,by rw[hg rfl i (by rw[h1];rfl)];exact h3,h4,h5.mono λ_ _=>KC.mono hB⟩
 |cells l u =>obtain⟨i,c,e,t,h1,h2,h3,h4⟩:=h;exact⟨i,c,e,t,h1,by rw[hg rfl i (by rw[h1];rfl)];exact h2,SRs.upd hB ht hp l c h3,h4⟩
 |map kk vk m =>obtain⟨i,es,clock,h1,h2,h3⟩:=h;exact⟨i,es,clock,h1,by rw[hg rfl i (by rw[h1];rfl)];exact h2,h3.mono hB⟩
 |mapE kk vk m key n =>obtain⟨i,es,clock,r,e,h1,h2,h3,h4,h5,h6⟩:=h;exact⟨i,es,clock,r,e,h1,by rw[hg rfl i (by rw[h1];rfl)];exact h2,h3.mono hB,h4,h5.mono hB,h6⟩
 |stk l vals=>exact SRs.upd hB ht hp l vals h
 |deep ty q k xs nl hh=>exact DP.mono h (hg rfl)
 |iter kk vk m dn =>obtain⟨j,i,es,clock,wr,seen,h1,h2,h3,h4,h5⟩:=h;exact⟨j,i,es,clock,wr,seen,h1,by rw[hg rfl j (by rw[h1];rfl)];exact h2,hB.2 _ _ h3,h4.mono hB,h5⟩
 |lpf l q s=>exact⟨h.1,SRs.upd hB ht hp l q.vals h.2.1,λhl=>by rw[hg hl q.i (by rw[h.1];rfl)];exact h.2.2 hl⟩
theorem OR.mono {B B':Heap}{pl:Nat->Value}{tb tb':Nat->Option Bool}(hB:B.Le B') (ht:∀ n c,tb n=some c->tb' n=some c) {M M':Heap}{p:Value}{b:OB}
  (h:OR P B pl tb M p b) (hg:b.live=true->∀ i,Oid p i->M'.get i=M.get i):OR P B' pl tb' M' p b:=by
 cases b with
 |dead=>trivial
 |lst ty k xs nl =>
  rcases h with h|⟨h0,i,cap,c,t,h1,h2,h3,h4,h5⟩
  .exact .inl h
  .exact .inr ⟨h0,i,cap,c,t,h1,h2,by rw[hg rfl i (by rw[h1];rfl)];exact h3,h4,h5.mono λ_ _=>KC.mono hB⟩
 |cells l u =>obtain⟨i,c,e,t,h1,h2,h3,h4⟩:=h;exact⟨i,c,e,t,h1,by rw[hg rfl i (by rw[h1];rfl)];exact h2,SRs.mono hB ht l c h3,h4⟩
 |map kk vk m =>obtain⟨i,es,clock,h1,h2,h3⟩:=h;exact⟨i,es,clock,h1,by rw[hg rfl i (by rw[h1];rfl)];exact h2,h3.mono hB⟩
 |mapE kk vk m key n =>obtain⟨i,es,clock,r,e,h1,h2,h3,h4,h5,h6⟩:=h;exact⟨i,es,clock,r,e,h1,by rw[hg rfl i (by rw[h1];rfl)];exact h2,h3.mono hB,h4,h5.mono hB,h6⟩
 |stk l vals=>exact SRs.mono hB ht l vals h
 |deep ty q k xs nl hh=>exact DP.mono h (hg rfl)
 |iter kk vk m dn =>obtain⟨j,i,es,clock,wr,seen,h1,h2,h3,h4,h5⟩:=h;exact⟨j,i,es,clock,wr,seen,h1,by rw[hg rfl j (by rw[h1];rfl)];exact h2,hB.2 _ _ h3,h4.mono hB,h5⟩
 |lpf l q s=>exact⟨h.1,SRs.mono hB ht l q.vals h.2.1,λhl=>by rw[hg hl q.i (by rw[h.1];rfl)];exact h.2.2 hl⟩
theorem Qi (own:Own) (d:Nat) (b:OB) (d':Nat):Q8 (oset own d b) d'=if d'=d then b else Q8 own d':=by
 induction own with
 |nil =>
  simp only[oset,Q8];by_cases h:d'=d
  .subst h;simp
  .rw[z1 h,Zs λe=>h e.symm];rfl
 |cons p r ih =>
  obtain⟨k,c⟩:=p;simp only[oset];by_cases h1:k=d
  .subst h1;simp only[Nat.beq_refl,zg,Q8];by_cases h:d'=k
   .subst h;simp
   .rw[z1 h,Zs λe=>h e.symm];rfl
  .rw[Zs h1,cond_false];cases Nat.blt d k with
   |true =>
    simp only[zg,Q8];by_cases h:d'=d
    .subst h;simp
    .rw[z1 h,Zs λe=>h e.symm];rfl
   |false =>
    simp only[cond_false,Q8,ih];by_cases h:k=d'
    .subst h;simp[h1]
    .rw[Zs h];rfl
theorem Vs (own:Own) (o d:Nat):Q8 (Es o own) d=if d=o then .dead else (Q8 own d).kill o:=by
 induction own with
 |nil=>simp[Es,Q8,OB.kill]
 |cons p r ih =>
  obtain⟨k,c⟩:=p;simp only[Es];by_cases h1:k=o
  .subst h1;simp only[Nat.beq_refl,zg,ih,Q8];by_cases h:d=k
   .simp[h]
   .rw[z1 h,z1 h,Zs λe=>h e.symm];rfl
  .rw[Zs h1,cond_false];simp only[Q8,ih];by_cases h:k=d
   .subst h;simp[h1]
   .rw[Zs h];simp
theorem OR.frz {B:Heap}{pl:Nat->Value}{tb:Nat->Option Bool}{o:Nat}{k:Kind}{xs:List k.T}(hk:KC B (.list k) xs [pl o]) {M:Heap}{p:Value}{b:OB}
  (h:OR P B pl tb M p b):OR P B pl tb M p (b.frz o k xs):=by
 cases b with
 |cells l u =>obtain⟨i,c,e,t,h1,h2,h3,h4⟩:=h;exact⟨i,c,e,t,h1,h2,SRs.frz hk l c h3,h4⟩
 |stk l vals=>exact SRs.frz hk l vals h
 |lpf l q s=>exact⟨h.1,SRs.frz hk l q.vals h.2.1,h.2.2⟩
 |_=>exact h
theorem FV (own:Own) (o:Nat) (k:Kind) (xs:List k.T) (d:Nat):Q8 (OU o k xs own) d=if d=o then .dead else (Q8 own d).frz o k xs:=by
 induction own with
 |nil=>simp[OU,Q8,OB.frz]
 |cons p r ih =>
  obtain⟨j,c⟩:=p;simp only[OU];by_cases h1:j=o
  .subst h1;simp only[Nat.beq_refl,zg,ih,Q8];by_cases h:d=j
   .simp[h]
   .rw[z1 h,z1 h,Zs λe=>h e.symm];rfl
  .rw[Zs h1,cond_false];simp only[Q8,ih];by_cases h:j=d
   .subst h;simp[h1]
   .rw[Zs h];simp
theorem OB.q2a (b:OB) (o:Nat) (k:Kind) (xs:List k.T):(b.frz o k xs).live=b.live:=by cases b<;>rfl
structure Gam (P:Program) (B F:Heap) (pl:Nat->Value) (tb:Nat->Option Bool) (s:St) (env:Env) (M:Heap):Prop where
 bf:B.Le F
 le:F.Le M
 env:SRs P B pl tb s.env env
 obj:∀ d,OR P B pl tb M (pl d) (Q8 s.own d)
 fresh:∀ d i,(Q8 s.own d).live=true->Oid (pl d) i->F.get i=none
 sep:∀ d d' i,d≠d'->(Q8 s.own d).live=true->(Q8 s.own d').live=true->Oid (pl d) i->Oid (pl d') i->False
 free:∀ n,s.nx<=n->tb n=none
theorem Gam.leB {B F:Heap}{pl:Nat->Value}{tb:Nat->Option Bool}{s:St}{env:Env}{M:Heap}(h:Gam P B F pl tb s env M):B.Le M:=h.bf.trans h.le
def Jv (pl:Nat->Value) (d:Nat) (p:Value):Nat->Value:=λj=>if j=d then p else pl j
theorem OB.q0s (b:OB) (o:Nat):(b.kill o).live=b.live:=by cases b<;>rfl
theorem Gam.make {B F:Heap}{pl:Nat->Value}{tb:Nat->Option Bool}{s:St}{env:Env}{M M':Heap}(h:Gam P B F pl tb s env M) (d:Nat) (b:OB) (p:Value) (hle:F.Le M')
  (cQ:∀ j i,j≠d->(Q8 s.own j).live=true->Oid (pl j) i->M'.get i=M.get i) (hb:OR P B (Jv pl d p) tb M' p b)
  (bc:∀ i,b.live=true->Oid p i->F.get i=none/\∀ j,j≠d->(Q8 s.own j).live=true->¬ Oid (pl j) i):Gam P B F (Jv pl d p) tb (s.make d b) env M':=by
 have hp:∀ j,j≠d->Jv pl d p j=pl j:=λj hj=>by simp[Jv,hj]
 have hg:∀ j,Q8 (s.make d b).own j=if j=d then b else (Q8 s.own j).kill d:=λj=>by simp only[St.make,St.kill,Qi,Vs];split<;>rfl
 refine⟨h.bf,hle,SRs.upd (Heap.Le.refl B) (λ_ _ h=>h) hp _ _ h.env,λj=>?_,λj i hl hi=>?_,λj j' i av hl ck hi cF=>?_,h.free⟩
 .rw[hg];by_cases hj:j=d
  .subst hj;rw[z0 rfl];simpa [Jv] using hb
  .rw[z1 hj,hp j hj];exact(h.obj j).upd (Heap.Le.refl B) (λ_ _ h=>h) hp λhl i hi=>cQ j i hj hl hi
 .rw[hg] at hl;by_cases hj:j=d
  .subst hj;rw[z0 rfl] at hl;simp only[Jv,zx] at hi;exact(bc i hl hi).1
  .rw[z1 hj,OB.q0s] at hl;rw[hp j hj] at hi;exact h.fresh j i hl hi
 .rw[hg] at hl ck;by_cases hj:j=d
  .subst hj;rw[z0 rfl] at hl;have dw:j'≠j:=λe=>av e.symm;rw[z1 dw,OB.q0s] at ck;rw[hp j' dw] at cF;simp only[Jv,zx] at hi;exact(bc i hl hi).2 j' dw ck cF
  .rw[z1 hj,OB.q0s] at hl;rw[hp j hj] at hi;by_cases dw:j'=d
   .subst dw;rw[z0 rfl] at ck;simp only[Jv,zx] at cF;exact(bc i ck cF).2 j hj hl hi
   .rw[z1 dw,OB.q0s] at ck;rw[hp j' dw] at cF;exact h.sep j j' i av hl ck hi cF
theorem Gam.write {B F:Heap}{pl:Nat->Value}{tb:Nat->Option Bool}{s:St}{env:Env}{M M':Heap}(h:Gam P B F pl tb s env M) (d:Nat) (b:OB) (hle:F.Le M') (al:(Q8 s.own d).live=true)
  (cQ:∀ j i,j≠d->(Q8 s.own j).live=true->Oid (pl j) i->M'.get i=M.get i) (hb:OR P B pl tb M' (pl d) b):Gam P B F pl tb ⟨s.env,oset s.own d b,s.nx⟩ env M':=by
 refine⟨h.bf,hle,h.env,λj=>?_,λj i hl hi=>?_,λj j' i av hl ck hi cF=>?_,h.free⟩
 .simp only[Qi];by_cases hj:j=d
  .subst hj;rw[z0 rfl];exact hb
  .rw[z1 hj];exact(h.obj j).mono (Heap.Le.refl B) (λ_ _ h=>h) λhl i hi=>cQ j i hj hl hi
 .simp only[Qi] at hl;by_cases hj:j=d
  .subst hj;exact h.fresh j i al hi
  .rw[z1 hj] at hl;exact h.fresh j i hl hi
 .simp only[Qi] at hl ck;have k1:(Q8 s.own j).live=true:=by
   by_cases hj:j=d
   .subst hj;exact al
   .rwa [z1 hj] at hl
  have k2:(Q8 s.own j').live=true:=by
   by_cases hj:j'=d
   .subst hj;exact al
   .rwa [z1 hj] at ck
  exact h.sep j j' i av k1 k2 hi cF
theorem Gam.put {B F:Heap}{pl:Nat->Value}{tb:Nat->Option Bool}{s:St}{env:Env}{M:Heap}(h:Gam P B F pl tb s env M) (d:Option Nat) {v:SV}{u:Value}(hv:SR P B pl tb v u):Gam P B F pl tb (s.put d v) (X7 env d u) M:=by
 cases d with
 |none=>exact h
 |some d=>exact⟨h.bf,h.le,h.env.set d hv,h.obj,h.fresh,h.sep,h.free⟩
end
end Go.V
namespace Go.V
open Go
section
variable {P:Program}{B:Heap}{pl:Nat->Value}{tb:Nat->Option Bool}{own:Own}{M:Heap}
theorem J7 {s:SV}{v:Value}{k:IntKind}{x:Int}(h:asI s=some (k,x)) (hs:SR P B pl tb s v):v=.int k x:=by
 unfold asI at h;split at h
 .obtain⟨rfl,rfl⟩:=(by simpa using h:_=k/\_=x);simp only[SR,KC] at hs;simpa using hs
 .cases h
theorem XF {s:SV}{v:Value}{x:Bool}(h:asB s=some x) (hs:SR P B pl tb s v):v=.bool x:=by
 unfold asB at h;split at h
 .obtain rfl:=osj h;simp only[SR,KC] at hs;simpa using hs
 .obtain rfl:=osj h;simp only[SR] at hs;exact hs.1
 .cases h
theorem V_ {s:SV}{v:Value}{x:List UInt8}(h:asS s=some x) (hs:SR P B pl tb s v):v=.string ⟨x.toArray⟩:=by
 unfold asS at h;split at h
 .obtain rfl:=osj h;simp only[SR,KC] at hs;simpa using hs
 .cases h
theorem XL {k k':Kind}{l:List k.T}{l':List k'.T}(h:NS l k'=some l'):k=k':=by
 unfold NS at h;split at h
 .assumption
 .cases h
theorem XH {k:Kind}{l l':List k.T}(h:NS l k=some l'):l'=l:=by unfold NS at h;rw[dif_pos rfl] at h;exact(osj h).symm
theorem TG {k k':Kind}{x:k.T}{x':k'.T}(h:Ip x k'=some x'):k=k':=by
 unfold Ip at h;split at h
 .assumption
 .cases h
theorem TX {k:Kind}{x x':k.T}(h:Ip x k=some x'):x'=x:=by unfold Ip at h;rw[dif_pos rfl] at h;exact(osj h).symm
theorem GJ (v:Value):SR P B pl tb (cvp v) v:=by unfold cvp;split<;>simp[SR,KC]
theorem Q0j (v:Value):SR P B pl tb (cv v) v:=by
 unfold cv;split
 .rename_i cs;simp only[SR];refine⟨cs.toList,by simp,?_⟩;have:SRs P B pl tb (cs.toList.map cvp) (cs.toList.map id):=SRs.map λx _=>GJ x;simpa using this
 .exact GJ v
def Gds (tb:Nat->Option Bool) (gs:List Gd):Prop:=∀ g∈gs,g.c=g.want/\tb g.id=some g.c
theorem Ea {a b:List Gd}(h:Q5y a b=true) (hb:Gds tb b) (ha:∀ g∈a,tb g.id=some g.c):∀ g∈a,g.c=g.want:=by
 induction b generalizing a with
 |nil=>cases a with
  |nil=>intro g hg;cases hg
  |cons x a=>simp[Q5y] at h
 |cons y b ih =>
  cases a with
  |nil=>intro g hg;cases hg
  |cons x a =>
   have cu:Gds tb b:=λg hg=>hb g (z9 _ hg);simp only[Q5y] at h;cases hc:(Nat.beq x.id y.id&&(x.want==y.want)) with
   |true =>
    rw[hc] at h;simp only[zg] at h;simp only[z2,zS] at hc;have e1:=zH hc.1;intro g hg;rcases zf.1 hg with rfl|hg
    .have h1:=ha g (by simp);have h2:=hb y (by simp);rw[e1] at h1;rw[h2.2] at h1;obtain e:=osj h1;rw[<-e,h2.1,hc.2]
    .exact ih h cu (λg hg=>ha g (z9 _ hg)) g hg
   |false =>rw[hc] at h;exact ih h cu ha
theorem L3 {gs:List Gd}(hg:Gds tb gs) {s:SV}{v:Value}(h:SR P B pl tb s v):SR P B pl tb (Oa gs s) v:=by
 unfold Oa;split
 .rename_i g s;simp only[SR] at h;cases hs:Q5y g gs with
  |true=>exact h.2.1 (Ea hs hg h.1.1)
  |false=>trivial
 .exact h
theorem EZ {gs:List Gd}(hg:Gds tb gs) {env:List SV}{ob:Env}(h:SRs P B pl tb env ob) (x:Operand):SR P B pl tb (gev gs env x) (Q3 ob x):=by
 cases x with
 |tmp t=>exact L3 hg (h.getD t undef)
 |const v=>exact Q0j v
 |global g=>trivial
 |func f=>simp only[gev,Q3,SR,SRs];exact⟨[],[],rfl,rfl,rfl⟩
theorem Yl {h:Heap}:∀ {k:Kind}{x:k.T}{cs:List Value},KC h k x cs->SRs P h pl tb (Nq k x) cs
 |.i ik,x,cs,e=>by simp only[KC] at e;subst e;simp[Nq,SRs,SR,KC]
 |.bo,x,cs,e=>by simp only[KC] at e;subst e;simp[Nq,SRs,SR,KC]
 |.st,x,cs,e=>by simp only[KC] at e;subst e;simp[Nq,SRs,SR,KC]
 |.list k,l,cs,e=>by obtain⟨v,rfl,hs⟩:=e;simp only[Nq,SRs,SR];exact⟨v,[],rfl,⟨v,rfl,hs⟩,rfl⟩
 |.pair a b,x,cs,e=>by obtain⟨c1,c2,rfl,h1,h2⟩:=e;exact(Yl h1).append (Yl h2)
theorem X4 {h:Heap}{k:Kind}{x:k.T}{v:Value}(e:KV h k x v):SR P h pl tb (IF k x) v:=by
 cases k with
 |pair a b =>
  rcases e with⟨h1,_⟩|⟨_,cs,rfl,e⟩
  .cases h1
  .simp only[IF,SR];exact⟨cs,rfl,Yl e⟩
 |i k|bo|st|list k =>
  rcases e with⟨_,e⟩|⟨h1,_⟩
  .simpa only [IF,SR] using e
  .cases h1
theorem Jj {l:List SV}{c:List Value}(h:SRs P B pl tb l c) {agg:Bool}{size off:Nat}{v:SV}(hv:BI agg size l off=some v):∃ u,WA agg size c off=some u/\SR P B pl tb v u:=by
 cases agg with
 |true =>
  simp only[BI,zg] at hv;split at hv
  .rename_i hle;obtain rfl:=osj hv;rw[h.length] at hle;refine⟨.agg ((c.drop off).take size).toArray,by simp only[WA,zx,hle],?_⟩;simp only[SR];exact⟨_,rfl,(h.drop off).take size⟩
  .cases hv
 |false =>simp only[BI,zO] at hv;obtain⟨u,h1,h2⟩:=h.get hv;exact⟨u,by simpa [WA] using h1,h2⟩
theorem NW {agg:Bool}{size off n m i:Nat}{c:List Value}{u:Value}(aX:off+size<=n) (hs:0<size) (h:WA agg size (((c.take m).drop (i*n)).take n) off=some u) (hl:i*n+n<=m):WA agg size c (i*n+off)=some u:=by
 cases agg with
 |true =>
  simp only[WA,zx] at h |-;split at h
  .rename_i hle;simp only[xV,xM] at hle;rw[z0 (by omega)];obtain rfl:=osj h;congr 3;apply zT;intro j;simp only[zL,zw];split
   .rw[z0 (by omega),z0 (by omega),zk]
   .rfl
  .cases h
 |false =>simp only[WA,zA,if_false] at h |-;simp only[zL,zw] at h;rw[z0 (by omega),z0 (by omega)] at h;exact h
theorem KC.q0f {h:Heap}{k:Kind}:∀ (x:k.T) (c:List Value),KC h k x c->c.length=k.size:=λ_ _ e=>KC.length e
theorem KC.flat {h h':Heap}:∀ {k:Kind}{x:k.T}{cs:List Value},k.flat=true->KC h k x cs->KC h' k x cs
 |.i _,_,_,_,e|.bo,_,_,_,e|.st,_,_,_,e=>e
 |.list _,_,_,f,_=>by cases f
 |.pair a b,x,cs,f,e=>by simp only[Kind.flat,z2] at f;obtain⟨c1,c2,hc,h1,h2⟩:=e;exact⟨c1,c2,hc,KC.flat f.1 h1,KC.flat f.2 h2⟩
theorem KV.flat {h h':Heap}{k:Kind}{x:k.T}{v:Value}(e:KV h k x v) (f:k.flat=true):KV h' k x v:=by
 rcases e with⟨ho,e⟩|⟨ho,cs,hv,e⟩
 .exact .inl ⟨ho,KC.flat f e⟩
 .exact .inr ⟨ho,cs,hv,KC.flat f e⟩
theorem KO.kc {H:Heap}:∀ {k:Kind}{q:Option Nat}{x:k.T}{cs:List Value}{is:List Nat},KO H q k x cs is->KC H k x cs
 |.i _,_,_,_,_,h=>by simp only[KO] at h;exact h.1
 |.bo,_,_,_,_,h=>by simp only[KO] at h;exact h.1
 |.st,_,_,_,_,h=>by simp only[KO] at h;exact h.1
 |.list k,q,l,cs,is,h=>by
  simp only[KO] at h;rcases h with⟨rfl,rfl,_⟩|⟨i,cap,c,e,t,js,rfl,rfl,h1,h2,h3,_,h4,h5⟩
  .exact⟨_,rfl,.inl ⟨rfl,rfl⟩⟩
  .refine⟨_,rfl,.inr ⟨i,0,cap,c,e,true,t,rfl,h1,h2,h3,by have:=zm k.size h1;omega,?_⟩⟩;rw[zX];have key:∀ {xs:List k.T}{cs:List Value}{js:List Nat},RowsO (λx c is=>KO H none k x c is) xs cs js->Rows (λx c=>KC H k x c) xs cs:=λh=>by
    induction h with
    |nil=>exact .nil
    |cons h _ ih=>exact .cons (KO.kc (k:=k) h) ih
   exact key h5
 |.pair a b,_,x,cs,is,h=>by simp only[KO] at h;obtain⟨c1,c2,i1,i2,rfl,rfl,h1,h2⟩:=h;exact⟨c1,c2,rfl,h1.kc,h2.kc⟩
def Z34:Kind->List Value->Prop
 |.list _,cs=>∀ v,cs=[v]->∀ a n c,v=.slice (some a) n c->a.off=0
 |_,_=>True
theorem KO.koff {H:Heap}:∀ {k:Kind}{q:Option Nat}{x:k.T}{cs:List Value}{is:List Nat},KO H q k x cs is->Z34 k cs
 |.i _,_,_,_,_,_|.bo,_,_,_,_,_|.st,_,_,_,_,_|.pair _ _,_,_,_,_,_=>trivial
 |.list k,q,l,cs,is,h=>by
  simp only[KO] at h;intro v hv a n c' hs;rcases h with⟨_,rfl,_⟩|⟨i,cap,c,e,t,js,rfl,_⟩
  .obtain rfl:=(zN hv).1;cases hs
  .obtain rfl:=(zN hv).1;cases hs;rfl
theorem RowsH.rows {α:Type}{R:α->List Value->List Nat->Prop}{R':α->List Value->Prop}(hR:∀ x c is,R x c is->R' x c) {sz:Nat}:∀ {xs:List α}{j:Nat}{cs:List Value}{is:List Nat},RowsH R sz none j xs cs is->Rows R' xs cs
 |[],j,cs,is,h=>by obtain⟨rfl,_⟩:=h;exact .nil
 |x::xs,j,cs,is,h=>by obtain⟨c,cs',i1,i2,rfl,rfl,h1,h2⟩:=h;rw[z1 (by simp)] at h1;exact .cons (hR _ _ _ h1) (RowsH.rows hR h2)
theorem R6:∀ {l:List (Nat×Blk)}{p:Nat×Blk},p∈l->∃ b,RF l p.1=some b
 |(j,b)::r,p,h=>by
  by_cases e:p.1=j
  .exact⟨b,by simp only[RF,z0 e]⟩
  .rcases zf.1 h with rfl|h
   .exact absurd rfl e
   .obtain⟨b',h'⟩:=R6 h;exact⟨b',by simp only[RF,z1 e];exact h'⟩
theorem O3:∀ {l:List (Nat×Blk)}{n:Nat},(∀ p∈l,p.1<n)->Q6m l<=n
 |[],n,_=>Nat.zero_le _
 |(j,b)::r,n,h=>by have h1:=h (j,b) ze;have h2:=O3 (l:=r) (n:=n) λp hp=>h p (z9 _ hp);simp only[Q6m];simp only at h1;omega
theorem EX (p:Value):∃ l,Xl p=listH l:=by
 unfold Xl;split
 .exact⟨_,rfl⟩
 .exact⟨_,rfl⟩
theorem OZ {p:Value}{M:Heap}(h:∀ i b,(Xl p).get i=some b->M.get i=some b):(Xl p).Le M:=by obtain⟨l,e⟩:=EX p;rw[e] at h |-;refine⟨O3 λx hx=>?_,h⟩;obtain⟨b,hb⟩:=R6 hx;exact M.lt (h x.1 b hb)
theorem Cl:∀ (l:List Value) {i:Nat}{c:List Value}{e:El}{wr t:Bool},RF (Q90 l) i=some (.cells c e wr t)->wr=true
 |[],i,c,e,wr,t,h=>by cases h
 |v::vs,i,c,e,wr,t,h=>by
  unfold Q90 at h;split at h
  .rename_i q hq;obtain⟨j,b⟩:=q;simp only[RF] at h;split at h
   .obtain rfl:=osj h;unfold Z4o at hq;split at hq
    .cases hq;rfl
    .cases hq
   .exact Cl vs h
  .exact Cl vs h
theorem Q0n {p:Value}{i:Nat}{c:List Value}{e:El}{wr t:Bool}(h:(Xl p).get i=some (.cells c e wr t)):wr=true:=by
 unfold Xl at h;split at h
 .exact Cl _ h
 .cases h
theorem DP.le {M:Heap}{p:Value}{ty:Nat}{q:Option Nat}{k:Kind}{xs:List k.T}{nl:Bool}{h:Option Nat}(hd:DP M p ty q k xs nl h):(Xl p).Le M:=by obtain⟨is,_,_,_,_,h4,_⟩:=hd;exact OZ h4
theorem DP.sl {M:Heap}{p:Value}{ty:Nat}{q:Option Nat}{k:Kind}{xs:List k.T}{nl:Bool}(hd:DP M p ty q k xs nl none):SlRel (Xl p) k.size (KC (Xl p) k) xs (phd p):=by
 obtain⟨is,_,_,h2,_,_,_⟩:=hd;rcases h2 with⟨rfl,h,_⟩|⟨i,cap,c,t,js,h,_,h1,h3,h4,h5⟩
 .exact .inl ⟨rfl,h⟩
 .refine .inr ⟨i,0,cap,c,_,true,t,h,h1,h3,rfl,by have:=zm k.size h1;omega,?_⟩;rw[zX];exact h5.rows λ_ _ _ h=>h.kc
theorem DP.hd {M:Heap}{p:Value}{ty:Nat}{q:Option Nat}{k:Kind}{xs:List k.T}{nl:Bool}{h:Option Nat}(hd:DP M p ty q k xs nl h):∃ a cap,phd p=.slice a xs.length cap:=by
 obtain⟨is,_,_,h2,_,_,_⟩:=hd;rcases h2 with⟨rfl,h,_⟩|⟨i,cap,c,t,js,h,_⟩
 .exact⟨_,_,h⟩
 .exact⟨_,_,h⟩
theorem CW {H:Heap}{k:Kind}{l:List k.T}{v:Value}(h:KC H (.list k) l [v]) {j:Nat}(hj:j<l.length):∃ b o cap c e wr t,v=.slice (some ⟨b,o,none⟩) l.length cap/\H.get b=some (.cells c e wr t)/\o+l.length*k.size<=c.length/\Rows (KC H k) l ((c.drop o).take (l.length*k.size)):=by
 obtain⟨v',e,hs⟩:=h;obtain rfl:=(zN e).1;rcases hs with⟨rfl,_⟩|⟨b,o,cap,c,e',wr,t,h2,h3,h4,h5,h6,h7⟩
 .simp at hj
 .exact⟨b,o,cap,c,e',wr,t,h2,h4,h6,h7⟩
theorem P2 {p:Value}{k:Kind}{l:List k.T}{v:Value}(h:KC (Xl p) (.list k) l [v]):SlRel (Xl p) k.size (λx c=>KC (Xl p) k x c) l v:=by obtain⟨v',e,hs⟩:=h;obtain rfl:=(zN e).1;exact hs
theorem Y7 (hle:B.Le M) (aw:∀ d,OR P B pl tb M (pl d) (Q8 own d)) {k:Kind}{s:SV}{l:List k.T}{v:Value}(h:view own k s=some l) (hs:SR P B pl tb s v):SlRel M k.size (KC B k) l v:=by
 unfold view at h;split at h
 .obtain rfl:=osj h;simp only[SR] at hs;exact .inl ⟨rfl,hs⟩
 .rename_i k' l0;obtain rfl:=XL h;obtain rfl:=XH h;simp only[SR,KC] at hs;obtain⟨v',e,hs⟩:=hs;obtain rfl:=(zN e).1;exact hs.mono hle λ_ _ h=>h
 .rename_i o;have ho:=aw o;simp only[SR] at hs
  replace hs:=hs.1
  split at h
  .rename_i ty k' xs nl heq;obtain rfl:=XL h;obtain rfl:=XH h;rw[heq] at ho;rcases ho with⟨_,rfl,h2⟩|⟨_,i,cap,c,t,h1,h2,h3,h4,h5⟩
   .exact .inl ⟨rfl,by rw[hs,h2]⟩
   .refine .inr ⟨i,0,cap,c,_,true,t,by rw[hs,h1],h2,h3,rfl,?_,by simpa using h5⟩;have:=zm k'.size h2;omega
  .cases h
 .rename_i o lo n sz;have ho:=aw o;split at h
  .rename_i ty k' xs nl heq;split at h
   .rename_i aD;subst aD;cases hc:NS xs k with
    |none=>rw[hc] at h;cases h
    |some cI =>
     obtain rfl:=XL hc;obtain rfl:=XH hc;rw[hc] at h;obtain rfl:=osj h;simp only[SR] at hs;rw[heq] at ho;rcases hs with⟨rfl,rfl,rfl,_⟩|⟨i,len,cap,aq,h1,h2,h3,rfl⟩
     .exact .inl ⟨by simp,rfl⟩
     .rcases ho with⟨_,_,h4⟩|⟨_,i',e_,c,t,h4,h5,h6,h7,h8⟩
      .rw[h1] at h4;cases h4
      .rw[h1] at h4;obtain⟨rfl,rfl,rfl⟩:=(by simpa using h4:i=i'/\len=cI.length/\cap=e_);have hlen:((cI.drop lo).take n).length=n:=by simp;omega
       have k1:lo*k'.size+n*k'.size<=cI.length*k'.size:=by rw[<-zG];exact zm _ h2
       have k2:=zm k'.size h5;refine .inr ⟨i,lo*k'.size,aq,c,_,true,t,by rw[hlen],by rw[hlen];exact h3,h6,rfl,by rw[hlen];omega,?_⟩;rw[hlen];have:=(h8.drop KC.q0f lo).take KC.q0f n;have e:((c.take (cI.length*k'.size)).drop (lo*k'.size)).take (n*k'.size)=(c.drop (lo*k'.size)).take (n*k'.size):=by
        apply zT;intro j;simp only[zL,zw];split
        .rw[z0 (by omega)]
        .rfl
       rw[e] at this;exact this
   .cases h
  .cases h
 .rename_i o w;have ho:=aw o;simp only[SR] at hs;cases hf:k.flat with
  |false=>rw[hf] at h;cases h
  |true =>
   rw[hf] at h;simp only[zg] at h;split at h
   .rename_i ty q k' xs nl hole heq;rw[heq] at ho;have du:=DP.le ho;split at h
    .split at h
     .obtain rfl:=XL h;obtain rfl:=XH h;obtain⟨hs,_⟩:=hs;rw[hs];exact(DP.sl ho).mono du λ_ _ e=>KC.flat hf e
     .cases h
    .rename_i k' l';obtain rfl:=XL h;obtain rfl:=XH h;exact(P2 hs).mono du λ_ _ e=>KC.flat hf e
    .rename_i k' l' i;obtain rfl:=XL h;obtain rfl:=XH h;exact(P2 hs.1).mono du λ_ _ e=>KC.flat hf e
    .cases h
   .cases h
 .cases h
theorem SlRel.len {h:Heap}{sz:Nat}{α:Type}{R:α->List Value->Prop}{l:List α}{v:Value}(hs:SlRel h sz R l v):∃ a cap,v=.slice a l.length cap:=by
 rcases hs with⟨rfl,rfl⟩|⟨i,o,cap,c,e,wr,t,rfl,_⟩
 .exact⟨_,_,rfl⟩
 .exact⟨_,_,rfl⟩
theorem AX (aw:∀ d,OR P B pl tb M (pl d) (Q8 own d)) {s:SV}{n:Nat}{v:Value}(h:Z2d own s=some n) (hs:SR P B pl tb s v):∃ a cap,v=.slice a n cap:=by
 unfold Z2d at h;split at h
 .obtain rfl:=osj h;simp only[SR] at hs;exact⟨_,_,hs⟩
 .obtain rfl:=osj h;simp only[SR,KC] at hs;obtain⟨v',e,hs⟩:=hs;obtain rfl:=(zN e).1;exact hs.len
 .rename_i o;have ho:=aw o;simp only[SR] at hs
  replace hs:=hs.1
  split at h
  .rename_i ty k' xs nl heq;obtain rfl:=osj h;rw[heq] at ho;rcases ho with⟨_,rfl,h2⟩|⟨_,i,cap,c,t,h1,h2,h3,h4,h5⟩
   .exact⟨_,_,by rw[hs,h2];rfl⟩
   .exact⟨_,_,by rw[hs,h1]⟩
  .cases h
 .obtain rfl:=osj h;simp only[SR] at hs;rcases hs with⟨rfl,rfl,rfl,_⟩|⟨i,len,cap,aq,h1,h2,h3,rfl⟩
  .exact⟨_,_,rfl⟩
  .exact⟨_,_,rfl⟩
 .rename_i o w;have ho:=aw o;simp only[SR] at hs;split at h
  .rename_i ty q k' xs nl hole heq;rw[heq] at ho;split at h
   .split at h
    .obtain rfl:=osj h;obtain⟨hs,_⟩:=hs;rw[hs];exact DP.hd ho
    .cases h
   .obtain rfl:=osj h;exact(P2 hs).len
   .obtain rfl:=osj h;exact(P2 hs.1).len
   .cases h
  .cases h
 .cases h
theorem Je {o:Nat}:∀ {k:Kind}{x:k.T}{cs:List Value},KC (Xl (pl o)) k x cs->SRs P B pl tb (MH o k x) cs
 |.i ik,x,cs,h=>by simp only[KC] at h;subst h;simp[MH,SRs,SR,KC]
 |.bo,x,cs,h=>by simp only[KC] at h;subst h;simp[MH,SRs,SR,KC]
 |.st,x,cs,h=>by simp only[KC] at h;subst h;simp[MH,SRs,SR,KC]
 |.list k,x,cs,h=>by have hl:=KC.length h;obtain⟨v,rfl⟩:=z_.1 (show cs.length=1 from hl);simp only[MH,SRs,SR,DR];exact⟨v,[],rfl,h,rfl⟩
 |.pair a b,x,cs,h=>by obtain⟨c1,c2,rfl,h1,h2⟩:=h;exact SRs.append (Je h1) (Je h2)
theorem Et {o:Nat}{i:Int}:∀ {k:Kind}{x:k.T}{cs:List Value},KC (Xl (pl o)) k x cs->Z34 k cs->(k.one=true->∀ v,cs=[v]->∃ b len cap c e t,phd (pl o)=.slice (some ⟨b,0,none⟩) len cap/\0<=i/\i<len/\(Xl (pl o)).get b=some (.cells c e true t)/\c[i.toNat]?=some v)->SRs P B pl tb (Z1w o i k x) cs
 |.i ik,x,cs,h,_,_=>Je (o:=o) h
 |.bo,x,cs,h,_,_=>Je (o:=o) h
 |.st,x,cs,h,_,_=>Je (o:=o) h
 |.list k,x,cs,h,ho,hr=>by have hl:=KC.length h;obtain⟨v,rfl⟩:=z_.1 (show cs.length=1 from hl);simp only[Z1w,SRs,SR,DR];exact⟨v,[],rfl,⟨h,ho v rfl,hr rfl v rfl⟩,rfl⟩
 |.pair a b,x,cs,h,_,_=>Je (o:=o) h
theorem DP.elem {M:Heap}{p:Value}{ty:Nat}{q:Option Nat}{k:Kind}{xs:List k.T}{nl:Bool}(hd:DP M p ty q k xs nl none) {b len cap:Nat}(hp:phd p=.slice (some ⟨b,0,none⟩) len cap) :
  ∃ c t,(Xl p).get b=some (.cells c ⟨k.size,ty⟩ true t)/\len=xs.length/\xs.length<=cap/\cap*k.size<=c.length/\Rows (λx c=>KC (Xl p) k x c/\Z34 k c) xs (c.take (xs.length*k.size)):=by
 obtain⟨is,_,_,h2,_,_,_⟩:=hd;rcases h2 with⟨rfl,h,_⟩|⟨i,aq,c,t,js,h,_,h1,h3,h4,h5⟩
 .rw[hp] at h;cases h
 .rw[hp] at h;obtain⟨rfl,rfl,rfl⟩:=(by simpa using h:b=i/\len=xs.length/\cap=aq);exact⟨c,t,h3,rfl,h1,h4,h5.rows λ_ _ _ h=>⟨h.kc,h.koff⟩⟩
theorem Ph (hle:B.Le M) (aw:∀ d,OR P B pl tb M (pl d) (Q8 own d)) {agg:Bool}{size:Nat}(aD:0<size) {s v:SV}{p:Value}(h:Q1c own agg size s=some v) (hs:SR P B pl tb s p) :
  ∃ i o c e wr t u,p=.pointer (some ⟨i,o,none⟩)/\M.get i=some (.cells c e wr t)/\WA agg size c o=some u/\SR P B pl tb v u:=by
 unfold Q1c at h;split at h
 .rename_i o off;have ho:=aw o;simp only[SR] at hs;obtain⟨b,h1,rfl⟩:=hs;split at h
  .rename_i l _ heq;rw[heq] at ho;obtain⟨i,c,e,t,h2,h3,h4,_⟩:=ho;rw[h1] at h2;obtain rfl:=(by simpa using h2:b=i);obtain⟨u,h5,h6⟩:=Jj h4 h;exact⟨b,off,c,e,true,t,u,rfl,h3,h5,h6⟩
  .cases h
 .rename_i l off;simp only[SR] at hs;obtain⟨b,c,e,wr,t,h1,rfl,h3⟩:=hs;obtain⟨u,h5,h6⟩:=Jj h3 h;exact⟨b,off,c,e,wr,t,u,rfl,hle.2 _ _ h1,h5,h6⟩
 .rename_i o i off sz;have ho:=aw o;simp only[SR] at hs;obtain⟨b,len,cap,h1,h2,h3,rfl⟩:=hs;split at h
  .rename_i ty k xs nl heq;rw[heq] at ho;split at h
   .rename_i ak;obtain⟨rfl,aX⟩:=ak;rcases ho with⟨_,_,h4⟩|⟨_,i',e_,c,t,h4,h5,h6,h7,h8⟩
    .rw[h1] at h4;cases h4
    .rw[h1] at h4;obtain⟨rfl,rfl,rfl⟩:=(by simpa using h4:b=i'/\len=xs.length/\cap=e_);have hi:i.toNat<xs.length:=by omega
     have hr:=h8.at KC.q0f hi;have hx:xs.getD i.toNat k.dflt=xs[i.toNat]:=by simp[z4,z3 hi]
     rw[hx] at h;obtain⟨u,h9,bT⟩:=Jj (Yl (P:=P) (pl:=pl) (tb:=tb) hr) h;refine⟨b,_,c,_,true,t,u,rfl,h6,NW aX aD h9 ?_,bT⟩;have:(i.toNat+1)*k.size<=xs.length*k.size:=zm _ hi
     rwa [zG,xD] at this
   .cases h
  .cases h
 .rename_i k l i off;simp only[SR] at hs;obtain⟨b,o,c,e,wr,t,h1,h2,h3,rfl,h5,h6⟩:=hs;split at h
  .rename_i aX;have hi:i.toNat<l.length:=by omega
   have hr:=h6.at KC.q0f hi;have hx:l.getD i.toNat k.dflt=l[i.toNat]:=by simp[z4,z3 hi]
   rw[hx] at h;obtain⟨u,h9,bT⟩:=Jj (Yl (P:=P) (pl:=pl) (tb:=tb) hr) h;have eR:(i.toNat+1)*k.size<=l.length*k.size:=zm _ hi;rw[zG,xD] at eR;refine⟨b,_,c,e,wr,t,u,rfl,hle.2 _ _ h3,?_,bT⟩;have:=NW aX aD h9 eR;clear h9;cases agg with
   |true =>
    simp only[WA,zx,xM] at this |-;split at this
    .rename_i du;rw[z0 (by omega)];rw[<-this,List.drop_drop,zk]
    .cases this
   |false =>simp only[WA,zA,if_false,zw] at this |-;rw[<-this,zk]
  .cases h
 .rename_i o w;have ho:=aw o;simp only[SR] at hs;split at h
  .rename_i ty q k xs nl hole heq;rw[heq] at ho;split at h
   .have du:=DP.le ho;split at h
    .rename_i i off sz;obtain⟨b,len,cap,h1,h2,h3,rfl⟩:=hs;split at h
     .rename_i ak;obtain⟨rfl,aX⟩:=ak;obtain⟨c,t,h4,rfl,h5,h6,h7⟩:=DP.elem ho h1;have hi:i.toNat<xs.length:=by omega
      have hr:=h7.at (λx c h=>KC.q0f x c h.1) hi;have hx:xs.getD i.toNat k.dflt=xs[i.toNat]:=by simp[z4,z3 hi]
      rw[hx] at h;have iH:(i.toNat+1)*k.size<=xs.length*k.size:=zm _ hi;rw[zG,xD] at iH;obtain⟨u,h9,bT⟩:=Jj (Et (P:=P) (B:=B) (tb:=tb) hr.1 hr.2 λbQ v hv=>by
       refine⟨b,_,cap,c,_,t,h1,h2,h3,h4,?_⟩;have tX:=Kind.q1p bQ;have:(((c.take (xs.length*k.size)).drop (i.toNat*k.size)).take k.size)[0]?=some v:=by rw[hv];rfl
       rw[tX] at this;simp only[Nat.mul_one,zL,zw,zM] at this;rw[z0 (by omega),z0 (by omega)] at this;exact this) h
      exact⟨b,_,c,_,true,t,u,rfl,du.2 _ _ h4,NW aX aD h9 iH,bT⟩
     .cases h
    .rename_i k' x i j off;obtain⟨b,len,cap,c,e,t,r,rl,rc,bI,re,rt,h1,h2,h3,h4,h5,h6,h7,h8,h9,bT,fT,rfl⟩:=hs;split at h
     .rename_i aX;subst h8;have hj:j.toNat<x.length:=by omega
      have hr:=fT.at KC.q0f hj;have hx:x.getD j.toNat k'.dflt=x[j.toNat]:=by simp[z4,z3 hj]
      rw[hx] at h;have iH:(j.toNat+1)*k'.size<=x.length*k'.size:=zm _ hj;rw[zG,xD] at iH;obtain⟨u,k9,qK⟩:=Jj (Je (P:=P) (B:=B) (tb:=tb) hr) h;exact⟨r,_,bI,_,true,rt,u,rfl,du.2 _ _ h9,NW aX aD k9 iH,qK⟩
     .cases h
    .rename_i k' l j off;obtain⟨b,o',c,e,wr,t,h1,h2,h3,rfl,h5,h6⟩:=hs;split at h
     .rename_i aX;have hj:j.toNat<l.length:=by omega
      have hr:=h6.at KC.q0f hj;have hx:l.getD j.toNat k'.dflt=l[j.toNat]:=by simp[z4,z3 hj]
      rw[hx] at h;obtain⟨u,k9,qK⟩:=Jj (Je (P:=P) (B:=B) (tb:=tb) hr) h;have eR:(j.toNat+1)*k'.size<=l.length*k'.size:=zm _ hj;rw[zG,xD] at eR;refine⟨b,_,c,e,wr,t,u,rfl,du.2 _ _ h3,?_,qK⟩;have:=NW aX aD k9 eR;clear k9;cases agg with
      |true =>
       simp only[WA,zx,xM] at this |-;split at this
       .rename_i tY;rw[z0 (by omega)];rw[<-this,List.drop_drop,zk]
       .cases this
      |false =>simp only[WA,zA,if_false,zw] at this |-;rw[<-this,zk]
     .cases h
    .cases h
   .cases h
  .cases h
 .cases h
end
end Go.V
namespace Go.V
open Go
section
variable {P:Program}{B:Heap}{pl:Nat->Value}{tb:Nat->Option Bool}{own:Own}{M:Heap}
theorem R5 {s:SV}{v:Value}(h:s.solid=true) (hs:SR P B pl tb s v):KG v=some [v]/\cellOk v=true:=by
 cases s with
 |any=>cases h
 |grd gs s=>cases h
 |agg l=>cases h
 |tup l=>cases h
 |val k x =>
  simp only[SR] at hs;cases k with
  |i ik=>simp only[KC] at hs;obtain rfl:=(zN hs).1;exact⟨rfl,rfl⟩
  |bo=>simp only[KC] at hs;obtain rfl:=(zN hs).1;exact⟨rfl,rfl⟩
  |st=>simp only[KC] at hs;obtain rfl:=(zN hs).1;exact⟨rfl,rfl⟩
  |list k =>obtain⟨v',e,hs⟩:=hs;obtain rfl:=(zN e).1;obtain⟨a,c,rfl⟩:=hs.len;exact⟨rfl,rfl⟩
  |pair a b =>have h1:=KC.length hs;have h2:=a.size_pos;have h3:=b.size_pos;simp only[Kind.size,xy] at h1;omega
 |bid n c=>simp only[SR] at hs;obtain⟨rfl,_⟩:=hs;exact⟨rfl,rfl⟩
 |nilS=>simp only[SR] at hs;subst hs;exact⟨rfl,rfl⟩
 |nilP=>simp only[SR] at hs;subst hs;exact⟨rfl,rfl⟩
 |nilM=>simp only[SR] at hs;subst hs;exact⟨rfl,rfl⟩
 |nilF=>simp only[SR] at hs;subst hs;exact⟨rfl,rfl⟩
 |lst o=>simp only[SR] at hs;obtain⟨_,a,n,c,rfl⟩:=hs;exact⟨rfl,rfl⟩
 |dd o w =>
  simp only[SR] at hs;cases w with
  |out=>obtain⟨_,a,n,c,rfl⟩:=hs;exact⟨rfl,rfl⟩
  |el i off sz=>obtain⟨_,_,_,_,_,_,rfl⟩:=hs;exact⟨rfl,rfl⟩
  |row k x i=>obtain⟨a,c,rfl⟩:=(P2 hs.1).len;exact⟨rfl,rfl⟩
  |rowp k x i j off=>obtain⟨_,_,_,_,_,_,_,_,_,_,_,_,_,_,_,_,_,_,_,_,_,_,_,rfl⟩:=hs;exact⟨rfl,rfl⟩
  |inn k x=>obtain⟨a,c,rfl⟩:=(P2 hs).len;exact⟨rfl,rfl⟩
  |inp k l j off=>obtain⟨_,_,_,_,_,_,_,_,_,rfl,_⟩:=hs;exact⟨rfl,rfl⟩
  |dat=>rcases hs with⟨_,rfl⟩|⟨_,_,_,_,_,rfl⟩<;>exact⟨rfl,rfl⟩
  |obx c=>rcases hs with⟨_,rfl⟩|⟨_,_,_,rfl⟩<;>exact⟨rfl,rfl⟩
  |yv=>obtain⟨_,_,rfl⟩:=hs;exact⟨rfl,rfl⟩
 |sub o lo n sz=>simp only[SR] at hs;rcases hs with⟨_,_,rfl,_⟩|⟨_,_,_,_,_,_,_,rfl⟩<;>exact⟨rfl,rfl⟩
 |elp o i off sz=>simp only[SR] at hs;obtain⟨_,_,_,_,_,_,rfl⟩:=hs;exact⟨rfl,rfl⟩
 |rop k l i off=>simp only[SR] at hs;obtain⟨_,_,_,_,_,_,_,_,_,rfl,_⟩:=hs;exact⟨rfl,rfl⟩
 |box o off=>simp only[SR] at hs;obtain⟨_,_,rfl⟩:=hs;exact⟨rfl,rfl⟩
 |cp l off=>simp only[SR] at hs;obtain⟨_,_,_,_,_,_,rfl,_⟩:=hs;exact⟨rfl,rfl⟩
 |map o=>simp only[SR] at hs;obtain⟨_,m,rfl⟩:=hs;exact⟨rfl,rfl⟩
 |fn f a b=>simp only[SR] at hs;obtain⟨_,_,rfl,_⟩:=hs;exact⟨rfl,rfl⟩
 |pf ks r cS p=>simp only[SR] at hs;obtain⟨_,_,_,rfl,_⟩:=hs;exact⟨rfl,rfl⟩
theorem Bg:∀ {l:List SV}{c:List Value},l.all SV.solid=true->SRs P B pl tb l c->c.all cellOk=true
 |[],c,_,h=>by simp only[SRs] at h;subst h;rfl
 |s::ss,c,hl,h=>by simp only[SRs] at h;obtain⟨x,y,rfl,h1,h2⟩:=h;simp only[zR,z2] at hl |-;exact⟨(R5 hl.1 h1).2,Bg hl.2 h2⟩
theorem Yp {s:SV}{v:Value}{l:List SV}(h:My s=some l) (hs:SR P B pl tb s v):∃ c,KG v=some c/\SRs P B pl tb l c/\c.all cellOk=true:=by
 have key:s.solid=true->some [s]=some l->∃ c,KG v=some c/\SRs P B pl tb l c/\c.all cellOk=true:=λqL e=>by obtain rfl:=osj e;obtain⟨h1,h2⟩:=R5 qL hs;exact⟨[v],h1,by simp only[SRs];exact⟨v,[],rfl,hs,rfl⟩,by simp[h2]⟩
 cases s with
 |any=>cases h
 |grd gs s=>cases h
 |tup l=>cases h
 |agg l' =>
  simp only[My] at h;cases hl:l'.all SV.solid with
  |false=>rw[hl] at h;cases h
  |true =>rw[hl] at h;obtain rfl:=osj h;simp only[SR] at hs;obtain⟨cs,rfl,hs⟩:=hs;exact⟨cs,rfl,hs,Bg hl hs⟩
 |_=>exact key rfl h
theorem B3:∀ {vs:List SV}{us:List Value}{c:List SV}{cV:List Value}{o:Nat},SRs P B pl tb c cV->SRs P B pl tb vs us->SRs P B pl tb (gfill.setS c o vs) (Yx cV o us)
 |[],us,c,cV,o,h,h'=>by simp only[SRs] at h';subst h';exact h
 |v::vs,us,c,cV,o,h,h'=>by simp only[SRs] at h';obtain⟨x,y,rfl,h1,h2⟩:=h';simp only[gfill.setS,Yx];exact B3 (h.set o h1) h2
theorem HX:∀ {ps:List (Nat×Nat×Operand)}{c l:List SV}{cV:List Value}{ev:Operand->SV}{evV:Operand->Value},(∀ x,SR P B pl tb (ev x) (evV x))->SRs P B pl tb c cV->gfill c (ps.map λp=>(p.1,p.2.1,ev p.2.2))=some l ->
  ∃ lV,M0 cV (ps.map λp=>(p.1,p.2.1,evV p.2.2))=some lV/\SRs P B pl tb l lV
 |[],c,l,cV,ev,evV,aj,h,hg=>by obtain rfl:=osj hg;exact⟨cV,rfl,h⟩
 |p::ps,c,l,cV,ev,evV,aj,h,hg=>by
  simp only[zF,gfill] at hg;split at hg
  .rename_i vs hs;split at hg
   .rename_i ak;obtain⟨us,h1,h2,_⟩:=Yp hs (aj p.2.2);obtain⟨lV,h3,h4⟩:=HX aj (B3 h h2) hg;refine⟨lV,?_,h4⟩;simp only[zF,M0,h1];rw[z0 ⟨by rw[<-h2.length];exact ak.1,by rw[<-h.length];exact ak.2⟩];exact h3
   .cases hg
  .cases hg
theorem Yr {h:Heap}:∀ {k:Kind}{z:List Value},V0 k z=true->KC h k k.dflt z
 |.i ik,z,e=>by unfold V0 at e;split at e<;>simp_all [KC,Kind.dflt]
 |.bo,z,e=>by unfold V0 at e;split at e<;>simp_all [KC,Kind.dflt]
 |.st,z,e=>by unfold V0 at e;split at e<;>simp_all [KC,Kind.dflt];rename_i s;cases s;simp_all
 |.list k,z,e=>by unfold V0 at e;split at e<;>simp_all [KC,Kind.dflt];exact .inl ⟨rfl,rfl⟩
 |.pair a b,z,e=>by simp only[V0,z2] at e;exact⟨_,_,(xK a.size z).symm,Yr e.1,Yr e.2⟩
theorem RS {h:Heap}{mk:MK}{kk:Kind}(hk:gq.mkP mk kk=true) {x:kk.T}{cs:List Value}(e:KC h kk x cs):∃ v,cs=[v]/\Zk mk v=true/\E5 mk v=true:=by
 unfold gq.mkP at hk;split at hk
 .simp only[KC] at e;subst e;obtain rfl:=zl hk;exact⟨_,rfl,by simp[Zk],by simp[E5]⟩
 .simp only[KC] at e;subst e;exact⟨_,rfl,rfl,rfl⟩
 .simp only[KC] at e;subst e;exact⟨_,rfl,rfl,rfl⟩
 .cases hk
theorem Q2i {h:Heap}{mk:MK}{kk:Kind}(hk:gq.mkP mk kk=true) {x y:kk.T}{u v:Value}(e:KC h kk x [u]) (e':KC h kk y [v]):XB u v=gq.keq kk x y/\Kg u v=gq.keq kk x y:=by
 unfold gq.mkP at hk;split at hk
 .simp only[KC] at e e';obtain rfl:=(zN e).1;obtain rfl:=(zN e').1;exact⟨rfl,rfl⟩
 .simp only[KC] at e e';obtain rfl:=(zN e).1;obtain rfl:=(zN e').1;simp[XB,Kg,gq.keq]
 .simp only[KC] at e e';obtain rfl:=(zN e).1;obtain rfl:=(zN e').1;exact⟨rfl,rfl⟩
 .cases hk
theorem PM {h:Heap}:∀ {k:Kind}{l r:List MK}{x:k.T}{cs ds:List Value},gq.mkAt k l=some r->KC h k x cs->fits l (cs++ds)=fits r ds
 |.pair a b,l,r,x,cs,ds,hk,e=>by
  simp only[gq.mkAt] at hk;split at hk
  .rename_i q hq;obtain⟨c1,c2,rfl,h1,h2⟩:=e;rw[x7,PM hq h1,PM hk h2]
  .cases hk
 |.i _,m::l,r,x,cs,ds,hk,e|.bo,m::l,r,x,cs,ds,hk,e|.st,m::l,r,x,cs,ds,hk,e|.list _,m::l,r,x,cs,ds,hk,e=>by
  simp only[gq.mkAt] at hk;cases hp:gq.mkP m _ with
  |false=>rw[hp] at hk;cases hk
  |true =>rw[hp] at hk;obtain rfl:=osj hk;obtain⟨v,rfl,_,h2⟩:=RS hp e;simp[fits,h2]
 |.i _,[],r,x,cs,ds,hk,e|.bo,[],r,x,cs,ds,hk,e|.st,[],r,x,cs,ds,hk,e|.list _,[],r,x,cs,ds,hk,e=>by cases hk
theorem C7 {h:Heap}:∀ {k:Kind}{l r:List MK}{x y:k.T}{cs ds cs' ds':List Value},gq.mkAt k l=some r->KC h k x cs->KC h k y ds->Ql (cs++cs') (ds++ds')=(gq.keq k x y&&Ql cs' ds')
 |.pair a b,l,r,x,y,cs,ds,cs',ds',hk,e,e'=>by
  simp only[gq.mkAt] at hk;split at hk
  .rename_i q hq;obtain⟨c1,c2,rfl,h1,h2⟩:=e;obtain⟨d1,d2,rfl,g1,g2⟩:=e';rw[x7,x7,C7 hq h1 g1,C7 hk h2 g2];simp only[gq.keq,Bool.and_assoc]
  .cases hk
 |.i _,m::l,r,x,y,cs,ds,cs',ds',hk,e,e'|.bo,m::l,r,x,y,cs,ds,cs',ds',hk,e,e'|.st,m::l,r,x,y,cs,ds,cs',ds',hk,e,e'|.list _,m::l,r,x,y,cs,ds,cs',ds',hk,e,e'=>by
  simp only[gq.mkAt] at hk;cases hp:gq.mkP m _ with
  |false=>rw[hp] at hk;cases hk
  |true =>obtain⟨v,rfl,_,_⟩:=RS hp e;obtain⟨w,rfl,_,_⟩:=RS hp e';simp only[zY,xe,Ql,(Q2i hp e e').2]
 |.i _,[],r,x,y,cs,ds,cs',ds',hk,e,e'|.bo,[],r,x,y,cs,ds,cs',ds',hk,e,e'|.st,[],r,x,y,cs,ds,cs',ds',hk,e,e'|.list _,[],r,x,y,cs,ds,cs',ds',hk,e,e'=>by cases hk
theorem Uh {h:Heap}{mk:MK}{kk:Kind}(hk:gq.mkOk mk kk=true) {x:kk.T}{v:Value}(e:KV h kk x v):Zk mk v=true:=by
 unfold gq.mkOk at hk;rcases e with⟨ho,e⟩|⟨ho,cs,rfl,e⟩
 .rw[ho] at hk;obtain⟨w,h1,h2,_⟩:=RS hk e;obtain rfl:=(zN h1).1;exact h2
 .rw[ho] at hk;simp only[zO] at hk;split at hk
  .rename_i l;split at hk
   .rename_i hr;have:=PM (ds:=[]) hr e;rw[xC] at this;simp only[Zk];rw[this];rfl
   .cases hk
  .cases hk
theorem Gy {h:Heap}{mk:MK}{kk:Kind}(hk:gq.mkOk mk kk=true) {x y:kk.T}{u v:Value}(e:KV h kk x u) (e':KV h kk y v):XB u v=gq.keq kk x y:=by
 unfold gq.mkOk at hk;rcases e with⟨ho,e⟩|⟨ho,cs,rfl,e⟩
 .rcases e' with⟨_,e'⟩|⟨eS,_⟩
  .rw[ho] at hk;exact(Q2i hk e e').1
  .rw[ho] at eS;cases eS
 .rcases e' with⟨eS,_⟩|⟨_,ds,rfl,e'⟩
  .rw[ho] at eS;cases eS
  .rw[ho] at hk;simp only[zO] at hk;split at hk
   .split at hk
    .rename_i hr;have:=C7 (cs':=[]) (ds':=[]) hr e e';rw[xC,xC] at this;simp only[XB];rw[this];simp[Ql]
    .cases hk
   .cases hk
theorem VJ {B:Heap}{k:Kind}{v:SV}{u:Value}{x:k.T}(h:dkV k v=some x) (hs:SR P B pl tb v u) (hd:∀ {k:Kind}{l:List SV}{x:k.T}{c:List Value},T0 k l=some x->SRs P B pl tb l c->KC B k x c):KV B k x u:=by
 unfold dkV at h;cases bQ:k.one with
 |true =>rw[bQ] at h;exact .inl ⟨bQ,hd h (by simp only[SRs];exact⟨u,[],rfl,hs,rfl⟩)⟩
 |false =>
  rw[bQ] at h;simp only[zO] at h;split at h
  .simp only[SR] at hs;obtain⟨cs,rfl,hs⟩:=hs;exact .inr ⟨bQ,cs,rfl,hd h hs⟩
  .cases h
theorem Bf {B:Heap}{k:Kind}{z:Value}(h:V0 k (Ar k z)=true):KV B k k.dflt z:=by
 have e:=Yr (h:=B) h;unfold Ar at e;cases bQ:k.one with
 |true=>rw[bQ] at e;exact .inl ⟨bQ,e⟩
 |false =>
  rw[bQ] at e;simp only[zO] at e;split at e
  .exact .inr ⟨bQ,_,by simp,e⟩
  .have:=KC.length e;have:=k.size_pos;simp at *
   omega
theorem KV.kc {B:Heap}{k:Kind}{x:k.T}{v:Value}(h:KV B k x v) (ho:k.one=true):KC B k x [v]:=by
 rcases h with⟨_,h⟩|⟨h1,_⟩
 .exact h
 .rw[ho] at h1;cases h1
theorem MR.keys {mk:MK}{kk vk:Kind}(hk:gq.mkOk mk kk=true):∀ {m:List (kk.T×vk.T)}{es:List Jo},MR B kk vk m es->es.all (λe=>Zk mk e.1)=true
 |[],es,h=>by simp only[MR] at h;subst h;rfl
 |m::ms,es,h=>by obtain⟨e,bS,rfl,h2,h3,h4⟩:=h;simp only[zR,z2];exact⟨Uh hk h2,MR.keys hk h4⟩
theorem MR.length {kk vk:Kind}:∀ {m:List (kk.T×vk.T)}{es:List Jo},MR B kk vk m es->es.length=m.length
 |[],es,h=>by simp only[MR] at h;subst h;rfl
 |m::ms,es,h=>by obtain⟨e,bS,rfl,h2,h3,h4⟩:=h;simp[MR.length h4]
theorem MR.find {mk:MK}{kk vk:Kind}(hk:gq.mkOk mk kk=true) {key:kk.T}{kv:Value}(aP:KV B kk key kv) {d:vk.T}{z:Value}(hz:KV B vk d z):∀ {m:List (kk.T×vk.T)}{es:List Jo},MR B kk vk m es ->
  (∃ e,Qf kv es=some e/\gq.ahas kk m key=true/\KV B vk (gq.aget kk m key d) e.2.1)\/(Qf kv es=none/\gq.ahas kk m key=false/\gq.aget kk m key d=d)
 |[],es,h=>by simp only[MR] at h;subst h;exact .inr ⟨rfl,rfl,rfl⟩
 |m::ms,es,h=>by
  obtain⟨e,bS,rfl,h2,h3,h4⟩:=h;have hq:=Gy hk aP h2;cases hc:gq.keq kk key m.1 with
  |true =>refine .inl ⟨e,by simp[Qf,hq,hc],by simp[gq.ahas,hc],by simpa [gq.aget,hc] using h3⟩
  |false =>
   rcases MR.find hk aP hz h4 with⟨e',k1,k2,k3⟩|⟨k1,k2,k3⟩
   .exact .inl ⟨e',by simp[Qf,hq,hc,k1],by simp[gq.ahas,hc,k2],by simpa [gq.aget,hc] using k3⟩
   .exact .inr ⟨by simp[Qf,hq,hc,k1],by simp[gq.ahas,hc,k2],by simpa [gq.aget,hc] using k3⟩
theorem SRs.one {v:SV}{c:List Value}(h:SRs P B pl tb [v] c):∃ u,c=[u]/\SR P B pl tb v u:=by simp only[SRs] at h;obtain⟨u,us,rfl,h1,rfl⟩:=h;exact⟨u,rfl,h1⟩
theorem Qw:∀ {k:Kind}{l:List SV}{x:k.T}{c:List Value},T0 k l=some x->SRs P B pl tb l c->KC B k x c
 |.i ik,[],x,c,h,hs|.bo,[],x,c,h,hs|.st,[],x,c,h,hs|.list _,[],x,c,h,hs=>by cases h
 |.i ik,_::_::_,x,c,h,hs|.bo,_::_::_,x,c,h,hs|.st,_::_::_,x,c,h,hs|.list _,_::_::_,x,c,h,hs=>by cases h
 |.i ik,[v],x,c,h,hs=>by
  obtain⟨u,rfl,h1⟩:=hs.one;simp only[T0] at h;split at h
  .rename_i rV y;split at h
   .rename_i e;obtain rfl:=osj h;subst e;simp only[SR] at h1;exact h1
   .cases h
  .cases h
 |.bo,[v],x,c,h,hs=>by obtain⟨u,rfl,h1⟩:=hs.one;rw[XF h h1];rfl
 |.st,[v],x,c,h,hs=>by obtain⟨u,rfl,h1⟩:=hs.one;rw[V_ h h1];rfl
 |.list k,[v],x,c,h,hs=>by
  obtain⟨u,rfl,h1⟩:=hs.one;simp only[T0] at h;split at h
  .obtain rfl:=osj h;simp only[SR] at h1;subst h1;exact⟨_,rfl,.inl ⟨rfl,rfl⟩⟩
  .rename_i k' l';obtain rfl:=XL h;obtain rfl:=XH h;simp only[SR] at h1;exact h1
  .cases h
 |.pair a b,l,x,c,h,hs=>by
  simp only[T0] at h;split at h
  .rename_i y z h1 h2;obtain rfl:=osj h;exact⟨c.take a.size,c.drop a.size,(xK _ _).symm,Qw h1 (hs.take _),Qw h2 (hs.drop _)⟩
  .cases h
end
end Go.V