/- A framework for walks, contracts of functions, and their proofs: part 3. -/
import Derived.Test.YtfblnfcecfjbpaaGreatProg
import Derived.Test.YtfblnfcecfjbpaaGreatT2
noncomputable section
namespace Go.V
open Go
structure FRel (e:ET) (env:Env):Prop where
 m:e.m=List.length env
 sm:e.m<=1000000
 get:∀ i,env.getD i undef=e.get i
theorem ET.q0v {e:ET}{i:Nat}(hi:i<e.m):e.get i=e.t.get undef i:=by unfold ET.get;rw[show Nat.blt i e.m=true from Nat.ble_eq_true_of_le hi]
theorem ET.q0t {e:ET}{i:Nat}(hi:e.m<=i):e.get i=undef:=by
 unfold ET.get;cases hb:Nat.blt i e.m with
 |false=>rfl
 |true=>have:=zG hb;omega
theorem ET.q2k {e:ET}{i:Nat}{v:Value}(hi:i<e.m):e.set i v=⟨e.t.set undef 32 i v,e.m⟩:=by unfold ET.set;rw[show Nat.blt i e.m=true from Nat.ble_eq_true_of_le hi]
theorem ET.q2f {e:ET}{i:Nat}{v:Value}(hi:e.m<=i):e.set i v=e:=by
 unfold ET.set;cases hb:Nat.blt i e.m with
 |false=>rfl
 |true=>have:=zG hb;omega
theorem ET.q2n (e:ET) (i:Nat) (v:Value):(e.set i v).m=e.m:=by
 rcases zl i e.m with h|h
 .rw[ET.q2k h]
 .rw[ET.q2f h]
theorem ET.q1e {e:ET}(hs:e.m<=1000000) (i:Nat) (v:Value) (j:Nat):(e.set i v).get j=if j=i/\i<e.m then v else e.get j:=by
 rcases zl i e.m with hi|hi
 .rw[ET.q2k hi];rcases zl j e.m with hj|hj
  .rw[ET.q0v (e:=⟨e.t.set undef 32 i v,e.m⟩) hj,ET.q0v hj];show (e.t.set undef 32 i v).get undef j=_;rw[GT.q1e undef 32 _ _ _ _ (by omega)];by_cases h:j=i
   .rw[z7 h,z7 ⟨h,hi⟩]
   .rw[z8 h,z8 (λe=>h e.1)]
  .rw[ET.q0t (e:=⟨e.t.set undef 32 i v,e.m⟩) hj,ET.q0t hj,z8 (by rintro⟨rfl,_⟩;omega)]
 .rw[ET.q2f hi,z8 (by rintro⟨_,h⟩;omega)]
theorem FRel.set {e:ET}{env:Env}(h:FRel e env) (i:Nat) (v:Value):FRel (e.set i v) (env.set i v):=by
 refine⟨by rw[ET.q2n,wD];exact h.m,by rw[ET.q2n];exact h.sm,λj=>?_⟩;rw[ET.q1e h.sm,<-h.get,zd,zd,xH,h.m];by_cases cj:i=j
 .subst cj;rcases zl i (List.length env) with hi|hi
  .rw[z7 rfl,z7 hi,z7 ⟨rfl,hi⟩];rfl
  .rw[z7 rfl,z8 (by omega),z8 (by rintro⟨_,h⟩;omega),zk hi]
 .rw[z8 cj,z8 (λe=>cj e.1.symm)]
theorem FRel.put {e:ET}{env:Env}(h:FRel e env) (d:Option Nat) (v:Value):FRel (e.put d v) (Xe env d v):=by
 cases d with
 |none=>exact h
 |some d=>exact h.set d v
theorem HG {e:ET}{env:Env}(h:FRel e env):GI e=Q3 env:=by
 funext x
 cases x with
 |tmp t=>exact(h.get t).symm
 |_=>rfl
theorem AA {e:ET}{env:Env}(h:FRel e env) (g:Option (Nat×Bool)):FE e g=Ja env g:=by
 cases g with
 |none=>rfl
 |some p =>obtain⟨d,w⟩:=p;simp only[FE,Ja,h.get];cases e.get d<;>rfl
theorem R8:∀ (ps:List Nat) (vs:List Value) {e:ET}{env:Env},FRel e env->FRel (Q2t e ps vs) (PA env ps vs)
 |[],vs,e,env,h=>by cases vs<;>exact h
 |p::ps,[],e,env,h=>h
 |p::ps,v::vs,e,env,h=>R8 ps vs (h.set p v)
theorem Iu:∀ (l:List Value) (i:Nat) (t:GT Value) (j:Nat),i+l.length<=1000000->(etL l i t).get undef j=if i<=j/\j<i+l.length then l.getD (j-i) undef else t.get undef j
 |[],i,t,j,_=>by rw[z8 (by simp only[List.length_nil];omega)];rfl
 |v::l,i,t,j,h=>by
  have h:i+(l.length+1)<=1000000:=h;show (etL l (i+1) (t.set undef 32 i v)).get undef j=_;rw[Iu l (i+1) _ j (by omega),GT.q1e undef 32 _ _ _ _ (by omega)];by_cases aM:j=i
  .subst aM;rw[z8 (by omega),z7 rfl,z7 (by simp)];simp
  .by_cases hc:i+1<=j/\j<i+1+l.length
   .rw[z7 hc,z7 (by simp;omega),show j-i=j-(i+1)+1 by omega];rfl
   .rw[z8 hc,z8 aM,z8 (by simp;omega)]
theorem ET.q1q {args:List Value}{nt:Nat}(h:(ET.of args nt).m<=1000000):FRel (ET.of args nt) (args++List.replicate (nt-args.length) undef):=by
 refine⟨by simp[ET.of],h,λi=>?_⟩;have hm:(ET.of args nt).m=args.length+(nt-args.length):=rfl;rw[hm] at h;rcases zl i (ET.of args nt).m with hi|hi
 .rw[ET.q0v hi];show _=(etL args 0 .nil).get undef i;rw[Iu _ _ _ _ (by omega),zd,List.getElem?_append];rw[hm] at hi;by_cases hl:i<args.length
  .rw[z7 hl,z7 (by omega)];simp[zd]
  .rw[z8 hl,z8 (by omega),wK,z7 (by omega)];rfl
 .rw[ET.q0t hi];rw[hm] at hi;rw[zd,zk (by simp;omega)];rfl
def NM (P:Program) (f:FuncId) (m:Memo):Prop :=
 VCalled P f m.args (Qv m.bl []) (λu U=>u=m.v/\U=Qv m.bl m.fr)/\∀ b∈m.fr,b.c.all QN=true
structure TabOk (P:Program) (T:Tab):Prop where
 code:∀ f vc rs nt,T f=some (.code vc rs nt)->Fun P f vc rs nt
 codeJ:∀ f vc rs nt,T f=some (.codeJ vc rs nt)->Fun P f vc rs nt
 codeM:∀ f vc rs nt ms,T f=some (.codeM vc rs nt ms)->Fun P f vc rs nt/\∀ m∈ms,NM P f m
 same:∀ f,T f=some .same->∀ (v:Value) (M:Heap) (K:Value->Heap->Prop),K v M->VCalled P f [v] M K
section
variable {P:Program}{T:Tab}{ev:Q7d}
abbrev Ul:=Nat->Env×Loop
def YOk (P:Program) (ys:Ys) (rs:Ul) (n:Nat):Prop :=
 ∀ i c,ys.find i=some c->i<n/\FRel c.env (rs i).1/\KE P i (Aj (vwp (Q2 P) c.a (some i)) (vwp (Q2 P) c.b (some i)) c.ps (rs i).1 (rs i).2 i)
theorem YOk.mono {ys:Ys}{rs bk:Ul}{n n':Nat}(h:YOk P ys rs n) (hn:n<=n') (hr:∀ i,i<n->bk i=rs i):YOk P ys bk n':=λi c hc=>by obtain⟨h1,h2,h3⟩:=h i c hc;rw[hr i h1];exact⟨by omega,h2,h3⟩
def Q7j {A:Type}(G:A->Prop) (rs:Ul) (h:CH) (k:Value->CH->A) (K:Value->Heap->Prop):Prop :=
 ∀ v h' bk M',h.n<=h'.n->(∀ i,i<h.n->bk i=rs i)->CSim bk h' M'->G (k v h')->K v M'
def Q0t {A:Type}(G:A->Prop) (rs:Ul) (h:CH) (m:Nat) (k:Exit->ET->CH->A) (Q:Exit->Env->Heap->Prop):Prop :=
 ∀ e dR h' bk M' af,h.n<=h'.n->(∀ i,i<h.n->bk i=rs i)->CSim bk h' M'->FRel dR af->List.length af=m->G (k e dR h')->Q e af M'
def Q0g {A:Type}(G:A->Prop) (rs:Ul) (h:CH) (m:Nat) (k:ET->CH->A) (K:Env->Heap->Prop):Prop :=
 ∀ dR h' bk M' af,h.n<=h'.n->(∀ i,i<h.n->bk i=rs i)->CSim bk h' M'->FRel dR af->List.length af=m->G (k dR h')->K af M'
def Sd (P:Program) (ev:Q7d):Prop:=∀ {A:Type}(R:AnsOps A) (G:A->Prop),Good R G->∀ (ys:Ys) (c:VCode) (ro:Option Nat) (et:ET) (env:Env) (h:CH) (k:Exit->ET->CH->A) (rs:Ul) (M:Heap) (Q:Exit->Env->Heap->Prop),
 YOk P ys rs h.n->CSim rs h M->FRel et env->G (ev R ys c ro et h k)->Q0t G rs h (List.length env) k Q->vwp (Q2 P) c ro Q env M
theorem DU {rs:Ul}{h:CH}{M:Heap}(hs:CSim rs h M) {et:ET}{env:Env}(hE:FRel et env) {r:VResult}{v:Value}(hr:Pr et h r=some v):Ju env M r=some v:=by
 cases r with
 |tmp t=>simp only[Pr] at hr;simp only[Ju,hE.get];exact hr
 |cell a agg size =>
  simp only[Pr] at hr;split at hr
  .rename_i p hp;rw[<-hE.get] at hp;obtain⟨_,M',h1,_⟩:=KM (o:=.load agg size (.tmp a)) (ev:=Q3 env) hs hp;simp only[Ju,h1,z_];exact hr
  .cases hr
theorem G6 {rs:Ul}{h:CH}{M:Heap}(hs:CSim rs h M) {et:ET}{env:Env}(hE:FRel et env):∀ (l:List VResult) (vs:List Value),Dh et h l=some vs->l.mapM (Ju env M)=some vs
 |[],vs,hr=>by simp[Dh] at hr;subst hr;rfl
 |r::l,vs,hr=>by
  simp only[Dh] at hr;split at hr
  .cases hr
  .rename_i v hv;split at hr
   .cases hr
   .rename_i ws hw;obtain rfl:=osj hr;rw[xp,DU hs hE hv];simp[G6 hs hE l ws hw]
theorem Ge {rs:Ul}{h:CH}{M:Heap}(hs:CSim rs h M) {et:ET}{env:Env}(hE:FRel et env) {l:List VResult}{v:Value}(hr:MN et h l=some v):Zv env M l=some v:=by
 unfold MN at hr;split at hr
 .exact DU hs hE hr
 .rename_i az;split at hr
  .rename_i vs cK;unfold Zv;split
   .rename_i r;exact absurd rfl (az r)
   .rw[G6 hs hE _ _ cK];exact hr
  .cases hr
variable {A:Type}{R:AnsOps A}{G:A->Prop}
theorem MT (hG:Good R G) {rl:List VResult}{k:Value->CH->A}{rs:Ul}{h:CH}{M:Heap}{K:Value->Heap->Prop}{m:Nat}(hk:Q7j G rs h k K):Q0t G rs h m (Q6r R.fail rl k) (Z20 M rl K):=by
 intro e dR h' bk M' af hn hr aY b7 _ hg;have fin:G (match MN dR h' rl with|some v=>k v h'|none=>R.fail)->QX (Zv af M' rl) λv=>∃ v' aE,DropTo M v M' v' aE/\K v' aE:=by
  intro hg;split at hg
  .rename_i v hv;rw[Ge aY b7 hv];exact⟨v,M',.refl _ _ _,hk v h' bk M' hn hr aY hg⟩
  .exact(hG.fail hg).elim
 cases e with
 |normal=>exact fin hg
 |ret=>exact fin hg
 |_=>exact(hG.fail hg).elim
def CH.toHeap (rs:Ul) (h:CH):Heap:=⟨λi=>(h.get i).map (EB.to (rs i)),h.n,λi hi=>by rw[CH.q0t hi];rfl⟩
theorem BD {rs:Ul}{h:CH}(hr:h.n<=1000000001):CSim rs h (h.toHeap rs):=⟨rfl,hr,λ_=>rfl⟩
theorem CSim.eq {rs:Ul}{h:CH}{M:Heap}(hs:CSim rs h M):M=h.toHeap rs:=Heap.ext' (λj=>hs.get j) hs.n.symm
def Eb (x:Value×CH) (a:Option (Value×CH)):Prop:=∃ y,a=some y/\y.1=x.1/\y.2.n=x.2.n/\∀ i,y.2.get i=x.2.get i
theorem CZ {h h':CH}(hs:h.same h'=true):h.n=h'.n/\∀ i,h.get i=h'.get i:=by
 simp only[CH.same,z6,zf,zD,Nat.beq_eq] at hs;refine⟨hs.1,λi=>?_⟩;rcases zl i h.n with hi|hi
 .have:=hs.2 i hi;split at this
  .rename_i h1 h2;rw[h1,h2]
  .rename_i a b h1 h2;rw[h1,h2,EB.beq_eq this]
  .cases this
 .rw[CH.q0t hi,CH.q0t (by rw[<-hs.1];exact hi)]
theorem RD (x:Value×CH):Good joinOps (Eb x):=by
 refine⟨λ⟨y,h,_⟩=>(by cases h),λa b h=>?_⟩;obtain⟨y,h1,h2,h3,h4⟩:=h;cases a with
 |none=>cases h1
 |some xa =>
  cases b with
  |none=>cases h1
  |some xb =>
   simp only[joinOps] at h1;split at h1
   .rename_i hc;obtain rfl:=osj h1;have e1:=M8 _ _ _ hc.1;obtain⟨e2,e3⟩:=CZ hc.2;exact⟨⟨xa,rfl,h2,h3,h4⟩,xb,rfl,by rw[<-e1];exact h2,by rw[<-e2];exact h3,λi=>by rw[<-e3 i];exact h4 i⟩
   .cases h1
theorem Fw {b:EB}{q:Env×Loop}(h:b.plainE=true):(b.to q).plain=true/\∀ q',b.to q'=b.to q:=by cases b<;>first|exact⟨h,λ_=>rfl⟩|cases h
def gcP (n0:Nat) (refs:List Nat) (i:Nat):Nat:=if i<n0 then i else refs.getD (i-n0) 0
def RExt (n0:Nat) (a b:List Nat):Prop:=(∃ t,b=a++t/\∀ x∈t,n0<=x)/\(a.Nodup->b.Nodup)
theorem RExt.refl (n0:Nat) (a:List Nat):RExt n0 a a:=⟨⟨[],by simp,λx hx=>by cases hx⟩,id⟩
theorem RExt.trans {n0:Nat}{a b c:List Nat}(h:RExt n0 a b) (k:RExt n0 b c):RExt n0 a c:=by obtain⟨⟨t,rfl,ht⟩,h2⟩:=h;obtain⟨⟨u,rfl,hu⟩,k2⟩:=k;exact⟨⟨t++u,by simp,λx hx=>(zQ.1 hx).elim (ht x) (hu x)⟩,λh=>k2 (h2 h)⟩
def Sub (a b:List Nat):Prop:=∃ t,b=a++t
theorem Sub.trans {a b c:List Nat}(h:Sub a b) (k:Sub b c):Sub a c:=by obtain⟨t,rfl⟩:=h;obtain⟨u,rfl⟩:=k;exact⟨t++u,by simp⟩
theorem RExt.sub {n0:Nat}{a b:List Nat}(h:RExt n0 a b):Sub a b:=by obtain⟨⟨t,h,_⟩,_⟩:=h;exact⟨t,h⟩
theorem HF (n0:Nat) (refs:List Nat) (i:Nat):RExt n0 refs (gcI n0 refs i).2/\∀ (all:List Nat),Sub (gcI n0 refs i).2 all->(gcI n0 refs i).1<n0+all.length/\gcP n0 all (gcI n0 refs i).1=i:=by
 unfold gcI;split
 .rename_i hi;exact⟨RExt.refl _ _,λall _=>⟨by simp only;omega,by simp[gcP,hi]⟩⟩
 .rename_i hi;split
  .rename_i hc;have hm:i∈refs:=by simpa using hc
   have ah:=List.idxOf_lt_length_of_mem hm;refine⟨RExt.refl _ _,λall ⟨t,ht⟩=>?_⟩;simp only at ht;have b8:refs.idxOf i<all.length:=by rw[ht,zI];omega
   refine⟨by simp only;omega,?_⟩;simp only[gcP,z8 (show ¬ n0+refs.idxOf i<n0 by omega),show n0+refs.idxOf i-n0=refs.idxOf i by omega,zd];rw[ht,xn ah,z1 ah];simp
  .rename_i hc;have hm:i∉refs:=by simpa using hc
   refine⟨⟨⟨[i],rfl,λx hx=>by simp at hx;omega⟩,λh1=>List.nodup_append.2 ⟨h1,by simp,λa ha b hb=>by simp at hb;subst hb;rintro rfl;exact hm ha⟩⟩,λall ⟨t,ht⟩=>?_⟩;simp only at ht;have ah:refs.length<all.length:=by rw[ht];simp
   refine⟨by simp only;omega,?_⟩;simp only[gcP,z8 (show ¬ n0+refs.length<n0 by omega),show n0+refs.length-n0=refs.length by omega];simp[ht,zd]
def Q8w (n0:Nat) (refs fM:List Nat) (v' v:Value):Prop:=RExt n0 refs fM/\∀ (all:List Nat),Sub fM all->Ren (n0+all.length) (gcP n0 all) v' v
def Z31 (n0:Nat) (refs fM:List Nat) (v' v:List Value):Prop:=RExt n0 refs fM/\∀ (all:List Nat),Sub fM all->LRen (n0+all.length) (gcP n0 all) v' v
theorem Yx {n0:Nat}{g:List Nat->Value->Option (Value×List Nat)}(hg:∀ refs v p,g refs v=some p->Q8w n0 refs p.2 p.1 v):∀ (vs:List Value) (refs:List Nat) (p:List Value×List Nat),OM g vs refs=some p->Z31 n0 refs p.2 p.1 vs
 |[],refs,p,h=>by obtain rfl:=osj h;exact⟨RExt.refl _ _,λall _=>⟨rfl,λi a b ha=>by simp at ha⟩⟩
 |v::vs,refs,p,h=>by
  simp only[OM] at h;split at h
  .cases h
  .rename_i p1 h1;split at h
   .cases h
   .rename_i p2 h2;obtain rfl:=osj h;obtain⟨a1,a2⟩:=hg _ _ _ h1;obtain⟨b1,b2⟩:=Yx hg vs _ _ h2;refine⟨a1.trans b1,λall ae=>?_⟩;have c1:=a2 all (b1.sub.trans ae);have c2:=b2 all ae;refine⟨by simp[c2.1],λi a b ha hb=>?_⟩;cases i with
    |zero=>simp at ha hb;subst ha;subst hb;exact c1
    |succ i=>exact c2.2 i a b (by simpa using ha) (by simpa using hb)
theorem LRen.agg {n:Nat}{π:Nat->Nat}{cS:List Value}{cs:Array Value}(h:LRen n π cS cs.toList):Ren n π (.agg cS.toArray) (.agg cs) :=
 .agg _ _ (by simpa using h.1) λi h1 h2=>h.2 i _ _ (by simp) (by simp)
theorem LRen.tuple {n:Nat}{π:Nat->Nat}{cS:List Value}{cs:Array Value}(h:LRen n π cS cs.toList):Ren n π (.tuple cS.toArray) (.tuple cs) :=
 .tuple _ _ (by simpa using h.1) λi h1 h2=>h.2 i _ _ (by simp) (by simp)
theorem Dx (n0:Nat):∀ (f:Nat) (refs:List Nat) (v:Value) (p:Value×List Nat),gcX n0 f refs v=some p->Q8w n0 refs p.2 p.1 v:=by
 intro f;induction f with
 |zero=>intro refs v p h;cases h
 |succ f ih =>
  intro refs v p h;unfold gcX at h;split at h
  .rename_i i o;obtain rfl:=osj h;obtain⟨h1,h2⟩:=HF n0 refs i;refine⟨h1,λall ae=>?_⟩;obtain⟨k1,k2⟩:=h2 all ae;have:=Ren.ptr (n:=n0+all.length) (π:=gcP n0 all) (gcI n0 refs i).1 o k1
   rwa [k2] at this
  .rename_i i o l c;obtain rfl:=osj h;obtain⟨h1,h2⟩:=HF n0 refs i;refine⟨h1,λall ae=>?_⟩;obtain⟨k1,k2⟩:=h2 all ae;have:=Ren.sl (n:=n0+all.length) (π:=gcP n0 all) (gcI n0 refs i).1 o l c k1
   rwa [k2] at this
  .rename_i i o l c;obtain rfl:=osj h;obtain⟨h1,h2⟩:=HF n0 refs i;refine⟨h1,λall ae=>?_⟩;obtain⟨k1,k2⟩:=h2 all ae;have:=Ren.slx (n:=n0+all.length) (π:=gcP n0 all) (gcI n0 refs i).1 o l c k1
   rwa [k2] at this
  .rename_i i;obtain rfl:=osj h;obtain⟨h1,h2⟩:=HF n0 refs i;refine⟨h1,λall ae=>?_⟩;obtain⟨k1,k2⟩:=h2 all ae;have:=Ren.map (n:=n0+all.length) (π:=gcP n0 all) (gcI n0 refs i).1 k1
   rwa [k2] at this
  .obtain rfl:=osj h;exact⟨RExt.refl _ _,λall _=>.poison _⟩
  .split at h
   .rename_i q hq;obtain rfl:=osj h;obtain⟨h1,h2⟩:=ih _ _ _ hq;exact⟨h1,λall ae=>.iface _ _ _ (h2 all ae)⟩
   .cases h
  .split at h
   .rename_i q hq;obtain rfl:=osj h;obtain⟨h1,h2⟩:=Yx ih _ _ _ hq;exact⟨h1,λall ae=>(h2 all ae).agg⟩
   .cases h
  .split at h
   .rename_i q hq;obtain rfl:=osj h;obtain⟨h1,h2⟩:=Yx ih _ _ _ hq;exact⟨h1,λall ae=>(h2 all ae).tuple⟩
   .cases h
  .split at h
   .rename_i q hq;split at h
    .rename_i q2 nb;obtain rfl:=osj h;obtain⟨h1,h2⟩:=Yx ih _ _ _ hq;obtain⟨h3,h4⟩:=Yx ih _ _ _ nb;refine⟨h1.trans h3,λall ae=>?_⟩;have c1:=h2 all (h3.sub.trans ae);have c2:=h4 all ae;exact .func _ _ _ _ _ (by simpa using c1.1) (by simpa using c2.1) (λi h1 h2=>c1.2 i _ _ (by simp) (by simp)) (λi h1 h2=>c2.2 i _ _ (by simp) (by simp))
    .cases h
   .cases h
  .rename_i i;split at h
   .rename_i hi;obtain rfl:=osj h;refine⟨RExt.refl _ _,λall _=>?_⟩;have:=Ren.yield (n:=n0+all.length) (π:=gcP n0 all) i (by omega)
    rwa [show gcP n0 all i=i by simp[gcP,hi]] at this
   .cases h
  .split at h
   .rename_i hp;obtain rfl:=osj h;exact⟨RExt.refl _ _,λall _=>.plain _ hp⟩
   .cases h
theorem LJ (n0:Nat):∀ (es:List JD) (refs:List Nat) (p:List JD×List Nat),Z1z n0 es refs=some p->RExt n0 refs p.2/\∀ (all:List Nat),Sub p.2 all ->
  p.1.length=es.length/\∀ (k:Nat) (a b:JD),p.1[k]?=some a->es[k]?=some b->a.1=b.1/\a.2.2=b.2.2/\Ren (n0+all.length) (gcP n0 all) a.2.1 b.2.1
 |[],refs,p,h=>by obtain rfl:=osj h;exact⟨RExt.refl _ _,λall _=>⟨rfl,λi a b ha=>by simp at ha⟩⟩
 |e::es,refs,p,h=>by
  simp only[Z1z] at h;split at h
  .cases h
  .rename_i p1 h1;split at h
   .cases h
   .rename_i p2 h2;obtain rfl:=osj h;obtain⟨a1,a2⟩:=Dx n0 _ _ _ _ h1;obtain⟨b1,b2⟩:=LJ n0 es _ _ h2;refine⟨a1.trans b1,λall ae=>?_⟩;have c1:=a2 all (b1.sub.trans ae);obtain⟨c2,c3⟩:=b2 all ae;refine⟨by simp[c2],λi a b ha hb=>?_⟩;cases i with
    |zero=>simp at ha hb;subst ha;subst hb;exact⟨rfl,rfl,c1⟩
    |succ i=>exact c3 i a b (by simpa using ha) (by simpa using hb)
theorem Q15 {n0:Nat}{refs:List Nat}{b:EB}{p:EB×List Nat}(h:gcB n0 refs b=some p):RExt n0 refs p.2/\∀ (all:List Nat),Sub p.2 all->∀ q q',BRen (n0+all.length) (gcP n0 all) (p.1.to q') (b.to q):=by
 unfold gcB at h;split at h
 .split at h
  .rename_i q hq;obtain rfl:=osj h;obtain⟨h1,h2⟩:=Yx (Dx n0 8) _ _ _ hq;exact⟨h1,λall ae _ _=>⟨rfl,rfl,rfl,h2 all ae⟩⟩
  .cases h
 .split at h
  .rename_i q hq;obtain rfl:=osj h;obtain⟨h1,h2⟩:=LJ n0 _ _ _ hq;exact⟨h1,λall ae _ _=>⟨rfl,rfl,(h2 all ae).1,(h2 all ae).2⟩⟩
  .cases h
 .cases h
theorem E8 {h':CH}{n0:Nat}:∀ (f k:Nat) (refs:List Nat) (acc:CH) (r:CH×List Nat),Q0a h' n0 f k refs acc=some r->acc.n=n0+k->acc.n<=1000000001 ->
  RExt n0 refs r.2/\r.1.n=n0+r.2.length/\r.1.n<=1000000001/\(∀ i,i<acc.n->r.1.get i=acc.get i) /\
  ∀ j,k<=j->j<r.2.length->∃ b b',h'.get (r.2.getD j 0)=some b/\r.1.get (n0+j)=some b'/\∀ q q',BRen (n0+r.2.length) (gcP n0 r.2) (b'.to q') (b.to q):=by
 intro f;induction f with
 |zero=>intro k refs acc r h;cases h
 |succ f ih =>
  intro k refs acc r h hn hs;simp only[Q0a] at h;split at h
  .split at h
   .rename_i hk;obtain rfl:=osj h;exact⟨RExt.refl _ _,by rw[hn,hk],hs,λ_ _=>rfl,λj h1 h2=>by simp only at h2;omega⟩
   .cases h
  .rename_i hk;split at h
   .cases h
   .rename_i b hb;split at h
    .cases h
    .rename_i p hp;split at h
     .rename_i aX;have aX:acc.n<=1000000000:=zG aX;obtain⟨a1,a2⟩:=Q15 hp;have jA:(acc.push p.1).n=acc.n+1:=rfl;obtain⟨b1,b2,b3,b4,b5⟩:=ih (k+1) p.2 (acc.push p.1) r h (by rw[jA];omega) (by rw[jA];omega);refine⟨a1.trans b1,b2,b3,λi hi=>?_,λj ki dA=>?_⟩
      .rw[b4 i (by rw[jA];omega),CH.q1s hs,z8 (by omega)]
      .by_cases ew:j=k
       .subst ew;have bn:j<refs.length:=by omega
        obtain⟨t,ht⟩:=(a1.trans b1).sub;have hg:r.2.getD j 0=refs.getD j 0:=by rw[ht,zd,zd,xn bn]
        refine⟨b,p.1,by rw[hg];exact hb,?_,a2 r.2 b1.sub⟩;rw[<-hn,b4 _ (by rw[jA];omega),CH.q1s hs,z7 rfl]
       .exact b5 j (by omega) dA
     .cases h
theorem BP {rs bk:Ul}{h h':CH}{M M':Heap}(hs:CSim rs h M) (aY:CSim bk h' M') (hr:∀ i,i<h.n->bk i=rs i) {v:Value}{y x:Value×CH}(hg:Lg h h' v=some y) (h1:y.1=x.1) (h2:y.2.n=x.2.n) (h3:∀ i,y.2.get i=x.2.get i) :
  DropTo M v M' x.1 (x.2.toHeap rs):=by
 unfold Lg at hg;split at hg
 .cases hg
 .rename_i p hp;split at hg
  .cases hg
  .rename_i q hq;obtain rfl:=osj hg;simp only at h1 h2 h3;obtain⟨f1,f2⟩:=Dx h.n 8 [] v p hp;unfold Q2a at hq;split at hq
   .rename_i ek;simp only[CH.keepOk,z6,zf,zD] at ek;obtain⟨hle,ek⟩:=ek;have hle:h.n<=h'.n:=zG hle;have na:=hs.sm;obtain⟨g0,g1,g2,g3,g4⟩:=E8 _ 0 p.2 ⟨h'.t,h.n⟩ q hq rfl na;have ae:=f1.trans g0;have j6:q.2.Nodup:=ae.2 List.nodup_nil;have bj:∀ x∈q.2,h.n<=x:=by
     obtain⟨⟨t,ht,hx⟩,_⟩:=ae;simpa [ht] using hx
    have hold:∀ i,i<h.n->q.1.get i=h'.get i:=λi hi=>by rw[g3 i hi,CH.q0v (h:=⟨h'.t,h.n⟩) hi,CH.q0v (by omega)]
    have j7:(x.2.toHeap rs).n=h.n+q.2.length:=by show x.2.n=_;rw[<-h2,g1]
    have sy:∀ i,(x.2.toHeap rs).get i=(q.1.get i).map (EB.to (rs i)):=λi=>by show (x.2.get i).map _=_;rw[<-h3 i]
    rw[<-h1];refine DropTo.rename (gcP h.n q.2) (by rw[j7,<-hs.n];omega) (λi hi=>?_) (λi jD iM=>?_) (λi j jD iM ki dA he=>?_) (by rw[j7];exact f2 q.2 g0.sub)
    .rw[<-hs.n] at hi;refine⟨by simp[gcP,hi],by rw[sy,hold i hi,aY.get,hr i hi],?_⟩;have:=ek i hi;rw[aY.get,hs.get];split at this
     .rename_i e1 e2;rw[e1,e2];exact .inl rfl
     .rename_i a b e1 e2;rw[e1,e2];rw[zy] at this;rcases this with hb|hb
      .exact .inr ⟨_,rfl,(Fw hb).1⟩
      .rw[EB.beq_eq hb,hr i hi];exact .inl rfl
     .cases this
    .rw[<-hs.n] at jD;rw[j7] at iM;obtain⟨b,b',e1,e2,e3⟩:=g4 (i-h.n) (by omega) (by omega);have jB:gcP h.n q.2 i=q.2.getD (i-h.n) 0:=by simp[gcP,wM.2 jD]
     have aO:q.2.getD (i-h.n) 0∈q.2:=by
      have:i-h.n<q.2.length:=by omega
      simp[zd,this]
     rw[show h.n+(i-h.n)=i by omega] at e2;rw[jB];refine⟨by rw[<-hs.n];exact bj _ aO,b'.to (rs i),b.to (bk (q.2.getD (i-h.n) 0)),by rw[sy,e2];rfl,by rw[aY.get,e1];rfl,by rw[j7];exact e3 _ _⟩
    .rw[<-hs.n] at jD ki;rw[j7] at iM dA;simp only[gcP,wM.2 jD,wM.2 ki,if_false] at he;have jC:i-h.n<q.2.length:=by omega
     have m_:j-h.n<q.2.length:=by omega
     simp only[zd,z1 jC,z1 m_,Option.getD_some] at he;have:=(List.getElem_inj (h₀:=jC) (h₁:=m_) j6).1 he;omega
   .cases hq
theorem P0 {a m d:Nat}{g:Value->Option Value}(hg:∀ v u,g v=some u->Sh a m d v u):∀ (vs us:List Value),Z0z g vs=some us->vs.length=us.length/\∀ (i:Nat) (v u:Value),vs[i]?=some v->us[i]?=some u->Sh a m d v u
 |[],us,h=>by obtain rfl:=osj h;exact⟨rfl,λi v u h=>by simp at h⟩
 |v::vs,us,h=>by
  simp only[Z0z] at h;split at h
  .cases h
  .rename_i u hu;split at h
   .cases h
   .rename_i jE dp;obtain rfl:=osj h;obtain⟨h1,h2⟩:=P0 hg vs jE dp;refine⟨by simp[h1],λi v' u' gP cy=>?_⟩;cases i with
    |zero=>simp at gP cy;subst gP;subst cy;exact hg _ _ hu
    |succ i=>exact h2 i v' u' (by simpa using gP) (by simpa using cy)
theorem Q1u (a m d:Nat):∀ (f:Nat) (v u:Value),shX a m d f v=some u->Sh a m d v u:=by
 intro f;induction f with
 |zero=>intro v u h;cases h
 |succ f ih =>
  intro v u h;unfold shX at h;split at h
  .split at h
   .rename_i hc;obtain rfl:=osj h;exact .ptr _ _ hc.1 hc.2
   .cases h
  .split at h
   .rename_i hc;obtain rfl:=osj h;exact .sl _ _ _ _ hc.1 hc.2
   .cases h
  .split at h
   .rename_i p hp;obtain rfl:=osj h;obtain⟨h1,h2⟩:=P0 ih _ _ hp;exact .agg _ _ (by simpa using h1) λi k1 k2=>h2 i _ _ (by simp) (by simp)
   .cases h
  .split at h
   .rename_i p hp;obtain rfl:=osj h;obtain⟨h1,h2⟩:=P0 ih _ _ hp;exact .tuple _ _ (by simpa using h1) λi k1 k2=>h2 i _ _ (by simp) (by simp)
   .cases h
  .split at h
   .rename_i hc;obtain rfl:=osj h;exact .plain _ hc
   .cases h
theorem Pk {rs:Ul}{h:CH}{M:Heap}(hs:CSim rs h M):∀ (m:List PB) (k:Nat) (refs r:List Nat),TW h k refs m=some r ->
  Sub refs r/\r.length=k+m.length/\∀ i b,m[i]?=some b->∃ wr c',M.get (r.getD (k+i) 0)=some (.cells c' b.esz wr b.tight)/\LRen r.length (gcP 0 r) b.c c'
 |[],k,refs,r,hb=>by
  simp only[TW] at hb;split at hb
  .rename_i hl;obtain rfl:=osj hb;exact⟨⟨[],by simp⟩,by simp[hl],λi b h=>by simp at h⟩
  .cases hb
 |b::m,k,refs,r,hb=>by
  simp only[TW] at hb;split at hb
  .rename_i hk;split at hb
   .rename_i c e w t hg;split at hb
    .rename_i p hp;split at hb
     .rename_i hc;simp only[z6,zm,zT] at hc;obtain⟨rfl,rfl,h3⟩:=hc;have h3:=UU (M8 20) _ _ h3;obtain⟨s1,s2⟩:=Yx (Dx 0 8) _ _ _ hp;obtain⟨i1,i2,i3⟩:=Pk hs m (k+1) p.2 r hb;have gG:=s1.sub.trans i1;refine⟨gG,by rw[i2,xh];omega,λi b' bM=>?_⟩;cases i with
      |zero =>
       have bM:b=b':=by simpa using bM
       subst bM;obtain⟨u,hu⟩:=gG;have en:r.getD (k+0) 0=refs.getD k 0:=by rw[hu,zK,zd,zd,xn hk]
       have hl:=s2 r i1;rw[h3,x3] at hl;exact⟨w,c,by rw[en];exact hs.cells hg,hl⟩
      |succ i =>
       have:=i3 i b' (by simpa using bM)
       rwa [show k+1+i=k+(i+1) by omega] at this
     .cases hb
    .cases hb
   .cases hb
  .cases hb
theorem Mx {rs:Ul}:∀ (fr:List PB) {h:CH}{M:Heap},CSim rs h M->h.n+fr.length<=1000000000->CSim rs (Xa fr h) (XU M fr)/\(Xa fr h).n=h.n+fr.length
 |[],h,M,hs,_=>by
  have:XU M []=M:=Heap.ext' (λj=>by
   show (if j<M.n then M.get j else _)=_;split
   .rfl
   .rename_i hj;rw[M.wf j (by omega)];simp) rfl
  rw[this];exact⟨hs,rfl⟩
 |b::l,h,M,hs,hr=>by
  have hr:h.n+(l.length+1)<=1000000000:=hr;have hn:=hs.n;have h1:CSim rs (h.push (.cells b.c b.esz true b.tight)) (M.push (b.blk true)):=hs.push (Nat.ble_eq_true_of_le (by omega)) rfl;obtain⟨h2,h3⟩:=Mx l h1 (by show h.n+1+_<=_;omega);refine⟨?_,by rw[show Xa (b::l) h=Xa l (h.push (.cells b.c b.esz true b.tight)) from rfl,h3];show h.n+1+l.length=h.n+(l.length+1);omega⟩;have:XU M (b::l)=XU (M.push (b.blk true)) l:=Heap.ext' (λj=>by
   show (if j<M.n then M.get j else _)=(if j<M.n+1 then (M.push (b.blk true)).get j else _);rcases Nat.lt_trichotomy j M.n with hj|hj|hj
   .rw[z7 hj,z7 (by omega),Heap.q0i _ _ hj]
   .subst hj;rw[z8 (by omega),z7 (by omega),Heap.q0a];simp
   .rw[z8 (by omega),z8 (by omega)];rw[show j-M.n=(j-(M.push (b.blk true)).n)+1 by simp;omega];rfl) (by simp[XU];omega)
  rw[this];exact h2
theorem PY {h:CH}{args:List Value}{refs:List Nat}:∀ (ms:List Memo) (m:Memo),Ay h args refs ms=some m->m∈ms/\args=m.args/\(TW h 0 refs m.bl).isSome=true
 |[],m,h=>by cases h
 |m0::ms,m,h=>by
  simp only[Ay] at h;split at h
  .rename_i hc;obtain rfl:=osj h;rw[z6] at hc;exact⟨zu,UU (M8 20) _ _ hc.1,hc.2⟩
  .obtain⟨h1,h2⟩:=PY ms m h;exact⟨zi _ h1,h2⟩
theorem Tg {f:FuncId}{args:List Value}{ms:List Memo}(hm:∀ m∈ms,NM P f m) {rs:Ul}{h:CH}{M:Heap}(hs:CSim rs h M) {p:Value×CH}(hp:RL h args ms=some p)
  {K:Value->Heap->Prop}(hK:∀ M',h.n<=p.2.n->CSim rs p.2 M'->K p.1 M'):VCalled P f args M K:=by
 unfold RL at hp;split at hp
 .cases hp
 .rename_i q hq;split at hp
  .cases hp
  .rename_i m lS;obtain⟨h1,h2,h3⟩:=PY ms m lS;obtain⟨k1,k3⟩:=hm m h1;obtain⟨r,jt⟩:=Option.isSome_iff_exists.1 h3;obtain⟨l0,l1,l2⟩:=Pk hs _ _ _ _ jt;rw[x3] at l1;split at hp
   .cases hp
   .rename_i hr;have hr:=zG hr;split at hp
    .rename_i v hv;obtain rfl:=osj hp;obtain⟨s1,s2⟩:=Mx m.fr hs hr;have hx:=(Yx (Dx 0 8) _ _ _ hq).2 r l0;rw[h2,l1] at hx;refine VCalled.localize (π:=gcP 0 r) k1 k3 (λi b hb=>?_) (by simpa using hx) ?_ (hK _ (by rw[s2];omega) s1)
     .obtain⟨wr,c',g1,g2⟩:=l2 i b hb;rw[l1] at g2;exact⟨wr,c',by simpa [gcP] using g1,g2⟩
     .have:=Q1u _ _ _ _ _ _ hv
      rwa [hs.n] at this
    .cases hp
theorem GH (hm:P.follows .mixedOrders=true) (hT:TabOk P T) (cW:Sd P ev) (hG:Good R G) {ys:Ys}{f:FuncId}{args:List Value}{h:CH}{k:Value->CH->A}{rs:Ul}{M:Heap}{K:Value->Heap->Prop}
  (hY:YOk P ys rs h.n) (hs:CSim rs h M) (he:G (Bf T ev R ys f args h k)) (hk:Q7j G rs h k K):VCalled P f args M K:=by
 unfold Bf at he;split at he
 .rename_i vc rl nt hf;have hF:=hT.code f vc rl nt hf;split at he
  .rename_i hb;exact hF.calls hm Dw (cW R G hG ys vc none _ _ h _ rs M _ hY hs (ET.q1q (zG hb)) he (MT hG hk))
  .exact(hG.fail he).elim
 .rename_i vc rl nt hf;have hF:=hT.codeJ f vc rl nt hf;split at he
  .rename_i hb;split at he
   .rename_i x hx;split at he
    .rename_i hc;have aX:x.2.n<=1000000000:=zG hc.1;have hK:=hk x.1 x.2 rs _ (zG hc.2) (λ_ _=>rfl) (BD (by omega)) he;refine hF.calls hm Dw (cW joinOps (Eb x) (RD x) ys vc none _ _ h _ rs M _ hY hs (ET.q1q (zG hb)) (show Eb x _ from ⟨x,hx,rfl,rfl,λ_=>rfl⟩) ?_);intro e dR h' bk M' af hn hr aY b7 _ hg;have fin:Eb x (match MN dR h' rl with|some v=>Lg h h' v|none=>none)->QX (Zv af M' rl) λv=>∃ v' aE,DropTo M v M' v' aE/\K v' aE:=by
      rintro⟨y,hy,h1,h2,h3⟩;split at hy
      .rename_i v hv;rw[Ge aY b7 hv];exact⟨_,_,BP hs aY hr hy h1 h2 h3,hK⟩
      .cases hy
     cases e with
     |normal=>exact fin hg
     |ret=>exact fin hg
     |_=>obtain⟨y,hy,_⟩:=hg;cases hy
    .exact(hG.fail he).elim
   .exact(hG.fail he).elim
  .exact(hG.fail he).elim
 .rename_i vc rl nt ms hf;obtain⟨hF,hM⟩:=hT.codeM f vc rl nt ms hf;split at he
  .rename_i p hp;exact Tg hM hs hp λM' hn aY=>hk _ _ rs M' hn (λ_ _=>rfl) aY he
  .split at he
   .rename_i hb;exact hF.calls hm Dw (cW R G hG ys vc none _ _ h _ rs M _ hY hs (ET.q1q (zG hb)) he (MT hG hk))
   .exact(hG.fail he).elim
 .rename_i hf;split at he
  .rename_i v;exact hT.same f hf v M K (hk v h rs M (ze _) (λ_ _=>rfl) hs he)
  .exact(hG.fail he).elim
 .exact(hG.fail he).elim
theorem Sv (hm:P.follows .mixedOrders=true) (cW:Sd P ev) (hG:Good R G) {ys:Ys}{f:FuncId}{vc:VCode}{rl:List VResult}{nt:Nat}(hf:T f=some (.code vc rl nt)) (hF:Fun P f vc rl nt) {args:List Value}{h:CH}{k:Value->CH->A}{rs:Ul}{M:Heap}{K:Value->Heap->Prop}
  (hY:YOk P ys rs h.n) (hs:CSim rs h M) (he:G (Bf T ev R ys f args h k)) (hk:Q7j G rs h k K):VCallsTo P f args M K:=by
 unfold Bf at he;rw[hf] at he;simp only at he;split at he
 .rename_i hb;exact hF.callsTo hm Dw (cW R G hG ys vc none _ _ h _ rs M _ hY hs (ET.q1q (zG hb)) he (MT hG hk))
 .exact(hG.fail he).elim
theorem S_ (cW:Sd P ev) (hG:Good R G) {ys:Ys}{i:Nat}{args:List Value}{h:CH}{k:Value->CH->A}{rs:Ul}{M:Heap}{K:Value->Heap->Prop}
  (hY:YOk P ys rs h.n) (hs:CSim rs h M) (he:G (IP ev R ys i args h k)) (hk:Q7j G rs h k K):VYields P i args M K:=by
 unfold IP at he;split at he
 .rename_i c hc;obtain⟨aO,lZ,ai⟩:=hY i c hc;split at he
  .rename_i hg;split at he
   .rename_i hlen;refine ai args M K ⟨hs.lp hg,hlen,?_⟩;refine cW R G hG ys c.a (some i) _ _ h _ rs M _ hY hs (R8 c.ps args lZ) he ?_;intro e lq h1 fN σ1 bA fG f_ kj fX _ iq;cases e with
    |normal =>
     simp only[Q3h] at iq;split at iq
     .rename_i iA;have e1:fN i=rs i:=f_ i aO;have oi:=kj.lp iA;rw[e1] at oi;refine⟨oi,?_⟩;have jD:=kj.lt iA;refine cW R G hG ys c.b (some i) lq bA _ _ fN _ _ (hY.mono (n':=(h1.upd i (.lp .busy none)).n) fG f_) (kj.upd jD (b:=.lp .busy none) (by rw[EB.to,e1])) fX iq ?_;intro e2 gb h2 eH M2 aU dQ dY dI gd _ cR;have ma:h1.n<=h2.n:=dQ;have jF:eH i=rs i:=(dY i jD).trans e1;unfold Iz at cR;split at cR
      .rename_i om;have iM:=dI.lt om;have oo:=dI.lp om;rw[jF] at oo;refine⟨oo,?_⟩;have agree:∀ j,j<h.n->eH j=rs j:=λj hj=>(dY j (xi hj fG)).trans (f_ j hj);cases e2 with
       |normal=>exact hk _ (h2.upd i (.lp .ready none)) eH _ (zY fG ma) agree (dI.upd iM (b:=.lp .ready none) (by simp only[EB.to,jF])) cR
       |ret=>exact hk _ (h2.upd i (.lp .done (some .ret))) eH _ (zY fG ma) agree (dI.upd iM (b:=.lp .done (some .ret)) (by simp only[EB.to,jF])) cR
       |exit id=>exact hk _ (h2.upd i (.lp .done (some (.exit id)))) eH _ (zY fG ma) agree (dI.upd iM (b:=.lp .done (some (.exit id))) (by simp only[EB.to,jF])) cR
       |_=>exact(hG.fail cR).elim
      .exact(hG.fail cR).elim
     .exact(hG.fail iq).elim
    |_=>exact(hG.fail iq).elim
   .exact(hG.fail he).elim
  .exact(hG.fail he).elim
 .exact(hG.fail he).elim
theorem BO (hG:Good R G) {i m since clock:Nat}{seen:List Nat}{h:CH}{k:Value->CH->A}:∀ (es:List JD),
  (∀ e∈es,seen.contains e.2.2=true)/\G7 R i m since clock seen h k es=none \/
  ∃ a,G7 R i m since clock seen h k es=some a/\(G a->∀ e∈es,seen.contains e.2.2=false->G (k (.tuple #[.bool true,e.1,e.2.1]) (h.upd i (.iter m since (seen++[e.2.2]) clock))))
 |[]=>.inl ⟨λ_ h=>(by cases h),rfl⟩
 |e::es=>by
  have ih:=BO hG (i:=i) (m:=m) (since:=since) (clock:=clock) (seen:=seen) (h:=h) (k:=k) es;by_cases hc:seen.contains e.2.2=true
  .have he:G7 R i m since clock seen h k (e::es)=G7 R i m since clock seen h k es:=by rw[G7,z7 hc]
   rw[he];rcases ih with⟨h1,h2⟩|⟨a,h1,h2⟩
   .exact .inl ⟨λx hx=>by rcases zn.1 hx with rfl|hx;exact hc;exact h1 x hx,h2⟩
   .refine .inr ⟨a,h1,λmb x hx br=>?_⟩;rcases zn.1 hx with rfl|hx
    .rw[hc] at br;cases br
    .exact h2 mb x hx br
  .rcases ih with⟨h1,h2⟩|⟨a,h1,h2⟩
   .refine .inr ⟨k (.tuple #[.bool true,e.1,e.2.1]) (h.upd i (.iter m since (seen++[e.2.2]) clock)),by rw[G7,z8 hc,h2],λmb x hx br=>?_⟩;rcases zn.1 hx with rfl|hx
    .exact mb
    .rw[h1 x hx] at br;cases br
   .refine .inr ⟨R.both (k (.tuple #[.bool true,e.1,e.2.1]) (h.upd i (.iter m since (seen++[e.2.2]) clock))) a,by rw[G7,z8 hc,h1],λmb x hx br=>?_⟩;obtain⟨g1,g2⟩:=hG.both _ _ mb;rcases zn.1 hx with rfl|hx
    .exact g1
    .exact h2 g2 x hx br
theorem CG (hG:Good R G) {x:Value}{h:CH}{k:Value->CH->A}{rs:Ul}{M:Heap}{K:Value->Heap->Prop}(hs:CSim rs h M) (he:G (Q5c R x h k)) (hk:Q7j G rs h k K):Cg x M K:=by
 unfold Q5c at he;unfold Cg;split at he
 .rename_i i;split at he
  .rename_i m since seen last hg;have hi:=hs.lt hg;simp only[hs.iter hg];split at he
   .rename_i es clock wr ic;obtain⟨k1,_⟩:=hs.mapAt ic;simp only[k1];split at he
    .rename_i hc;refine⟨hc.1,hc.2,?_⟩;rcases BO hG (i:=i) (m:=m) (since:=since) (clock:=clock) (seen:=seen) (h:=h) (k:=k) es with⟨h1,h2⟩|⟨a,h1,h2⟩
     .rw[h2] at he;simp only at he;split at he
      .exact⟨λ_=>hk _ _ rs M (ze _) (λ_ _=>rfl) hs he,λe gI mc=>by rw[h1 e gI] at mc;cases mc⟩
      .exact(hG.fail he).elim
     .rw[h1] at he;simp only at he;have key:G a->∀ e∈es,seen.contains e.2.2=false->K (.tuple #[.bool true,e.1,e.2.1]) (M.upd i (.obj (.iter m since (seen++[e.2.2]) clock) true)):=λmb e gI mc =>
       hk _ (h.upd i (.iter m since (seen++[e.2.2]) clock)) rs _ (ze _) (λ_ _=>rfl) (hs.upd hi rfl) (h2 mb e gI mc)
      split at he
      .obtain⟨g1,g2⟩:=hG.both _ _ he;exact⟨λ_=>hk _ _ rs M (ze _) (λ_ _=>rfl) hs g1,key g2⟩
      .rename_i hn;exact⟨λhh=>absurd hh hn,key he⟩
    .exact(hG.fail he).elim
   .exact(hG.fail he).elim
  .exact(hG.fail he).elim
 .exact(hG.fail he).elim
theorem Rf (hm:P.follows .mixedOrders=true) (hT:TabOk P T) (cW:Sd P ev) (hG:Good R G) {ys:Ys}{o:VOp}{et:ET}{env:Env}(hE:FRel et env) {h:CH}{k:Value->CH->A}{rs:Ul}{M:Heap}{K:Value->Heap->Prop}
  (hY:YOk P ys rs h.n) (hs:CSim rs h M) (he:G (Q63 T ev R ys o et h k)) (hk:Q7j G rs h k K):vop (Q2 P) o env M K:=by
 have aj:=HG hE;have other:∀ o':VOp,G (FT R (Ck o' (GI et) h) k)->QX (Q7 o' (Q3 env) M) λp=>K p.1 p.2:=by
  intro o' hg;rw[aj] at hg;unfold FT at hg;split at hg
  .rename_i p hp;obtain⟨h1,M',h2,h3⟩:=KM hs hp;rw[h2];exact hk _ _ rs M' h1 (λ_ _=>rfl) h3 hg
  .exact(hG.fail hg).elim
 cases o
 case callF f args =>
  simp only[Q63,aj] at he;exact GH hm hT cW hG hY hs he hk
 case callV f args =>
  simp only[Q63,aj] at he;simp only[vop];unfold Q3l at he;split at he
  .rename_i g first cap hg
   simp only[hg];exact GH hm hT cW hG hY hs he hk
  .rename_i i first cap hg
   simp only[hg];exact S_ cW hG hY hs he hk
  .exact(hG.fail he).elim
 case ext x =>
  cases x
  case nextMap x =>
   simp only[Q63,aj] at he;exact CG hG hs he hk
  case delete a b c=>exact other (.ext (.delete a b c)) he
  case mapEntry a z b c=>exact other (.ext (.mapEntry a z b c)) he
  case entryStore a b c=>exact other (.ext (.entryStore a b c)) he
  all_goals exact other _ he
 case move a=>exact other (.move a) he
 case makeFunc a b c=>exact other (.makeFunc a b c) he
 case bad=>exact other .bad he
 all_goals exact other _ he
theorem T5 (hm:P.follows .mixedOrders=true) (hT:TabOk P T) (cW:Sd P ev) (hG:Good R G) {ys:Ys}{k:ET->CH->A}{K:Env->Heap->Prop}:∀ (ops:List VOper) (et:ET) (env:Env) (h:CH) (rs:Ul) (M:Heap),
  YOk P ys rs h.n->CSim rs h M->FRel et env->G (FI T ev R ys ops et h k)->Q0g G rs h (List.length env) k K->BH (Q2 P) ops env M K:=by
 intro ops;induction ops with
 |nil=>intro et env h rs M hY hs hE he hk;exact hk et h rs M env (ze _) (λ_ _=>rfl) hs hE rfl he
 |cons o rest ih =>
  intro et env h rs M hY hs hE he hk
  have he:G (match FE et o.guard with
   |none=>R.fail
   |some true=>Q63 T ev R ys o.op et h λv h'=>FI T ev R ys rest (et.put o.dst v) h' k
   |some false=>FI T ev R ys rest (et.put o.dst undef) h k):=he
  rw[AA hE] at he;simp only[BH];split at he
  .exact(hG.fail he).elim
  .rename_i hw;rw[hw];refine⟨λ_=>?_,λhh=>by cases hh⟩;refine Rf hm hT cW hG hE hY hs he ?_;intro v h' bk M' hn hr aY hg;refine ih _ _ h' bk M' (hY.mono hn hr) aY (hE.put _ _) hg ?_;intro gb h2 eH M2 aU dQ dY dI gd hl cR;exact hk gb h2 eH M2 aU (zY hn dQ) (λi hi=>(dY i (by omega)).trans (hr i hi)) dI gd (by rw[hl,Zs]) cR
  .rename_i hw;rw[hw];refine⟨λhh=>(by cases hh),λ_=>?_⟩;refine ih _ _ h rs M hY hs (hE.put _ _) he ?_;intro gb h2 eH M2 aU dQ dY dI gd hl cR;exact hk gb h2 eH M2 aU dQ dY dI gd (by rw[hl,Zs]) cR
def CSims (rs:Ul) (n:Nat):List CH->List Heap->Prop
 |[],[]=>True
 |h::hs,M::σs=>(CSim rs h M/\h.n<=n)/\CSims rs n hs σs
 |_,_=>False
theorem CSims.mono {rs bk:Ul}{n n':Nat}(hn:n<=n') (hr:∀ i,i<n->bk i=rs i):∀ {hs:List CH}{σs:List Heap},CSims rs n hs σs->CSims bk n' hs σs
 |[],[],_=>trivial
 |h::hs,M::σs,⟨⟨h1,h2⟩,h3⟩=>⟨⟨h1.rs λi hi=>hr i (by omega),by omega⟩,CSims.mono hn hr h3⟩
 |[],_::_,h=>h.elim
 |_::_,[],h=>h.elim
theorem CSims.snoc {rs:Ul}{n:Nat}{h:CH}{M:Heap}(hs:CSim rs h M) (hn:h.n<=n):∀ {hl:List CH}{σl:List Heap},CSims rs n hl σl->CSims rs n (hl++[h]) (σl++[M])
 |[],[],_=>⟨⟨hs,hn⟩,trivial⟩
 |_::_,_::_,⟨h1,h2⟩=>⟨h1,CSims.snoc hs hn h2⟩
 |[],_::_,h=>h.elim
 |_::_,[],h=>h.elim
theorem BR {rs:Ul}{h:CH}{M:Heap}(hs:CSim rs h M) {op:VOp}{ev:Operand->Value}{v:Value}(hr:CU op ev v h=true):JW op ev v M:=by
 unfold CU at hr;split at hr
 .rename_i q hq;obtain⟨_,M',h2,_⟩:=KM hs hq;unfold JW;rw[h2];exact M8 _ _ _ hr
 .cases hr
def Q0w:List (Nat×(CH->Bool))->List (Nat×(Heap->Prop))->Prop
 |[],[]=>True
 |c::l,d::m=>(c.1=d.1/\∀ rs h M,CSim rs h M->c.2 h=true->d.2 M)/\Q0w l m
 |_,_=>False
theorem GU {rs:Ul}{h:CH}{M:Heap}(hs:CSim rs h M) {r:Nat}:∀ {l:List (Nat×(CH->Bool))}{m:List (Nat×(Heap->Prop))},Q0w l m->O4 r h l=true->JX r M m
 |[],[],_,_=>trivial
 |c::l,d::m,⟨⟨h1,h2⟩,h3⟩,he=>by
  simp only[O4,z6,zy,Bool.not_eq_true'] at he;refine⟨λhr=>h2 rs h M hs ?_,GU hs h3 he.2⟩;rcases he.1 with h|h
  .rw[h1,Nat.ble_eq_true_of_le hr] at h;cases h
  .exact h
 |[],_::_,h,_=>h.elim
 |_::_,[],h,_=>h.elim
theorem CSims.mem {rs:Ul}{n:Nat}:∀ {hl:List CH}{σl:List Heap},CSims rs n hl σl->∀ (f:CH->Bool) (Q:Heap->Prop),(∀ rs h M,CSim rs h M->f h=true->Q M)->∀ j,(hl.drop j).all f=true->∀ U∈σl.drop j,Q U
 |[],[],_,_,_,_,_,_,U,hτ=>by simp at hτ
 |h::hl,M::σl,⟨h1,h2⟩,f,Q,hQ,0,ha,U,hτ=>by
  simp only[x5,zW,z6,zn] at ha hτ;rcases hτ with rfl|hτ
  .exact hQ rs h U h1.1 ha.1
  .exact CSims.mem h2 f Q hQ 0 (by simpa using ha.2) U (by simpa using hτ)
 |h::hl,M::σl,⟨h1,h2⟩,f,Q,hQ,j+1,ha,U,hτ=>CSims.mem h2 f Q hQ j (by simpa using ha) U (by simpa using hτ)
 |[],_::_,h,_,_,_,_,_,_,_=>h.elim
 |_::_,[],h,_,_,_,_,_,_,_=>h.elim
theorem CSims.length {rs:Ul}{n:Nat}:∀ {hl:List CH}{σl:List Heap},CSims rs n hl σl->hl.length=σl.length
 |[],[],_=>rfl
 |_::_,_::_,⟨_,h⟩=>by simp[CSims.length h]
 |[],_::_,h=>h.elim
 |_::_,[],h=>h.elim
theorem BN (hm:P.follows .mixedOrders=true) (hT:TabOk P T) (cW:Sd P ev) (hG:Good R G) {ys:Ys}{k:ET->CH->A}{K:Env->Heap->Prop}:∀ (ops:List DOper) (et:ET) (env:Env) (hl:List CH) (h:CH) (pe:List (Nat×(CH->Bool))) (rs:Ul) (σl:List Heap) (M:Heap) (pv:List (Nat×(Heap->Prop))),
  YOk P ys rs h.n->CSim rs h M->FRel et env->CSims rs h.n hl σl->Q0w pe pv->G (Gr T ev R ys ops et hl h pe k)->Q0g G rs h (List.length env) k K->Zq (Q2 P) ops env σl M pv K:=by
 intro ops;induction ops with
 |nil=>intro et env hl h pe rs σl M pv hY hs hE me hp he hk;exact hk et h rs M env (ze _) (λ_ _=>rfl) hs hE rfl he
 |cons o rest ih =>
  intro et env hl h pe rs σl M pv hY hs hE me ez he hk;have aj:=HG hE;simp only[Gr,AA hE,aj] at he;simp only[Zq];have hlen:=me.length;split at he
  .exact(hG.fail he).elim
  .rename_i hw;rw[hw];refine⟨λ_=>?_,λhh=>by cases hh⟩;split at he
   .rename_i av;rw[z7 av];split at he
    .rename_i p hp;split at he
     .rename_i mf;obtain⟨fO,qT⟩:=mf;simp only[CH.newOk,z6,zf] at fO;obtain⟨n1,n2,n3⟩:=fO;have n1:h.n<=p.2.n:=zG n1;have n2:p.2.n<=1000000000:=zG n2;have mg:CSim rs p.2 (p.2.toHeap rs):=BD (by omega);refine .inl ⟨p.1,p.2.toHeap rs,?_,?_,?_⟩
      .refine Rf hm hT cW (Q6x p) hE hY hs hp ?_;intro v h' bk M' hn hr aY hg;have hg:(v,h')=p:=osj hg;subst hg;refine⟨rfl,?_⟩;have:CSim rs h' M':=by
        refine⟨aY.n,aY.sm,λi=>?_⟩;rw[aY.get];cases iA:h'.get i with
        |none=>rfl
        |some b =>
         rcases zl i h.n with hi|hi
         .rw[hr i hi]
         .have aO:=aY.lt iA;have:=n3 i (List.mem_range'_1.2 ⟨hi,by simp at n1 |-;omega⟩);simp only[iA] at this;cases b<;>first|rfl|cases this
       exact this.eq
      .rw[<-hlen];exact GU mg ez qT
      .refine ih _ _ _ p.2 pe rs _ _ pv (hY.mono n1 (λ_ _=>rfl)) mg (hE.put _ _) ((me.mono n1 (λ_ _=>rfl)).snoc mg (ze _)) ez he ?_;intro gb h2 eH M2 aU dQ dY dI gd ck cR;exact hk gb h2 eH M2 aU (zY n1 dQ) (λi hi=>dY i (by omega)) dI gd (by rw[ck,Zs]) cR
     .exact(hG.fail he).elim
    .exact(hG.fail he).elim
   .rename_i av;rw[z8 av];have done:∀ (u:Value) (pG:List (Nat×(CH->Bool))) (pH:List (Nat×(Heap->Prop))),Q0w pG pH->G (Gr T ev R ys rest (et.put o.dst u) hl h pG k)->Zq (Q2 P) rest (Xe env o.dst u) σl M pH K:=by
     intro u pG pH bw hg;refine ih _ _ hl h pG rs σl M pH hY hs (hE.put _ _) me bw hg ?_;intro gb h2 eH M2 aU dQ dY dI gd ck cR;exact hk gb h2 eH M2 aU dQ dY dI gd (by rw[ck,Zs]) cR
    split at he
    .rename_i bt;rw[z7 bt];split at he
     .rename_i p hp;split at he
      .rename_i ae;obtain⟨_,M',h2,_⟩:=KM hs hp;rw[h2];refine⟨me.mem _ _ (λrs h M hc hf=>BR hc hf) _ ae,?_⟩;refine done _ _ _ ?_ he;rw[<-hlen];split
       .exact⟨⟨rfl,λrs h M hc hf=>BR hc hf⟩,ez⟩
       .exact ez
      .exact(hG.fail he).elim
     .exact(hG.fail he).elim
    .rename_i bt;rw[z8 bt];split at he
     .rename_i p hp;obtain⟨_,M',h2,_⟩:=KM hs hp;rw[h2];exact done _ _ _ ez he
     .exact(hG.fail he).elim
  .rename_i hw;rw[hw];refine⟨λhh=>(by cases hh),λ_=>?_⟩;split at he
   .rename_i av;rw[z7 av];split at he
    .rename_i qT;refine⟨by rw[<-hlen];exact GU hs ez qT,?_⟩;refine ih _ _ _ h pe rs _ M pv hY hs (hE.put _ _) (me.snoc hs (ze _)) ez he ?_;intro gb h2 eH M2 aU dQ dY dI gd ck cR;exact hk gb h2 eH M2 aU dQ dY dI gd (by rw[ck,Zs]) cR
    .exact(hG.fail he).elim
   .rename_i av;rw[z8 av];refine ih _ _ _ h pe rs _ M pv hY hs (hE.put _ _) me ez he ?_;intro gb h2 eH M2 aU dQ dY dI gd ck cR;exact hk gb h2 eH M2 aU dQ dY dI gd (by rw[ck,Zs]) cR
theorem ET.q2m {e:ET}{env:Env}(h:FRel e env):e.list=env:=by
 apply zV;intro i;unfold ET.list;rw[zU];rcases zl i e.m with hi|hi
 .rw[List.getElem?_range hi];have:=h.get i;rw[h.m] at hi;rw[zd,z1 hi] at this;rw[z1 hi,z_,<-this];rfl
 .rw[zk (by simpa using hi),zk (by rw[<-h.m];exact hi)];rfl
theorem RN {ρ:Plc}{n:Nat}{vs:Array Value}{cs:List Value}(h:VRel ρ n (.tuple vs) (.tuple cs.toArray)):LRel ρ n vs.toList cs:=by
 obtain⟨ds,he,hl⟩:=h.q1m;have:cs.toArray=ds:=by injection he
 subst this;simpa using hl
theorem Lt (hm:P.follows .mixedOrders=true) (hT:TabOk P T) (cW:Sd P ev) {ys:Ys}{x:Value×CH}{vs:Array Value}(ka:x.1=.tuple vs) {K:Env->Heap->Prop}{et:ET}{env:Env}{h:CH}{rs:Ul}{M:Heap}(hY:YOk P ys rs h.n) (hs:CSim rs h M) (hE:FRel et env)
  (hk:K vs.toList (x.2.toHeap rs)):∀ (alts:List (List DOper)),Eb x (Aq T ev ys et h alts)->∀ ops∈alts,Zq (Q2 P) ops env [M] M [] λbA σ1=>∃ aU M2,DropE M bA σ1 aU M2/\K aU M2:=by
 have one:∀ a:List DOper,Eb x (Q5q T ev ys et h a)->Zq (Q2 P) a env [M] M [] λbA σ1=>∃ aU M2,DropE M bA σ1 aU M2/\K aU M2:=by intro a ha;refine BN hm hT cW (RD x) a et env [h] h [] rs [M] M [] hY hs hE ⟨⟨hs,ze _⟩,trivial⟩ trivial ha ?_;intro dR h' bk M' af hn hr aY b7 hl hg;obtain⟨y,hy,h1,h2,h3⟩:=hg;unfold Z0w at hy;have hd:=BP hs aY hr hy h1 h2 h3;rw[ET.q2m b7,ka] at hd;refine⟨vs.toList,x.2.toHeap rs,?_,hk⟩;intro ρ0 w0 ρ w cs gB qC hH hL;obtain⟨ρ',d1,d2,d3⟩:=hd ρ0 w0 ρ w (.tuple cs.toArray) gB qC hH (VRel.q0j hL);exact⟨ρ',RN d1,d2,d3⟩
 intro alts;induction alts with
 |nil=>rintro⟨y,hy,_⟩;cases hy
 |cons a l ih =>
  intro he ops ho;cases l with
  |nil =>obtain rfl:=zo.1 ho;exact one _ he
  |cons b r =>
   obtain⟨g1,g2⟩:=(RD x).both _ _ he;rcases zn.1 ho with rfl|ho
   .exact one _ g1
   .exact ih g2 ops ho
theorem L9 (hm:P.follows .mixedOrders=true) (hT:TabOk P T) (cW:Sd P ev) (hG:Good R G) {ys:Ys}{k:ET->CH->A}{K:Env->Heap->Prop}:∀ (aS:List DSeg) (et:ET) (env:Env) (h:CH) (rs:Ul) (M:Heap),
  YOk P ys rs h.n->CSim rs h M->FRel et env->G (T8 T ev R ys aS et h k)->Q0g G rs h (List.length env) k K->M_ (Q2 P) aS env M K:=by
 intro aS;induction aS with
 |nil=>intro et env h rs M hY hs hE he hk;exact hk et h rs M env (ze _) (λ_ _=>rfl) hs hE rfl he
 |cons x rest ih =>
  intro et env h rs M hY hs hE he hk;have next:Q0g G rs h (List.length env) (λet h=>T8 T ev R ys rest et h k) (λenv M=>M_ (Q2 P) rest env M K):=by intro lq h1 fN σ1 bA fG f_ kj fX fb iq;refine ih lq bA h1 fN σ1 (hY.mono fG f_) kj fX iq ?_;intro gb h2 eH M2 aU dQ dY dI gd ck cR;exact hk gb h2 eH M2 aU (zY fG dQ) (λi hi=>(dY i (by omega)).trans (f_ i hi)) dI gd (ck.trans fb) cR
  cases x with
  |one o=>exact T5 hm hT cW hG [o] et env h rs M hY hs hE he next
  |alts l =>
   have many:G (match Aq T ev ys et h l with
     |some x=>(match x.1 with
      |.tuple vs=>if x.2.room=true/\Nat.ble h.n x.2.n=true/\vs.toList.length=et.m then T8 T ev R ys rest (ET.of vs.toList 0) x.2 k else R.fail
      |_=>R.fail)
     |none=>R.fail)->M_ (Q2 P) (.alts l::rest) env M K:=by
    intro he;split at he
    .rename_i x hx;split at he
     .rename_i vs ka;split at he
      .rename_i hc;obtain⟨c1,c2,c3⟩:=hc;have aX:x.2.n<=1000000000:=zG c1;have uy:FRel (ET.of vs.toList 0) vs.toList:=by
        have:=ET.q1q (args:=vs.toList) (nt:=0) (by show vs.toList.length+(0-vs.toList.length)<=_;have:=hE.sm;omega);simpa using this
       exact Lt hm hT cW ka hY hs hE (next _ x.2 rs _ _ (zG c2) (λ_ _=>rfl) (BD (by omega)) uy (by rw[c3,hE.m]) he) l ⟨x,hx,rfl,rfl,λ_=>rfl⟩
      .exact(hG.fail he).elim
     .exact(hG.fail he).elim
    .exact(hG.fail he).elim
   match l,he with
   |[],he=>exact many he
   |[a],he =>intro ops ho;obtain rfl:=zo.1 ho;refine BN hm hT cW hG ops et env [h] h [] rs [M] M [] hY hs hE ⟨⟨hs,ze _⟩,trivial⟩ trivial he ?_;intro dR h' bk M' af hn hr aY b7 hl hg;exact⟨af,M',.refl _ _ _,next dR h' bk M' af hn hr aY b7 hl hg⟩
   |a::b::r,he=>exact many he
def Lm (P:Program) (T:Tab) (ev:Q7d) (c:VCode):Prop:=∀ {A:Type}(R:AnsOps A) (G:A->Prop),Good R G->∀ (ys:Ys) (ro:Option Nat) (et:ET) (env:Env) (h:CH) (k:Exit->ET->CH->A) (rs:Ul) (M:Heap) (Q:Exit->Env->Heap->Prop),
 YOk P ys rs h.n->CSim rs h M->FRel et env->G (L7 T ev R ys c ro et h k)->Q0t G rs h (List.length env) k Q->vwp (Q2 P) c ro Q env M
theorem L2 (hm:P.follows .mixedOrders=true) (hT:TabOk P T) (cW:Sd P ev) (hG:Good R G) {ys:Ys}{g:Operand}{ps:List Nat}{a b:VCode}{ro:Option Nat}{et:ET}{env:Env}{h:CH}{k:Exit->ET->CH->A}{rs:Ul}{M:Heap}{Q:Exit->Env->Heap->Prop}
  (hY:YOk P ys rs h.n) (hs:CSim rs h M) (hE:FRel et env) (he:G (I_ T ev R ys (GI et g) ps a b ro et h k)) (hk:Q0t G rs h (List.length env) k Q):vwp (Q2 P) (.rangeF g ps a b) ro Q env M:=by
 rw[HG hE] at he;unfold I_ at he;simp only[vwp,Lc];split at he
 .rename_i f first cap hg
  simp only[hg];split at he
  .rename_i vc rl nt hf;have hF:=hT.code f vc rl nt hf;split at he
   .rename_i mf;obtain⟨aO,aX⟩:=mf;have gU:(Q2 P).it f=some λi Y args M K=>KE P i Y->VCallsTo P f args M K:=by
     simp only[Q2];rw[z7 hF.enterable]
    rw[gU];refine⟨?_,λr uz=>?_⟩
    .cases ro with
     |none=>trivial
     |some i =>
      simp only[Q3v] at aO;split at aO
      .rename_i st pend iA;exact⟨_,_,_,_,hs.lp iA⟩
      .cases aO
    .let fN:Ul:=λi=>if i=h.n then (env,r) else rs i
     have fx:∀ i,i<h.n->fN i=rs i:=λi hi=>by simp only[fN];rw[z8 (by omega)]
     have kj:CSim fN (h.push (.lp .ready none)) (M.push (.obj (.lp env r .ready none) true)) :=
      (hs.rs fx).push aX (by simp[EB.to,fN])
     have uA:YOk P ((h.n,⟨ps,a,b,et⟩)::ys) fN (h.push (.lp .ready none)).n:=by
      intro i c hc;simp only[Ys.find] at hc;split at hc
      .rename_i fj;have fj:=zM fj;subst fj;obtain rfl:=osj hc;refine⟨Nat.lt_succ_self _,by simp only[fN,zB];exact hE,?_⟩;rw[hs.n] at *
       simpa [fN,hs.n] using uz
      .obtain⟨h1,h2,h3⟩:=hY i c hc;rw[fx i h1];exact⟨Nat.lt_succ_of_lt h1,h2,h3⟩
     rw[<-hs.n];refine Sv hm cW hG hf hF uA kj he ?_;intro v h' bk M' hn hr aY dS;have pC:h.n+1<=h'.n:=hn;unfold Q9t at dS;unfold Q0d;split at dS
     .rename_i st pend iA;have hi:=aY.lt iA;simp only[aY.lp iA];split at dS
      .rename_i cN;refine⟨(by rintro rfl;cases cN),?_⟩;have agree:∀ j,j<h.n->bk j=rs j:=λj hj=>(hr j (Nat.lt_succ_of_lt hj)).trans (fx j hj);have bn:=aY.kill hi;split at dS
       .exact hk _ _ _ bk _ _ (by show h.n<=h'.n;omega) agree bn hE rfl dS
       .exact hk _ _ _ bk _ _ (by show h.n<=h'.n;omega) agree bn hE rfl dS
       .exact hk _ _ _ bk _ _ (by show h.n<=h'.n;omega) agree bn hE rfl dS
       .exact(hG.fail dS).elim
      .exact(hG.fail dS).elim
     .exact(hG.fail dS).elim
   .exact(hG.fail he).elim
  .exact(hG.fail he).elim
 .exact(hG.fail he).elim
theorem L8 (hm:P.follows .mixedOrders=true) (hT:TabOk P T) (cW:Sd P ev)
  (oq:∀ b,Lm P T ev b->Lm P T ev (.loop b)):∀ (c:VCode),Lm P T ev c:=by
 intro c;induction c with
 |skip=>intro A R G hG ys ro et env h k rs M Q hY hs hE he hk;exact hk _ _ _ rs M _ (ze _) (λ_ _=>rfl) hs hE rfl he
 |region ops =>intro A R G hG ys ro et env h k rs M Q hY hs hE he hk;exact T5 hm hT cW hG ops et env h rs M hY hs hE he λdR h' bk M' af h1 h2 h3 h4 h5 h6=>hk _ _ _ _ _ _ h1 h2 h3 h4 h5 h6
 |regionD aS =>intro A R G hG ys ro et env h k rs M Q hY hs hE he hk;exact L9 hm hT cW hG aS et env h rs M hY hs hE he λdR h' bk M' af h1 h2 h3 h4 h5 h6=>hk _ _ _ _ _ _ h1 h2 h3 h4 h5 h6
 |rangeF g ps a b fk eG =>intro A R G hG ys ro et env h k rs M Q hY hs hE he hk;exact L2 hm hT cW hG hY hs hE he hk
 |seq a b fk eG =>
  intro A R G hG ys ro et env h k rs M Q hY hs hE he hk;simp only[vwp];refine fk R G hG ys ro et env h _ rs M _ hY hs hE he ?_;intro e dR h' bk M' af hn hr aY b7 hl hg;cases e with
  |normal =>refine eG R G hG ys ro dR af h' k bk M' Q (hY.mono hn hr) aY b7 hg ?_;intro e2 gb h2 eH M2 aU dQ dY dI gd ck cR;exact hk e2 gb h2 eH M2 aU (zY hn dQ) (λi hi=>(dY i (by omega)).trans (hr i hi)) dI gd (ck.trans hl) cR
  |_=>exact hk _ dR h' bk M' af hn hr aY b7 hl hg
 |cond c a b fk eG =>
  intro A R G hG ys ro et env h k rs M Q hY hs hE he hk;have he:G (Q69 R (GI et c) (L7 T ev R ys a ro et h k) (L7 T ev R ys b ro et h k)):=he;rw[HG hE] at he;unfold Q69 at he;simp only[vwp];split at he
  .rename_i hc;rw[hc];exact⟨λ_=>fk R G hG ys ro et env h k rs M Q hY hs hE he hk,λhh=>by cases hh⟩
  .rename_i hc;rw[hc];exact⟨λhh=>(by cases hh),λ_=>eG R G hG ys ro et env h k rs M Q hY hs hE he hk⟩
  .exact(hG.fail he).elim
 |block id b ih =>
  intro A R G hG ys ro et env h k rs M Q hY hs hE he hk;simp only[vwp];refine ih R G hG ys ro et env h _ rs M _ hY hs hE he ?_;intro e dR h' bk M' af hn hr aY b7 hl hg;cases e with
  |exit iG =>
   simp only[OF] at hg;simp only[SC];split at hg
   .rename_i bc;rw[z7 bc];exact hk _ dR h' bk M' af hn hr aY b7 hl hg
   .rename_i bc;rw[z8 bc];exact hk _ dR h' bk M' af hn hr aY b7 hl hg
  |_=>exact hk _ dR h' bk M' af hn hr aY b7 hl hg
 |loop b ih =>intro A R G hG ys ro et env h k rs M Q hY hs hE he hk;exact oq b ih R G hG ys ro et env h k rs M Q hY hs hE he hk
 |exit id=>intro A R G hG ys ro et env h k rs M Q hY hs hE he hk;exact hk _ _ _ rs M _ (ze _) (λ_ _=>rfl) hs hE rfl he
 |ret=>intro A R G hG ys ro et env h k rs M Q hY hs hE he hk;exact hk _ _ _ rs M _ (ze _) (λ_ _=>rfl) hs hE rfl he
 |bad=>intro A R G hG ys ro et env h k rs M Q hY hs hE he hk;exact(hG.fail he).elim
theorem R5 {v:Value}(h:E0 v=true):QN v=true\/∃ vs,v=.tuple vs/\vs.toList.all QN=true:=by unfold E0 at h;split at h<;>first|exact .inl rfl|exact .inr ⟨_,rfl,h⟩|cases h
theorem Q0m {ρ:Plc}{n:Nat}{v c:Value}(h:E0 v=true) (hv:VRel ρ n v c):c=v:=by
 rcases R5 h with hp|⟨vs,rfl,ae⟩
 .exact YV hp hv
 .obtain⟨ds,rfl,hl⟩:=hv.q1m;have ae:∀ x∈vs.toList,QN x=true:=zf.1 ae;have:ds.toList=vs.toList:=by
   apply zV;intro i;rcases zl i vs.toList.length with hi|hi
   .have cB:i<ds.toList.length:=by rw[<-hl.1];exact hi
    rw[z1 hi,z1 cB];rw[YV (ae _ (zp hi)) (hl.2 i _ _ (z1 hi) (z1 cB))]
   .rw[zk hi,zk (by rw[<-hl.1];exact hi)]
  rw[TO this]
theorem Ie {ρ:Plc}{n:Nat}{v:Value}(h:E0 v=true):VRel ρ n v v:=by
 rcases R5 h with hp|⟨vs,rfl,ae⟩
 .exact Wc hp
 .exact .tuple _ _ rfl λi h1 _=>Wc (zf.1 ae _ (by simp))
theorem BA (m:Nat) (env:Env) (h:List.length env=m):D8 (List.range m) env=env:=by
 apply zV;intro i;simp only[D8,zU];rcases zl i m with hi|hi
 .rw[List.getElem?_range hi];simp[zd,h,hi]
 .rw[zk (by simpa using hi),zk (by omega)];rfl
theorem TN:∀ (l:List Nat) (vs base:List Value) (i:Nat),l.Nodup->vs.length=l.length->(∀ x∈l,x<base.length)->(Xj l vs base)[i]?=if i∈l then vs[l.idxOf i]? else base[i]?
 |[],[],base,i,_,_,_=>by simp[Xj]
 |[],_::_,_,_,_,h,_=>by simp at h
 |_::_,[],_,_,_,h,_=>by simp at h
 |x::l,v::vs,base,i,hn,h,hb=>by
  obtain⟨h1,h2⟩:=xt.1 hn;simp only[Xj];rw[TN l vs _ i h2 (by simpa using h) (λy hy=>by rw[wD];exact hb y (by simp[hy]))];by_cases nc:i=x
  .subst nc;rw[z8 h1,z7 (by simp),List.getElem?_set_self (hb i (by simp))];simp
  .by_cases hZ:i∈l
   .have e:(x::l).idxOf i=l.idxOf i+1:=by rw[List.idxOf_cons,show (x==i)=false from by simpa using Ne.symm nc];rfl
    rw[z7 hZ,z7 (by simp[hZ]),e];rfl
   .rw[z8 hZ,z8 (by simp[nc,hZ]),List.getElem?_set_ne (Ne.symm nc)]
theorem LK (m:Nat) (vs:List Value) (h:vs.length=m):Xj (List.range m) vs (List.replicate m poison)=vs:=by
 apply zV;intro i;rw[TN _ _ _ _ List.nodup_range (by simpa using h) (λx hx=>by simpa using hx)];split
 .rename_i hi;have hi:=zD.1 hi;have:(List.range m).idxOf i=i:=by
   have h1:(List.range m).idxOf i<(List.range m).length:=List.idxOf_lt_length_of_mem (zD.2 hi);have h2:=List.getElem_idxOf h1;rw[List.getElem_range] at h2;exact h2
  rw[this]
 .rename_i hi;have hi:m<=i:=by simpa using hi
  rw[zk (by simpa using hi),zk (by omega)]
theorem Et (hm:P.follows .mixedOrders=true) (hT:TabOk P T):∀ (n:Nat) (c:VCode),Lm P T (Dg T n) c:=by
 intro n;induction n using Nat.strongRecOn with
 |ind n pF =>
  have cW:Sd P (Dg T n):=by
   cases n with
   |zero=>intro A R G hG ys c ro et env h k rs M Q hY hs hE he hk;exact(hG.fail he).elim
   |succ n=>intro A R G hG ys c ro et env h k rs M Q hY hs hE he hk;exact pF n (Nat.lt_succ_self _) c R G hG ys ro et env h k rs M Q hY hs hE he hk
  refine L8 hm hT cW λb eG=>?_;intro A R G hG ys ro et env h k rs M Q hY hs hE he hk;have ot:∀ j,j<=n->Lm P T (Dg T j) b:=λj hj=>by
   rcases zl j n with h'|h'
   .exact pF j h' b
   .obtain rfl:j=n:=by omega
    exact eG
  simp only[vwp];refine⟨List.range (List.length env),λj vs σ1=>j<=n/\∃ lq h1 fN,h.n<=h1.n/\(∀ i,i<h.n->fN i=rs i)/\CSim fN h1 σ1/\FRel lq vs/\List.length vs=List.length env/\G (L7 T (Dg T j) R ys (.loop b) ro lq h1 k),n,?_,?_⟩
  .rw[BA _ _ rfl];exact⟨ze _,et,h,rs,ze _,λ_ _=>rfl,hs,hE,rfl,he⟩
  .rintro j vs σ1 ⟨hj,lq,h1,fN,g1,g2,g3,gE,g4,g5⟩;rw[LK _ _ g4];refine ot j hj R G hG ys ro lq vs h1 _ fN σ1 _ (hY.mono g1 g2) g3 gE g5 ?_;intro e dR h' bk M' af hn hr aY b7 hl hg;cases e with
   |normal =>
    cases j with
    |zero=>exact(hG.fail hg).elim
    |succ j =>
     refine⟨j,Nat.lt_succ_self _,by omega,dR,h',bk,zY g1 hn,λi hi=>(hr i (by omega)).trans (g2 i hi),aY,?_,?_,?_⟩
     .rw[BA _ _ (hl.trans g4)];exact b7
     .rw[BA _ _ (hl.trans g4)];exact hl.trans g4
     .exact hg
   |_=>exact hk _ dR h' bk M' af (zY g1 hn) (λi hi=>(hr i (by omega)).trans (g2 i hi)) aY b7 (hl.trans g4) hg
theorem Pm (hm:P.follows .mixedOrders=true) (hT:TabOk P T) (n:Nat):Sd P (Dg T n):=by
 cases n with
 |zero=>intro A R G hG ys c ro et env h k rs M Q hY hs hE he hk;exact(hG.fail he).elim
 |succ n=>intro A R G hG ys c ro et env h k rs M Q hY hs hE he hk;exact Et hm hT n c R G hG ys ro et env h k rs M Q hY hs hE he hk
theorem HRel.forget {ρ:Plc}{M:Heap}{w:World}(hH:HRel ρ M w):HRel (λ_=>none) Heap.empty w :=
 ⟨⟨λi b h=>(by cases h),λ_ _=>rfl,λi p h=>(by cases h),λi j p q b _ h=>(by cases h)⟩,λg cs hg=>⟨(hH.tab g cs hg).1,λ⟨_,_,_,h,_⟩=>by cases h⟩⟩
theorem L1 {f:FuncId}{args:List Value}(ha:args.all QN=true) {v:Value}(hv:E0 v=true) (he:Jh P f) (h0:VCallsTo P f args Heap.empty (λu _=>u=v)) {M:Heap}{K:Value->Heap->Prop}(hK:K v M):VCalled P f args M K:=by
 refine VCallsTo.called he ?_;intro ρ w aw hH hL;refine (h0 (λ_=>none) w aw hH.forget ?_).mono ?_
 .refine⟨hL.1,λi a c kM hc=>?_⟩;have hp:=zf.1 ha a (zF kM);have:=YV hp (hL.2 i a c kM hc);subst this;exact Wc hp
 .rintro e w' ⟨c,rfl,u,ρ',M',rfl,eL,gT,hE⟩;refine⟨c,rfl,u,ρ,M,hK,?_,?_,?_⟩
  .have:c=u:=Q0m hv eL;subst this;exact Ie hv
  .exact hH.world hE.size (λi p hp=>hE.keep _ (hH.lt i p hp) (λ⟨_,_,_,h,_⟩=>by cases h)) λg cs hg=>hE.keep _ (hH.tab.lt hg) (λ⟨_,_,_,h,_⟩=>by cases h)
  .exact⟨hE.os,hE.tape,hE.output,hE.size,λB hB _=>hE.keep B hB (λ⟨_,_,_,h,_⟩=>by cases h),λ_ _ h=>h,ze _,λ_ _ _ h=>h⟩
theorem OT (hm:P.follows .mixedOrders=true) (hT:TabOk P T) (n:Nat) {f:FuncId}{vc:VCode}{rl:List VResult}{nt:Nat}(hF:Fun P f vc rl nt) (args:List Value) (ha:args.all QN=true) (v:Value) (hv:E0 v=true) (p:Value->Bool) (hp:∀ u,p u=true->u=v)
  (dw:Nat.ble (ET.of args nt).m 1000000=true) (he:Dg T n XG [] vc none (ET.of args nt) CH.empty (Q6r false rl λv _=>p v)=true) {M:Heap}{K:Value->Heap->Prop}(hK:K v M):VCalled P f args M K:=by
 refine L1 ha hv hF.enterable ?_ hK;refine hF.callsTo hm Dw ?_
 exact Pm hm hT n XG (·=true) S0 [] vc none _ _ CH.empty _ (λ_=>([],default)) Heap.empty _ (λi c h=>by cases h) ⟨rfl,by decide,λi=>rfl⟩ (ET.q1q (zG dw)) he
  (MT (R:=XG) S0 λv' h' bk M' _ _ _ hg=>hp v' hg)
end
end Go.V
namespace Go.V
open Go
def Q6h (P:Program) (f:FuncId):Option FEnt->Prop
 |none=>True
 |some (.code vc rs nt)=>Fun P f vc rs nt
 |some (.codeJ vc rs nt)=>Fun P f vc rs nt
 |some (.codeM vc rs nt ms)=>Fun P f vc rs nt/\∀ m∈ms,NM P f m
 |some .same=>∀ (v:Value) (M:Heap) (K:Value->Heap->Prop),K v M->VCalled P f [v] M K
def EntsOk (P:Program):Nat->List (Option FEnt)->Prop
 |_,[]=>True
 |i,e::l=>Q6h P i e/\EntsOk P (i+1) l
theorem EntsOk.get {P:Program}:∀ {l:List (Option FEnt)}{i j:Nat}{e:FEnt},EntsOk P i l->l[j]?=some (some e)->Q6h P (i+j) (some e)
 |[],_,_,_,_,h=>by simp at h
 |x::l,i,0,e,h,hj=>by simp at hj;subst hj;exact h.1
 |x::l,i,j+1,e,h,hj=>by have:=EntsOk.get (l:=l) (i:=i+1) (j:=j) h.2 (by simpa using hj);rw[zt,xP 1 j] at this;exact this
theorem Ae {P:Program}{l:List (Option FEnt)}(h:EntsOk P 0 l):TabOk P (λf=>(l[f]?).join):=by
 have key:∀ f e,(l[f]?).join=some e->Q6h P f (some e):=λf e he=>by
  have:=EntsOk.get (j:=f) (e:=e) h (by
   cases hl:l[f]? with
   |none=>rw[hl] at he;cases he
   |some x=>rw[hl] at he;simp at he;rw[he])
  simpa using this
 exact⟨λf vc rs nt he=>key f _ he,λf vc rs nt he=>key f _ he,λf vc rs nt ms he=>key f _ he,λf he=>key f _ he⟩
def isTrue:Value->Bool
 |.bool true=>true
 |_=>false
theorem O2 {v:Value}(h:isTrue v=true):v=.bool true:=by
 unfold isTrue at h;split at h
 .rfl
 .cases h
theorem Q1p {P:Program}(hm:P.follows .mixedOrders=true) {T:Tab}(hT:TabOk P T) (n:Nat) {f:FuncId}{vc:VCode}{rl:List VResult}{nt:Nat}(hF:Fun P f vc rl nt) (dw:Nat.ble (ET.of [] nt).m 1000000=true)
  (he:Dg T n XG [] vc none (ET.of [] nt) CH.empty (Q6r false rl λv _=>isTrue v)=true) {M:Heap}{K:Value->Heap->Prop}(hK:K (.bool true) M):VCalled P f [] M K :=
 OT hm hT n hF [] rfl (.bool true) rfl isTrue (λ_ h=>O2 h) dw he hK
def W5:List PB->CH->CH
 |[],h=>h
 |b::l,h=>W5 l (h.push (.cells b.c b.esz false b.tight))
def SM (M:Heap) (l:List PB):Heap where
 get i:=if i<M.n then M.get i else (l[i-M.n]?).map (PB.blk false)
 n:=M.n+l.length
 wf i h:=by rw[z8 (by omega),zk (by omega)];rfl
theorem TL {rs:Ul}:∀ (fr:List PB) {h:CH}{M:Heap},CSim rs h M->h.n+fr.length<=1000000000->CSim rs (W5 fr h) (SM M fr)/\(W5 fr h).n=h.n+fr.length
 |[],h,M,hs,_=>by
  have:SM M []=M:=Heap.ext' (λj=>by
   show (if j<M.n then M.get j else _)=_;split
   .rfl
   .rename_i hj;rw[M.wf j (by omega)];simp) rfl
  rw[this];exact⟨hs,rfl⟩
 |b::l,h,M,hs,hr=>by
  have hr:h.n+(l.length+1)<=1000000000:=hr;have hn:=hs.n;have h1:CSim rs (h.push (.cells b.c b.esz false b.tight)) (M.push (b.blk false)):=hs.push (Nat.ble_eq_true_of_le (by omega)) rfl;obtain⟨h2,h3⟩:=TL l h1 (by show h.n+1+_<=_;omega);refine⟨?_,by rw[show W5 (b::l) h=W5 l (h.push (.cells b.c b.esz false b.tight)) from rfl,h3];show h.n+1+l.length=h.n+(l.length+1);omega⟩;have:SM M (b::l)=SM (M.push (b.blk false)) l:=Heap.ext' (λj=>by
   show (if j<M.n then M.get j else _)=(if j<M.n+1 then (M.push (b.blk false)).get j else _);rcases Nat.lt_trichotomy j M.n with hj|hj|hj
   .rw[z7 hj,z7 (by omega),Heap.q0i _ _ hj]
   .subst hj;rw[z8 (by omega),z7 (by omega),Heap.q0a];simp
   .rw[z8 (by omega),z8 (by omega)];rw[show j-M.n=(j-(M.push (b.blk false)).n)+1 by simp;omega];rfl) (by simp[SM];omega)
  rw[this];exact h2
theorem LZ (bl fr:List PB):XU (SM Heap.empty bl) fr=Qv bl fr:=Heap.ext' (λj=>by
 have hn:(SM Heap.empty bl).n=bl.length:=by simp[SM,Heap.empty]
 show (if j<(SM Heap.empty bl).n then (SM Heap.empty bl).get j else (fr[j-(SM Heap.empty bl).n]?).map (PB.blk true))=(if j<bl.length then _ else _);rw[hn];split
 .simp[SM,Heap.empty]
 .rfl) (by simp[XU,SM,Qv,Heap.empty])
def AJ (m:Memo):Bool:=Nat.ble (m.bl.length+m.fr.length) 1000000000&&m.fr.all (λb=>b.c.all QN)
theorem D4 {P:Program}(hm:P.follows .mixedOrders=true) {T:Tab}(hT:TabOk P T) (n:Nat) {f:FuncId}{m:Memo}(hf:AJ m=true)
  (he:Bf T (Dg T n) XG [] f m.args (W5 m.bl CH.empty) (λu h'=>TT 20 u m.v&&h'.same (Xa m.fr (W5 m.bl CH.empty)))=true):NM P f m:=by
 simp only[AJ,z6,zf] at hf;obtain⟨h1,h3⟩:=hf;have h1:=zG h1;have e0:∀ rs:Ul,CSim rs CH.empty Heap.empty:=λrs=>⟨rfl,by decide,λi=>rfl⟩;have s1:∀ rs:Ul,CSim rs (W5 m.bl CH.empty) (SM Heap.empty m.bl)/\(W5 m.bl CH.empty).n=0+m.bl.length:=λrs=>TL m.bl (e0 rs) (by show 0+_<=_;omega);have s2:∀ rs:Ul,CSim rs (Xa m.fr (W5 m.bl CH.empty)) (Qv m.bl m.fr):=λrs=>by rw[<-LZ];exact(Mx m.fr (s1 rs).1 (by rw[(s1 rs).2];omega)).1
 have na:SM Heap.empty m.bl=Qv m.bl []:=by
  rw[<-LZ];exact Heap.ext' (λj=>by
   show _=(if j<(SM Heap.empty m.bl).n then _ else _);split
   .rfl
   .rename_i hj;rw[(SM Heap.empty m.bl).wf j (by omega)];simp) rfl
 refine⟨?_,λb hb=>zf.2 (h3 b hb)⟩;rw[<-na];refine GH (R:=XG) (G:=(·=true)) (rs:=λ_=>([],default)) hm hT (λ{A}=>Pm hm hT n (A:=A)) S0 (λi c h=>by cases h) (s1 _).1 he ?_;intro v h' bk M' _ _ aY hg;rw[z6] at hg;refine⟨M8 20 _ _ hg.1,?_⟩;obtain⟨g1,g2⟩:=CZ hg.2;refine Heap.ext' (λj=>?_) ?_
 .rw[aY.get,g2,(s2 bk).get]
 .rw[<-aY.n,g1,(s2 bk).n]
end Go.V
namespace Go.Proofs.Tryz
open Go Go.V Go.Proofs
theorem mixed:Tryz.prog.follows .mixedOrders=true:=by kernel_rfl
def cof (fn:Func):VCode:=match fn.body.bind (comp Tryz.prog) with|some c=>c|none=>.bad
theorem Q1 {fn:Func}(h:(fn.body.bind (comp Tryz.prog)).isSome=true):fn.body.bind (comp Tryz.prog)=some (cof fn):=by
 unfold cof;cases h2:fn.body.bind (comp Tryz.prog) with
 |none=>rw[h2] at h;cases h
 |some c=>rfl
def c2:VCode:=cof Tryz.f2
theorem Z56:Fun Tryz.prog 2 c2 [] 1:=⟨Tryz.f2,Tryz.func2,Q1 (by kernel_rfl),by kernel_rfl,rfl,rfl⟩
def c3:VCode:=cof Tryz.f3
theorem Z5w:Fun Tryz.prog 3 c3 [.tmp 2] 84:=⟨Tryz.f3,Tryz.func3,Q1 (by kernel_rfl),by kernel_rfl,rfl,rfl⟩
def c4:VCode:=cof Tryz.f4
theorem Z57:Fun Tryz.prog 4 c4 [.tmp 4] 203:=⟨Tryz.f4,Tryz.func4,Q1 (by kernel_rfl),by kernel_rfl,rfl,rfl⟩
def c5:VCode:=cof Tryz.f5
theorem Z50:Fun Tryz.prog 5 c5 [.tmp 2] 92:=⟨Tryz.f5,Tryz.func5,Q1 (by kernel_rfl),by kernel_rfl,rfl,rfl⟩
def c6:VCode:=cof Tryz.f6
theorem Z5i:Fun Tryz.prog 6 c6 [.tmp 6] 129:=⟨Tryz.f6,Tryz.func6,Q1 (by kernel_rfl),by kernel_rfl,rfl,rfl⟩
def c7:VCode:=cof Tryz.f7
theorem Z5c:Fun Tryz.prog 7 c7 [.tmp 4] 283:=⟨Tryz.f7,Tryz.func7,Q1 (by kernel_rfl),by kernel_rfl,rfl,rfl⟩
def c8:VCode:=cof Tryz.f8
theorem Z5b:Fun Tryz.prog 8 c8 [.tmp 6] 207:=⟨Tryz.f8,Tryz.func8,Q1 (by kernel_rfl),by kernel_rfl,rfl,rfl⟩
def c9:VCode:=cof Tryz.f9
theorem fun9:Fun Tryz.prog 9 c9 [.tmp 2] 249:=⟨Tryz.f9,Tryz.func9,Q1 (by kernel_rfl),by kernel_rfl,rfl,rfl⟩
def c10:VCode:=cof Tryz.f10
theorem Q8f:Fun Tryz.prog 10 c10 [.tmp 6] 205:=⟨Tryz.f10,Tryz.func10,Q1 (by kernel_rfl),by kernel_rfl,rfl,rfl⟩
def c11:VCode:=cof Tryz.f11
theorem Z0q:Fun Tryz.prog 11 c11 [.tmp 2] 265:=⟨Tryz.f11,Tryz.func11,Q1 (by kernel_rfl),by kernel_rfl,rfl,rfl⟩
def c12:VCode:=cof Tryz.f12
theorem Q92:Fun Tryz.prog 12 c12 [.tmp 4] 132:=⟨Tryz.f12,Tryz.func12,Q1 (by kernel_rfl),by kernel_rfl,rfl,rfl⟩
def c13:VCode:=cof Tryz.f13
theorem Q9q:Fun Tryz.prog 13 c13 [.tmp 4] 228:=⟨Tryz.f13,Tryz.func13,Q1 (by kernel_rfl),by kernel_rfl,rfl,rfl⟩
def c14:VCode:=cof Tryz.f14
theorem Z00:Fun Tryz.prog 14 c14 [.tmp 6] 133:=⟨Tryz.f14,Tryz.func14,Q1 (by kernel_rfl),by kernel_rfl,rfl,rfl⟩
def c15:VCode:=cof Tryz.f15
theorem Q61:Fun Tryz.prog 15 c15 [.tmp 0] 226:=⟨Tryz.f15,Tryz.func15,Q1 (by kernel_rfl),by kernel_rfl,rfl,rfl⟩
def c16:VCode:=cof Tryz.f16
theorem Q5o:Fun Tryz.prog 16 c16 [.cell 2 true 2] 9:=⟨Tryz.f16,Tryz.func16,Q1 (by kernel_rfl),by kernel_rfl,rfl,rfl⟩
def c17:VCode:=cof Tryz.f17
theorem Q8u:Fun Tryz.prog 17 c17 [.tmp 2,.tmp 3] 49:=⟨Tryz.f17,Tryz.func17,Q1 (by kernel_rfl),by kernel_rfl,rfl,rfl⟩
def c18:VCode:=cof Tryz.f18
theorem Q9k:Fun Tryz.prog 18 c18 [.cell 2 true 2,.tmp 3] 34:=⟨Tryz.f18,Tryz.func18,Q1 (by kernel_rfl),by kernel_rfl,rfl,rfl⟩
def c19:VCode:=cof Tryz.f19
theorem Q8c:Fun Tryz.prog 19 c19 [.tmp 2] 32:=⟨Tryz.f19,Tryz.func19,Q1 (by kernel_rfl),by kernel_rfl,rfl,rfl⟩
def c20:VCode:=cof Tryz.f20
theorem Q9s:Fun Tryz.prog 20 c20 [.tmp 2] 45:=⟨Tryz.f20,Tryz.func20,Q1 (by kernel_rfl),by kernel_rfl,rfl,rfl⟩
def c21:VCode:=cof Tryz.f21
theorem Z03:Fun Tryz.prog 21 c21 [.tmp 4] 17:=⟨Tryz.f21,Tryz.func21,Q1 (by kernel_rfl),by kernel_rfl,rfl,rfl⟩
def c22:VCode:=cof Tryz.f22
theorem Q9o:Fun Tryz.prog 22 c22 [.tmp 4] 26:=⟨Tryz.f22,Tryz.func22,Q1 (by kernel_rfl),by kernel_rfl,rfl,rfl⟩
def c23:VCode:=cof Tryz.f23
theorem Z0l:Fun Tryz.prog 23 c23 [.tmp 2] 74:=⟨Tryz.f23,Tryz.func23,Q1 (by kernel_rfl),by kernel_rfl,rfl,rfl⟩
def c24:VCode:=cof Tryz.f24
theorem Z0m:Fun Tryz.prog 24 c24 [.cell 2 true 2] 44:=⟨Tryz.f24,Tryz.func24,Q1 (by kernel_rfl),by kernel_rfl,rfl,rfl⟩
def c25:VCode:=cof Tryz.f25
theorem Q6y:Fun Tryz.prog 25 c25 [.tmp 2] 6:=⟨Tryz.f25,Tryz.func25,Q1 (by kernel_rfl),by kernel_rfl,rfl,rfl⟩
def c26:VCode:=cof Tryz.f26
theorem Q5s:Fun Tryz.prog 26 c26 [.tmp 4,.tmp 5,.tmp 6,.tmp 7] 79:=⟨Tryz.f26,Tryz.func26,Q1 (by kernel_rfl),by kernel_rfl,rfl,rfl⟩
def c27:VCode:=cof Tryz.f27
theorem Q5f:Fun Tryz.prog 27 c27 [.tmp 6,.tmp 7] 29:=⟨Tryz.f27,Tryz.func27,Q1 (by kernel_rfl),by kernel_rfl,rfl,rfl⟩
def c28:VCode:=cof Tryz.f28
theorem Q6l:Fun Tryz.prog 28 c28 [.tmp 6,.tmp 7] 33:=⟨Tryz.f28,Tryz.func28,Q1 (by kernel_rfl),by kernel_rfl,rfl,rfl⟩
def c29:VCode:=cof Tryz.f29
theorem Z0k:Fun Tryz.prog 29 c29 [.tmp 4] 15:=⟨Tryz.f29,Tryz.func29,Q1 (by kernel_rfl),by kernel_rfl,rfl,rfl⟩
def c30:VCode:=cof Tryz.f30
theorem Q8p:Fun Tryz.prog 30 c30 [.tmp 6] 15:=⟨Tryz.f30,Tryz.func30,Q1 (by kernel_rfl),by kernel_rfl,rfl,rfl⟩
def c31:VCode:=cof Tryz.f31
theorem Q8l:Fun Tryz.prog 31 c31 [.cell 4 true 4,.tmp 5] 41:=⟨Tryz.f31,Tryz.func31,Q1 (by kernel_rfl),by kernel_rfl,rfl,rfl⟩
def c32:VCode:=cof Tryz.f32
theorem Q9b:Fun Tryz.prog 32 c32 [.tmp 6,.tmp 7] 60:=⟨Tryz.f32,Tryz.func32,Q1 (by kernel_rfl),by kernel_rfl,rfl,rfl⟩
def c33:VCode:=cof Tryz.f33
theorem Q9w:Fun Tryz.prog 33 c33 [.tmp 2] 37:=⟨Tryz.f33,Tryz.func33,Q1 (by kernel_rfl),by kernel_rfl,rfl,rfl⟩
def c34:VCode:=cof Tryz.f34
theorem Q94:Fun Tryz.prog 34 c34 [.cell 2 true 3] 34:=⟨Tryz.f34,Tryz.func34,Q1 (by kernel_rfl),by kernel_rfl,rfl,rfl⟩
def c35:VCode:=cof Tryz.f35
theorem Z15:Fun Tryz.prog 35 c35 [.tmp 2] 36:=⟨Tryz.f35,Tryz.func35,Q1 (by kernel_rfl),by kernel_rfl,rfl,rfl⟩
def c36:VCode:=cof Tryz.f36
theorem Q7z:Fun Tryz.prog 36 c36 [.tmp 2,.tmp 3] 34:=⟨Tryz.f36,Tryz.func36,Q1 (by kernel_rfl),by kernel_rfl,rfl,rfl⟩
def c37:VCode:=cof Tryz.f37
theorem Q83:Fun Tryz.prog 37 c37 [.cell 2 false 1,.tmp 3] 44:=⟨Tryz.f37,Tryz.func37,Q1 (by kernel_rfl),by kernel_rfl,rfl,rfl⟩
def c38:VCode:=cof Tryz.f38
theorem Q8z:Fun Tryz.prog 38 c38 [.tmp 2] 78:=⟨Tryz.f38,Tryz.func38,Q1 (by kernel_rfl),by kernel_rfl,rfl,rfl⟩
def c39:VCode:=cof Tryz.f39
theorem Q7x:Fun Tryz.prog 39 c39 [.tmp 4] 63:=⟨Tryz.f39,Tryz.func39,Q1 (by kernel_rfl),by kernel_rfl,rfl,rfl⟩
def c40:VCode:=cof Tryz.f40
theorem Z12:Fun Tryz.prog 40 c40 [.tmp 2] 5:=⟨Tryz.f40,Tryz.func40,Q1 (by kernel_rfl),by kernel_rfl,rfl,rfl⟩
def c41:VCode:=cof Tryz.f41
theorem Q8h:Fun Tryz.prog 41 c41 [.tmp 4] 27:=⟨Tryz.f41,Tryz.func41,Q1 (by kernel_rfl),by kernel_rfl,rfl,rfl⟩
def c42:VCode:=cof Tryz.f42
theorem Z0y:Fun Tryz.prog 42 c42 [.tmp 6,.tmp 7] 57:=⟨Tryz.f42,Tryz.func42,Q1 (by kernel_rfl),by kernel_rfl,rfl,rfl⟩
def c43:VCode:=cof Tryz.f43
theorem Z10:Fun Tryz.prog 43 c43 [.tmp 2,.tmp 3] 45:=⟨Tryz.f43,Tryz.func43,Q1 (by kernel_rfl),by kernel_rfl,rfl,rfl⟩
def c44:VCode:=cof Tryz.f44
theorem Q8y:Fun Tryz.prog 44 c44 [.tmp 8] 46:=⟨Tryz.f44,Tryz.func44,Q1 (by kernel_rfl),by kernel_rfl,rfl,rfl⟩
def c45:VCode:=cof Tryz.f45
theorem Z09:Fun Tryz.prog 45 c45 [.tmp 4] 66:=⟨Tryz.f45,Tryz.func45,Q1 (by kernel_rfl),by kernel_rfl,rfl,rfl⟩
def c46:VCode:=cof Tryz.f46
theorem Q7u:Fun Tryz.prog 46 c46 [.cell 2 true 2] 50:=⟨Tryz.f46,Tryz.func46,Q1 (by kernel_rfl),by kernel_rfl,rfl,rfl⟩
def c47:VCode:=cof Tryz.f47
theorem Z08:Fun Tryz.prog 47 c47 [.cell 2 true 2,.tmp 3] 54:=⟨Tryz.f47,Tryz.func47,Q1 (by kernel_rfl),by kernel_rfl,rfl,rfl⟩
def c48:VCode:=cof Tryz.f48
theorem Q6v:Fun Tryz.prog 48 c48 [.tmp 6,.tmp 7,.tmp 8] 58:=⟨Tryz.f48,Tryz.func48,Q1 (by kernel_rfl),by kernel_rfl,rfl,rfl⟩
def c49:VCode:=cof Tryz.f49
theorem Q56:Fun Tryz.prog 49 c49 [.tmp 4] 20:=⟨Tryz.f49,Tryz.func49,Q1 (by kernel_rfl),by kernel_rfl,rfl,rfl⟩
def c50:VCode:=cof Tryz.f50
theorem Q55:Fun Tryz.prog 50 c50 [.tmp 4] 16:=⟨Tryz.f50,Tryz.func50,Q1 (by kernel_rfl),by kernel_rfl,rfl,rfl⟩
def c51:VCode:=cof Tryz.f51
theorem Z0g:Fun Tryz.prog 51 c51 [.cell 2 true 2] 74:=⟨Tryz.f51,Tryz.func51,Q1 (by kernel_rfl),by kernel_rfl,rfl,rfl⟩
def c52:VCode:=cof Tryz.f52
theorem Q8a:Fun Tryz.prog 52 c52 [.tmp 4] 52:=⟨Tryz.f52,Tryz.func52,Q1 (by kernel_rfl),by kernel_rfl,rfl,rfl⟩
def c53:VCode:=cof Tryz.f53
theorem Q72:Fun Tryz.prog 53 c53 [.cell 2 true 2] 37:=⟨Tryz.f53,Tryz.func53,Q1 (by kernel_rfl),by kernel_rfl,rfl,rfl⟩
def c54:VCode:=cof Tryz.f54
theorem Q5v:Fun Tryz.prog 54 c54 [.tmp 4,.tmp 5,.tmp 6,.tmp 7,.tmp 8] 91:=⟨Tryz.f54,Tryz.func54,Q1 (by kernel_rfl),by kernel_rfl,rfl,rfl⟩
def c55:VCode:=cof Tryz.f55
theorem Q9x:Fun Tryz.prog 55 c55 [.cell 2 true 3,.tmp 3] 165:=⟨Tryz.f55,Tryz.func55,Q1 (by kernel_rfl),by kernel_rfl,rfl,rfl⟩
def c56:VCode:=cof Tryz.f56
theorem Z0n:Fun Tryz.prog 56 c56 [.tmp 4] 37:=⟨Tryz.f56,Tryz.func56,Q1 (by kernel_rfl),by kernel_rfl,rfl,rfl⟩
def c57:VCode:=cof Tryz.f57
theorem Q9v:Fun Tryz.prog 57 c57 [.tmp 2] 11:=⟨Tryz.f57,Tryz.func57,Q1 (by kernel_rfl),by kernel_rfl,rfl,rfl⟩
def c58:VCode:=cof Tryz.f58
theorem Q9i:Fun Tryz.prog 58 c58 [.cell 2 true 2,.tmp 3] 54:=⟨Tryz.f58,Tryz.func58,Q1 (by kernel_rfl),by kernel_rfl,rfl,rfl⟩
def c59:VCode:=cof Tryz.f59
theorem Q9d:Fun Tryz.prog 59 c59 [.tmp 6,.tmp 7,.tmp 8] 65:=⟨Tryz.f59,Tryz.func59,Q1 (by kernel_rfl),by kernel_rfl,rfl,rfl⟩
def c60:VCode:=cof Tryz.f60
theorem Q8i:Fun Tryz.prog 60 c60 [.cell 0 true 2] 8:=⟨Tryz.f60,Tryz.func60,Q1 (by kernel_rfl),by kernel_rfl,rfl,rfl⟩
def c61:VCode:=cof Tryz.f61
theorem Q8o:Fun Tryz.prog 61 c61 [.cell 2 true 3] 23:=⟨Tryz.f61,Tryz.func61,Q1 (by kernel_rfl),by kernel_rfl,rfl,rfl⟩
def c62:VCode:=cof Tryz.f62
theorem Z0s:Fun Tryz.prog 62 c62 [.cell 2 true 3,.tmp 3] 43:=⟨Tryz.f62,Tryz.func62,Q1 (by kernel_rfl),by kernel_rfl,rfl,rfl⟩
def c63:VCode:=cof Tryz.f63
theorem Z0e:Fun Tryz.prog 63 c63 [.tmp 4] 25:=⟨Tryz.f63,Tryz.func63,Q1 (by kernel_rfl),by kernel_rfl,rfl,rfl⟩
def c64:VCode:=cof Tryz.f64
theorem Z0d:Fun Tryz.prog 64 c64 [.tmp 4] 12:=⟨Tryz.f64,Tryz.func64,Q1 (by kernel_rfl),by kernel_rfl,rfl,rfl⟩
def c65:VCode:=cof Tryz.f65
theorem Q84:Fun Tryz.prog 65 c65 [.tmp 2] 4:=⟨Tryz.f65,Tryz.func65,Q1 (by kernel_rfl),by kernel_rfl,rfl,rfl⟩
def c66:VCode:=cof Tryz.f66
theorem Q7w:Fun Tryz.prog 66 c66 [.tmp 4] 10:=⟨Tryz.f66,Tryz.func66,Q1 (by kernel_rfl),by kernel_rfl,rfl,rfl⟩
def c67:VCode:=cof Tryz.f67
theorem Z14:Fun Tryz.prog 67 c67 [.tmp 4] 20:=⟨Tryz.f67,Tryz.func67,Q1 (by kernel_rfl),by kernel_rfl,rfl,rfl⟩
def c68:VCode:=cof Tryz.f68
theorem Q8d:Fun Tryz.prog 68 c68 [.tmp 4] 14:=⟨Tryz.f68,Tryz.func68,Q1 (by kernel_rfl),by kernel_rfl,rfl,rfl⟩
def c69:VCode:=cof Tryz.f69
theorem Q8x:Fun Tryz.prog 69 c69 [.tmp 4] 26:=⟨Tryz.f69,Tryz.func69,Q1 (by kernel_rfl),by kernel_rfl,rfl,rfl⟩
def c70:VCode:=cof Tryz.f70
theorem Z06:Fun Tryz.prog 70 c70 [.tmp 4] 55:=⟨Tryz.f70,Tryz.func70,Q1 (by kernel_rfl),by kernel_rfl,rfl,rfl⟩
def c71:VCode:=cof Tryz.f71
theorem Z0r:Fun Tryz.prog 71 c71 [.tmp 4] 41:=⟨Tryz.f71,Tryz.func71,Q1 (by kernel_rfl),by kernel_rfl,rfl,rfl⟩
def c72:VCode:=cof Tryz.f72
theorem Q85:Fun Tryz.prog 72 c72 [.tmp 4] 33:=⟨Tryz.f72,Tryz.func72,Q1 (by kernel_rfl),by kernel_rfl,rfl,rfl⟩
def c73:VCode:=cof Tryz.f73
theorem Q0y:Fun Tryz.prog 73 c73 [.cell 4 true 4,.tmp 5] 33:=⟨Tryz.f73,Tryz.func73,Q1 (by kernel_rfl),by kernel_rfl,rfl,rfl⟩
def c74:VCode:=cof Tryz.f74
theorem Q5g:Fun Tryz.prog 74 c74 [.tmp 2] 70:=⟨Tryz.f74,Tryz.func74,Q1 (by kernel_rfl),by kernel_rfl,rfl,rfl⟩
def c75:VCode:=cof Tryz.f75
theorem Q71:Fun Tryz.prog 75 c75 [.tmp 2] 25:=⟨Tryz.f75,Tryz.func75,Q1 (by kernel_rfl),by kernel_rfl,rfl,rfl⟩
def c76:VCode:=cof Tryz.f76
theorem Q76:Fun Tryz.prog 76 c76 [.tmp 4] 19:=⟨Tryz.f76,Tryz.func76,Q1 (by kernel_rfl),by kernel_rfl,rfl,rfl⟩
def c77:VCode:=cof Tryz.f77
theorem Q6e:Fun Tryz.prog 77 c77 [.tmp 2] 5:=⟨Tryz.f77,Tryz.func77,Q1 (by kernel_rfl),by kernel_rfl,rfl,rfl⟩
def c78:VCode:=cof Tryz.f78
theorem Q6w:Fun Tryz.prog 78 c78 [.tmp 6] 15:=⟨Tryz.f78,Tryz.func78,Q1 (by kernel_rfl),by kernel_rfl,rfl,rfl⟩
def c79:VCode:=cof Tryz.f79
theorem Q77:Fun Tryz.prog 79 c79 [.tmp 6,.tmp 7] 28:=⟨Tryz.f79,Tryz.func79,Q1 (by kernel_rfl),by kernel_rfl,rfl,rfl⟩
def c80:VCode:=cof Tryz.f80
theorem Q6i:Fun Tryz.prog 80 c80 [.tmp 2] 9:=⟨Tryz.f80,Tryz.func80,Q1 (by kernel_rfl),by kernel_rfl,rfl,rfl⟩
def c81:VCode:=cof Tryz.f81
theorem Q6u:Fun Tryz.prog 81 c81 [.tmp 2] 4:=⟨Tryz.f81,Tryz.func81,Q1 (by kernel_rfl),by kernel_rfl,rfl,rfl⟩
def c82:VCode:=cof Tryz.f82
theorem Q9p:Fun Tryz.prog 82 c82 [.tmp 4] 30:=⟨Tryz.f82,Tryz.func82,Q1 (by kernel_rfl),by kernel_rfl,rfl,rfl⟩
def c83:VCode:=cof Tryz.f83
theorem Q9c:Fun Tryz.prog 83 c83 [.tmp 4] 24:=⟨Tryz.f83,Tryz.func83,Q1 (by kernel_rfl),by kernel_rfl,rfl,rfl⟩
def c84:VCode:=cof Tryz.f84
theorem Q9n:Fun Tryz.prog 84 c84 [.tmp 2] 7:=⟨Tryz.f84,Tryz.func84,Q1 (by kernel_rfl),by kernel_rfl,rfl,rfl⟩
def c85:VCode:=cof Tryz.f85
theorem Q9g:Fun Tryz.prog 85 c85 [.tmp 3] 9:=⟨Tryz.f85,Tryz.func85,Q1 (by kernel_rfl),by kernel_rfl,rfl,rfl⟩
def c86:VCode:=cof Tryz.f86
theorem Q5l:Fun Tryz.prog 86 c86 [.tmp 4] 16:=⟨Tryz.f86,Tryz.func86,Q1 (by kernel_rfl),by kernel_rfl,rfl,rfl⟩
def c87:VCode:=cof Tryz.f87
theorem Q5h:Fun Tryz.prog 87 c87 [.tmp 2] 6:=⟨Tryz.f87,Tryz.func87,Q1 (by kernel_rfl),by kernel_rfl,rfl,rfl⟩
def c88:VCode:=cof Tryz.f88
theorem Q62:Fun Tryz.prog 88 c88 [.tmp 6] 11:=⟨Tryz.f88,Tryz.func88,Q1 (by kernel_rfl),by kernel_rfl,rfl,rfl⟩
def c89:VCode:=cof Tryz.f89
theorem Q95:Fun Tryz.prog 89 c89 [.tmp 4] 9:=⟨Tryz.f89,Tryz.func89,Q1 (by kernel_rfl),by kernel_rfl,rfl,rfl⟩
def c90:VCode:=cof Tryz.f90
theorem Q8k:Fun Tryz.prog 90 c90 [.cell 4 false 1] 39:=⟨Tryz.f90,Tryz.func90,Q1 (by kernel_rfl),by kernel_rfl,rfl,rfl⟩
def c91:VCode:=cof Tryz.f91
theorem Q9l:Fun Tryz.prog 91 c91 [.tmp 4] 76:=⟨Tryz.f91,Tryz.func91,Q1 (by kernel_rfl),by kernel_rfl,rfl,rfl⟩
def c92:VCode:=cof Tryz.f92
theorem Z0f:Fun Tryz.prog 92 c92 [.cell 6 false 1] 110:=⟨Tryz.f92,Tryz.func92,Q1 (by kernel_rfl),by kernel_rfl,rfl,rfl⟩
def c93:VCode:=cof Tryz.f93
theorem Q80:Fun Tryz.prog 93 c93 [.tmp 4] 26:=⟨Tryz.f93,Tryz.func93,Q1 (by kernel_rfl),by kernel_rfl,rfl,rfl⟩
def c94:VCode:=cof Tryz.f94
theorem Q9y:Fun Tryz.prog 94 c94 [.tmp 4] 19:=⟨Tryz.f94,Tryz.func94,Q1 (by kernel_rfl),by kernel_rfl,rfl,rfl⟩
def c95:VCode:=cof Tryz.f95
theorem Z0b:Fun Tryz.prog 95 c95 [.tmp 6] 29:=⟨Tryz.f95,Tryz.func95,Q1 (by kernel_rfl),by kernel_rfl,rfl,rfl⟩
def c96:VCode:=cof Tryz.f96
theorem Q86:Fun Tryz.prog 96 c96 [.tmp 4] 9:=⟨Tryz.f96,Tryz.func96,Q1 (by kernel_rfl),by kernel_rfl,rfl,rfl⟩
def c97:VCode:=cof Tryz.f97
theorem Q8n:Fun Tryz.prog 97 c97 [.tmp 2] 9:=⟨Tryz.f97,Tryz.func97,Q1 (by kernel_rfl),by kernel_rfl,rfl,rfl⟩
def c98:VCode:=cof Tryz.f98
theorem Q7t:Fun Tryz.prog 98 c98 [.tmp 6] 88:=⟨Tryz.f98,Tryz.func98,Q1 (by kernel_rfl),by kernel_rfl,rfl,rfl⟩
def c99:VCode:=cof Tryz.f99
theorem Z0h:Fun Tryz.prog 99 c99 [.tmp 4] 6:=⟨Tryz.f99,Tryz.func99,Q1 (by kernel_rfl),by kernel_rfl,rfl,rfl⟩
def Z34:VCode:=cof Tryz.f100
theorem Q4l:Fun Tryz.prog 100 Z34 [.tmp 4] 9:=⟨Tryz.f100,Tryz.func100,Q1 (by kernel_rfl),by kernel_rfl,rfl,rfl⟩
def Z4g:VCode:=cof Tryz.f101
theorem Q4a:Fun Tryz.prog 101 Z4g [.tmp 4] 23:=⟨Tryz.f101,Tryz.func101,Q1 (by kernel_rfl),by kernel_rfl,rfl,rfl⟩
def Z1v:VCode:=cof Tryz.f102
theorem IF:Fun Tryz.prog 102 Z1v [.tmp 4] 10:=⟨Tryz.f102,Tryz.func102,Q1 (by kernel_rfl),by kernel_rfl,rfl,rfl⟩
def Z1y:VCode:=cof Tryz.f103
theorem Oe:Fun Tryz.prog 103 Z1y [.cell 2 true 3,.tmp 3] 30:=⟨Tryz.f103,Tryz.func103,Q1 (by kernel_rfl),by kernel_rfl,rfl,rfl⟩
def Z1q:VCode:=cof Tryz.f104
theorem Ol:Fun Tryz.prog 104 Z1q [.tmp 4] 26:=⟨Tryz.f104,Tryz.func104,Q1 (by kernel_rfl),by kernel_rfl,rfl,rfl⟩
def Z4d:VCode:=cof Tryz.f105
theorem Q3i:Fun Tryz.prog 105 Z4d [.tmp 4] 11:=⟨Tryz.f105,Tryz.func105,Q1 (by kernel_rfl),by kernel_rfl,rfl,rfl⟩
def Z2c:VCode:=cof Tryz.f106
theorem Q4i:Fun Tryz.prog 106 Z2c [.cell 2 true 3] 5:=⟨Tryz.f106,Tryz.func106,Q1 (by kernel_rfl),by kernel_rfl,rfl,rfl⟩
def Z2l:VCode:=cof Tryz.f107
theorem Q2d:Fun Tryz.prog 107 Z2l [.cell 6 false 1] 73:=⟨Tryz.f107,Tryz.func107,Q1 (by kernel_rfl),by kernel_rfl,rfl,rfl⟩
def Z2z:VCode:=cof Tryz.f108
theorem Q2i:Fun Tryz.prog 108 Z2z [.tmp 2] 5:=⟨Tryz.f108,Tryz.func108,Q1 (by kernel_rfl),by kernel_rfl,rfl,rfl⟩
def Z2b:VCode:=cof Tryz.f109
theorem Q3z:Fun Tryz.prog 109 Z2b [] 14:=⟨Tryz.f109,Tryz.func109,Q1 (by kernel_rfl),by kernel_rfl,rfl,rfl⟩
def Z2a:VCode:=cof Tryz.f110
theorem Q24:Fun Tryz.prog 110 Z2a [] 16:=⟨Tryz.f110,Tryz.func110,Q1 (by kernel_rfl),by kernel_rfl,rfl,rfl⟩
def Z48:VCode:=cof Tryz.f111
theorem Q28:Fun Tryz.prog 111 Z48 [.tmp 2] 6:=⟨Tryz.f111,Tryz.func111,Q1 (by kernel_rfl),by kernel_rfl,rfl,rfl⟩
def Z23:VCode:=cof Tryz.f112
theorem I0:Fun Tryz.prog 112 Z23 [.tmp 3] 14:=⟨Tryz.f112,Tryz.func112,Q1 (by kernel_rfl),by kernel_rfl,rfl,rfl⟩
def Z1f:VCode:=cof Tryz.f113
theorem Oy:Fun Tryz.prog 113 Z1f [.tmp 4] 9:=⟨Tryz.f113,Tryz.func113,Q1 (by kernel_rfl),by kernel_rfl,rfl,rfl⟩
def Z1e:VCode:=cof Tryz.f114
theorem IL:Fun Tryz.prog 114 Z1e [.tmp 2] 4:=⟨Tryz.f114,Tryz.func114,Q1 (by kernel_rfl),by kernel_rfl,rfl,rfl⟩
def Z19:VCode:=cof Tryz.f115
theorem FJ:Fun Tryz.prog 115 Z19 [.tmp 4] 48:=⟨Tryz.f115,Tryz.func115,Q1 (by kernel_rfl),by kernel_rfl,rfl,rfl⟩
def Z22:VCode:=cof Tryz.f116
theorem FO:Fun Tryz.prog 116 Z22 [.tmp 6] 25:=⟨Tryz.f116,Tryz.func116,Q1 (by kernel_rfl),by kernel_rfl,rfl,rfl⟩
def Z1m:VCode:=cof Tryz.f117
theorem I1:Fun Tryz.prog 117 Z1m [] 28:=⟨Tryz.f117,Tryz.func117,Q1 (by kernel_rfl),by kernel_rfl,rfl,rfl⟩
def Z1r:VCode:=cof Tryz.f118
theorem IW:Fun Tryz.prog 118 Z1r [.tmp 4] 52:=⟨Tryz.f118,Tryz.func118,Q1 (by kernel_rfl),by kernel_rfl,rfl,rfl⟩
def Z1j:VCode:=cof Tryz.f119
theorem OH:Fun Tryz.prog 119 Z1j [.tmp 2] 5:=⟨Tryz.f119,Tryz.func119,Q1 (by kernel_rfl),by kernel_rfl,rfl,rfl⟩
def Z3r:VCode:=cof Tryz.f120
theorem fun120:Fun Tryz.prog 120 Z3r [] 11:=⟨Tryz.f120,Tryz.func120,Q1 (by kernel_rfl),by kernel_rfl,rfl,rfl⟩
def Z24:VCode:=cof Tryz.f121
theorem FU:Fun Tryz.prog 121 Z24 [] 14:=⟨Tryz.f121,Tryz.func121,Q1 (by kernel_rfl),by kernel_rfl,rfl,rfl⟩
def Z2t:VCode:=cof Tryz.f122
theorem Q33:Fun Tryz.prog 122 Z2t [.tmp 6] 79:=⟨Tryz.f122,Tryz.func122,Q1 (by kernel_rfl),by kernel_rfl,rfl,rfl⟩
def Z1x:VCode:=cof Tryz.f123
theorem IT:Fun Tryz.prog 123 Z1x [.tmp 3] 17:=⟨Tryz.f123,Tryz.func123,Q1 (by kernel_rfl),by kernel_rfl,rfl,rfl⟩
def Z1a:VCode:=cof Tryz.f124
theorem On:Fun Tryz.prog 124 Z1a [.tmp 4] 9:=⟨Tryz.f124,Tryz.func124,Q1 (by kernel_rfl),by kernel_rfl,rfl,rfl⟩
def Z1w:VCode:=cof Tryz.f125
theorem Om:Fun Tryz.prog 125 Z1w [.tmp 4] 13:=⟨Tryz.f125,Tryz.func125,Q1 (by kernel_rfl),by kernel_rfl,rfl,rfl⟩
def Z3m:VCode:=cof Tryz.f126
theorem Q4x:Fun Tryz.prog 126 Z3m [.tmp 4] 19:=⟨Tryz.f126,Tryz.func126,Q1 (by kernel_rfl),by kernel_rfl,rfl,rfl⟩
def Z2r:VCode:=cof Tryz.f127
theorem Q2o:Fun Tryz.prog 127 Z2r [.tmp 6] 8:=⟨Tryz.f127,Tryz.func127,Q1 (by kernel_rfl),by kernel_rfl,rfl,rfl⟩
def Z40:VCode:=cof Tryz.f128
theorem Q30:Fun Tryz.prog 128 Z40 [] 14:=⟨Tryz.f128,Tryz.func128,Q1 (by kernel_rfl),by kernel_rfl,rfl,rfl⟩
def Z3o:VCode:=cof Tryz.f129
theorem Q40:Fun Tryz.prog 129 Z3o [.tmp 4] 36:=⟨Tryz.f129,Tryz.func129,Q1 (by kernel_rfl),by kernel_rfl,rfl,rfl⟩
def Z4a:VCode:=cof Tryz.f130
theorem Q3e:Fun Tryz.prog 130 Z4a [.tmp 4] 66:=⟨Tryz.f130,Tryz.func130,Q1 (by kernel_rfl),by kernel_rfl,rfl,rfl⟩
def Z4x:VCode:=cof Tryz.f131
theorem Q54:Fun Tryz.prog 131 Z4x [.tmp 4] 26:=⟨Tryz.f131,Tryz.func131,Q1 (by kernel_rfl),by kernel_rfl,rfl,rfl⟩
def Z4z:VCode:=cof Tryz.f132
theorem Q2r:Fun Tryz.prog 132 Z4z [.tmp 6] 22:=⟨Tryz.f132,Tryz.func132,Q1 (by kernel_rfl),by kernel_rfl,rfl,rfl⟩
def Z46:VCode:=cof Tryz.f133
theorem Q2y:Fun Tryz.prog 133 Z46 [.tmp 3] 12:=⟨Tryz.f133,Tryz.func133,Q1 (by kernel_rfl),by kernel_rfl,rfl,rfl⟩
def Z3j:VCode:=cof Tryz.f134
theorem Q2g:Fun Tryz.prog 134 Z3j [.tmp 4] 143:=⟨Tryz.f134,Tryz.func134,Q1 (by kernel_rfl),by kernel_rfl,rfl,rfl⟩
def Z3a:VCode:=cof Tryz.f135
theorem Q4n:Fun Tryz.prog 135 Z3a [] 31:=⟨Tryz.f135,Tryz.func135,Q1 (by kernel_rfl),by kernel_rfl,rfl,rfl⟩
def Z4e:VCode:=cof Tryz.f136
theorem Q4m:Fun Tryz.prog 136 Z4e [.tmp 4] 19:=⟨Tryz.f136,Tryz.func136,Q1 (by kernel_rfl),by kernel_rfl,rfl,rfl⟩
def Z18:VCode:=cof Tryz.f137
theorem Fs:Fun Tryz.prog 137 Z18 [.tmp 4] 13:=⟨Tryz.f137,Tryz.func137,Q1 (by kernel_rfl),by kernel_rfl,rfl,rfl⟩
def Z3k:VCode:=cof Tryz.f138
theorem Q29:Fun Tryz.prog 138 Z3k [.tmp 4] 6:=⟨Tryz.f138,Tryz.func138,Q1 (by kernel_rfl),by kernel_rfl,rfl,rfl⟩
def Z2f:VCode:=cof Tryz.f139
theorem Q2l:Fun Tryz.prog 139 Z2f [.tmp 4] 13:=⟨Tryz.f139,Tryz.func139,Q1 (by kernel_rfl),by kernel_rfl,rfl,rfl⟩
def Z4h:VCode:=cof Tryz.f140
theorem Q4g:Fun Tryz.prog 140 Z4h [] 148:=⟨Tryz.f140,Tryz.func140,Q1 (by kernel_rfl),by kernel_rfl,rfl,rfl⟩
def Z4q:VCode:=cof Tryz.f141
theorem Q46:Fun Tryz.prog 141 Z4q [.tmp 2] 8:=⟨Tryz.f141,Tryz.func141,Q1 (by kernel_rfl),by kernel_rfl,rfl,rfl⟩
def Z1t:VCode:=cof Tryz.f142
theorem II:Fun Tryz.prog 142 Z1t [.tmp 4] 19:=⟨Tryz.f142,Tryz.func142,Q1 (by kernel_rfl),by kernel_rfl,rfl,rfl⟩
def Z4b:VCode:=cof Tryz.f143
theorem Q32:Fun Tryz.prog 143 Z4b [] 19:=⟨Tryz.f143,Tryz.func143,Q1 (by kernel_rfl),by kernel_rfl,rfl,rfl⟩
def Z17:VCode:=cof Tryz.f144
theorem FD:Fun Tryz.prog 144 Z17 [.tmp 4,.tmp 5] 30:=⟨Tryz.f144,Tryz.func144,Q1 (by kernel_rfl),by kernel_rfl,rfl,rfl⟩
def Z1o:VCode:=cof Tryz.f145
theorem Ii:Fun Tryz.prog 145 Z1o [] 39:=⟨Tryz.f145,Tryz.func145,Q1 (by kernel_rfl),by kernel_rfl,rfl,rfl⟩
def Z1p:VCode:=cof Tryz.f146
theorem IJ:Fun Tryz.prog 146 Z1p [.tmp 4] 13:=⟨Tryz.f146,Tryz.func146,Q1 (by kernel_rfl),by kernel_rfl,rfl,rfl⟩
def Z2n:VCode:=cof Tryz.f147
theorem Q36:Fun Tryz.prog 147 Z2n [] 134:=⟨Tryz.f147,Tryz.func147,Q1 (by kernel_rfl),by kernel_rfl,rfl,rfl⟩
def Z1d:VCode:=cof Tryz.f148
theorem Ij:Fun Tryz.prog 148 Z1d [.tmp 4] 19:=⟨Tryz.f148,Tryz.func148,Q1 (by kernel_rfl),by kernel_rfl,rfl,rfl⟩
def Z3s:VCode:=cof Tryz.f149
theorem Q4u:Fun Tryz.prog 149 Z3s [] 45:=⟨Tryz.f149,Tryz.func149,Q1 (by kernel_rfl),by kernel_rfl,rfl,rfl⟩
def Z4i:VCode:=cof Tryz.f150
theorem Q2q:Fun Tryz.prog 150 Z4i [.tmp 8] 55:=⟨Tryz.f150,Tryz.func150,Q1 (by kernel_rfl),by kernel_rfl,rfl,rfl⟩
def Z26:VCode:=cof Tryz.f151
theorem Q3p:Fun Tryz.prog 151 Z26 [] 148:=⟨Tryz.f151,Tryz.func151,Q1 (by kernel_rfl),by kernel_rfl,rfl,rfl⟩
def Z4y:VCode:=cof Tryz.f152
theorem Q2x:Fun Tryz.prog 152 Z4y [.tmp 4] 18:=⟨Tryz.f152,Tryz.func152,Q1 (by kernel_rfl),by kernel_rfl,rfl,rfl⟩
def Z1n:VCode:=cof Tryz.f153
theorem FG:Fun Tryz.prog 153 Z1n [.tmp 2] 26:=⟨Tryz.f153,Tryz.func153,Q1 (by kernel_rfl),by kernel_rfl,rfl,rfl⟩
def Z2h:VCode:=cof Tryz.f154
theorem Q4d:Fun Tryz.prog 154 Z2h [] 20:=⟨Tryz.f154,Tryz.func154,Q1 (by kernel_rfl),by kernel_rfl,rfl,rfl⟩
def Z4v:VCode:=cof Tryz.f155
theorem Q2c:Fun Tryz.prog 155 Z4v [] 53:=⟨Tryz.f155,Tryz.func155,Q1 (by kernel_rfl),by kernel_rfl,rfl,rfl⟩
def Z4l:VCode:=cof Tryz.f156
theorem Q4f:Fun Tryz.prog 156 Z4l [] 60:=⟨Tryz.f156,Tryz.func156,Q1 (by kernel_rfl),by kernel_rfl,rfl,rfl⟩
def Z4n:VCode:=cof Tryz.f157
theorem Q2n:Fun Tryz.prog 157 Z4n [] 67:=⟨Tryz.f157,Tryz.func157,Q1 (by kernel_rfl),by kernel_rfl,rfl,rfl⟩
def Z42:VCode:=cof Tryz.f158
theorem Q3w:Fun Tryz.prog 158 Z42 [.tmp 8,.tmp 9] 63:=⟨Tryz.f158,Tryz.func158,Q1 (by kernel_rfl),by kernel_rfl,rfl,rfl⟩
def Z2k:VCode:=cof Tryz.f159
theorem Q4b:Fun Tryz.prog 159 Z2k [] 34:=⟨Tryz.f159,Tryz.func159,Q1 (by kernel_rfl),by kernel_rfl,rfl,rfl⟩
def Z3q:VCode:=cof Tryz.f160
theorem Q45:Fun Tryz.prog 160 Z3q [.tmp 8] 141:=⟨Tryz.f160,Tryz.func160,Q1 (by kernel_rfl),by kernel_rfl,rfl,rfl⟩
def Z2m:VCode:=cof Tryz.f161
theorem Q44:Fun Tryz.prog 161 Z2m [.tmp 10] 90:=⟨Tryz.f161,Tryz.func161,Q1 (by kernel_rfl),by kernel_rfl,rfl,rfl⟩
def Z2s:VCode:=cof Tryz.f162
theorem Q2p:Fun Tryz.prog 162 Z2s [.tmp 10,.tmp 11] 178:=⟨Tryz.f162,Tryz.func162,Q1 (by kernel_rfl),by kernel_rfl,rfl,rfl⟩
def Z3w:VCode:=cof Tryz.f163
theorem Q4q:Fun Tryz.prog 163 Z3w [.tmp 2] 19:=⟨Tryz.f163,Tryz.func163,Q1 (by kernel_rfl),by kernel_rfl,rfl,rfl⟩
def Z3x:VCode:=cof Tryz.f164
theorem Q26:Fun Tryz.prog 164 Z3x [.tmp 2] 25:=⟨Tryz.f164,Tryz.func164,Q1 (by kernel_rfl),by kernel_rfl,rfl,rfl⟩
def Z1s:VCode:=cof Tryz.f165
theorem I8:Fun Tryz.prog 165 Z1s [.tmp 4,.tmp 5] 17:=⟨Tryz.f165,Tryz.func165,Q1 (by kernel_rfl),by kernel_rfl,rfl,rfl⟩
def Z1g:VCode:=cof Tryz.f166
theorem FN:Fun Tryz.prog 166 Z1g [.tmp 4,.tmp 5] 51:=⟨Tryz.f166,Tryz.func166,Q1 (by kernel_rfl),by kernel_rfl,rfl,rfl⟩
def Z3d:VCode:=cof Tryz.f167
theorem Q3r:Fun Tryz.prog 167 Z3d [] 49:=⟨Tryz.f167,Tryz.func167,Q1 (by kernel_rfl),by kernel_rfl,rfl,rfl⟩
def Z2u:VCode:=cof Tryz.f168
theorem Q2w:Fun Tryz.prog 168 Z2u [] 56:=⟨Tryz.f168,Tryz.func168,Q1 (by kernel_rfl),by kernel_rfl,rfl,rfl⟩
def Z47:VCode:=cof Tryz.f169
theorem Q53:Fun Tryz.prog 169 Z47 [] 65:=⟨Tryz.f169,Tryz.func169,Q1 (by kernel_rfl),by kernel_rfl,rfl,rfl⟩
def Z3u:VCode:=cof Tryz.f170
theorem Q3t:Fun Tryz.prog 170 Z3u [.tmp 6,.tmp 7] 57:=⟨Tryz.f170,Tryz.func170,Q1 (by kernel_rfl),by kernel_rfl,rfl,rfl⟩
def Z3t:VCode:=cof Tryz.f171
theorem Q4y:Fun Tryz.prog 171 Z3t [] 32:=⟨Tryz.f171,Tryz.func171,Q1 (by kernel_rfl),by kernel_rfl,rfl,rfl⟩
def Z4w:VCode:=cof Tryz.f172
theorem Q39:Fun Tryz.prog 172 Z4w [.tmp 6] 133:=⟨Tryz.f172,Tryz.func172,Q1 (by kernel_rfl),by kernel_rfl,rfl,rfl⟩
def Z43:VCode:=cof Tryz.f173
theorem Q2s:Fun Tryz.prog 173 Z43 [.tmp 4] 17:=⟨Tryz.f173,Tryz.func173,Q1 (by kernel_rfl),by kernel_rfl,rfl,rfl⟩
def Z4m:VCode:=cof Tryz.f174
theorem Q38:Fun Tryz.prog 174 Z4m [.tmp 8] 84:=⟨Tryz.f174,Tryz.func174,Q1 (by kernel_rfl),by kernel_rfl,rfl,rfl⟩
def Z2d:VCode:=cof Tryz.f175
theorem Q3m:Fun Tryz.prog 175 Z2d [.tmp 8,.tmp 9] 168:=⟨Tryz.f175,Tryz.func175,Q1 (by kernel_rfl),by kernel_rfl,rfl,rfl⟩
def Z27:VCode:=cof Tryz.f176
theorem Q3u:Fun Tryz.prog 176 Z27 [] 53:=⟨Tryz.f176,Tryz.func176,Q1 (by kernel_rfl),by kernel_rfl,rfl,rfl⟩
def Z33:VCode:=cof Tryz.f177
theorem Q4z:Fun Tryz.prog 177 Z33 [] 60:=⟨Tryz.f177,Tryz.func177,Q1 (by kernel_rfl),by kernel_rfl,rfl,rfl⟩
def Z3z:VCode:=cof Tryz.f178
theorem Q2v:Fun Tryz.prog 178 Z3z [] 67:=⟨Tryz.f178,Tryz.func178,Q1 (by kernel_rfl),by kernel_rfl,rfl,rfl⟩
def Z3g:VCode:=cof Tryz.f179
theorem Q3x:Fun Tryz.prog 179 Z3g [.tmp 8,.tmp 9] 63:=⟨Tryz.f179,Tryz.func179,Q1 (by kernel_rfl),by kernel_rfl,rfl,rfl⟩
def Z2o:VCode:=cof Tryz.f180
theorem Q3a:Fun Tryz.prog 180 Z2o [] 34:=⟨Tryz.f180,Tryz.func180,Q1 (by kernel_rfl),by kernel_rfl,rfl,rfl⟩
def Z4k:VCode:=cof Tryz.f181
theorem Q3g:Fun Tryz.prog 181 Z4k [.tmp 8] 141:=⟨Tryz.f181,Tryz.func181,Q1 (by kernel_rfl),by kernel_rfl,rfl,rfl⟩
def Z4o:VCode:=cof Tryz.f182
theorem Q2b:Fun Tryz.prog 182 Z4o [.tmp 10] 90:=⟨Tryz.f182,Tryz.func182,Q1 (by kernel_rfl),by kernel_rfl,rfl,rfl⟩
def Z4j:VCode:=cof Tryz.f183
theorem Q2z:Fun Tryz.prog 183 Z4j [.tmp 10,.tmp 11] 178:=⟨Tryz.f183,Tryz.func183,Q1 (by kernel_rfl),by kernel_rfl,rfl,rfl⟩
def Z25:VCode:=cof Tryz.f184
theorem It:Fun Tryz.prog 184 Z25 [.tmp 2] 22:=⟨Tryz.f184,Tryz.func184,Q1 (by kernel_rfl),by kernel_rfl,rfl,rfl⟩
def Z2y:VCode:=cof Tryz.f185
theorem Q25:Fun Tryz.prog 185 Z2y [] 82:=⟨Tryz.f185,Tryz.func185,Q1 (by kernel_rfl),by kernel_rfl,rfl,rfl⟩
def Z32:VCode:=cof Tryz.f186
theorem Q2e:Fun Tryz.prog 186 Z32 [.tmp 2] 7:=⟨Tryz.f186,Tryz.func186,Q1 (by kernel_rfl),by kernel_rfl,rfl,rfl⟩
def Z3b:VCode:=cof Tryz.f187
theorem Q2m:Fun Tryz.prog 187 Z3b [.tmp 2] 33:=⟨Tryz.f187,Tryz.func187,Q1 (by kernel_rfl),by kernel_rfl,rfl,rfl⟩
def Z3i:VCode:=cof Tryz.f188
theorem Q4p:Fun Tryz.prog 188 Z3i [.tmp 8] 18:=⟨Tryz.f188,Tryz.func188,Q1 (by kernel_rfl),by kernel_rfl,rfl,rfl⟩
def Z30:VCode:=cof Tryz.f189
theorem Q2k:Fun Tryz.prog 189 Z30 [.tmp 12] 41:=⟨Tryz.f189,Tryz.func189,Q1 (by kernel_rfl),by kernel_rfl,rfl,rfl⟩
def Z4r:VCode:=cof Tryz.f190
theorem Q37:Fun Tryz.prog 190 Z4r [] 76:=⟨Tryz.f190,Tryz.func190,Q1 (by kernel_rfl),by kernel_rfl,rfl,rfl⟩
def Z3p:VCode:=cof Tryz.f191
theorem Q3y:Fun Tryz.prog 191 Z3p [.tmp 6] 15:=⟨Tryz.f191,Tryz.func191,Q1 (by kernel_rfl),by kernel_rfl,rfl,rfl⟩
def Z4t:VCode:=cof Tryz.f192
theorem Q47:Fun Tryz.prog 192 Z4t [.tmp 10] 36:=⟨Tryz.f192,Tryz.func192,Q1 (by kernel_rfl),by kernel_rfl,rfl,rfl⟩
def Z4c:VCode:=cof Tryz.f193
theorem Q2h:Fun Tryz.prog 193 Z4c [] 82:=⟨Tryz.f193,Tryz.func193,Q1 (by kernel_rfl),by kernel_rfl,rfl,rfl⟩
def Z35:VCode:=cof Tryz.f194
theorem Q50:Fun Tryz.prog 194 Z35 [.tmp 8] 18:=⟨Tryz.f194,Tryz.func194,Q1 (by kernel_rfl),by kernel_rfl,rfl,rfl⟩
def Z2p:VCode:=cof Tryz.f195
theorem Q31:Fun Tryz.prog 195 Z2p [.tmp 12] 41:=⟨Tryz.f195,Tryz.func195,Q1 (by kernel_rfl),by kernel_rfl,rfl,rfl⟩
def Z2g:VCode:=cof Tryz.f196
theorem Q42:Fun Tryz.prog 196 Z2g [.tmp 10,.tmp 11] 32:=⟨Tryz.f196,Tryz.func196,Q1 (by kernel_rfl),by kernel_rfl,rfl,rfl⟩
def Z4p:VCode:=cof Tryz.f197
theorem Q4s:Fun Tryz.prog 197 Z4p [.tmp 8,.tmp 9] 28:=⟨Tryz.f197,Tryz.func197,Q1 (by kernel_rfl),by kernel_rfl,rfl,rfl⟩
def Z3f:VCode:=cof Tryz.f198
theorem Q4t:Fun Tryz.prog 198 Z3f [.tmp 10,.tmp 11] 32:=⟨Tryz.f198,Tryz.func198,Q1 (by kernel_rfl),by kernel_rfl,rfl,rfl⟩
end Go.Proofs.Tryz
namespace Go.Proofs.Tryz
open Go Go.V
def Z5v:List (Option FEnt):=[
 none,
 none,
 some (.code c2 [] 1),
 some (.code c3 [.tmp 2] 84),
 some (.code c4 [.tmp 4] 203),
 some (.code c5 [.tmp 2] 92),
 some (.code c6 [.tmp 6] 129),
 some (.code c7 [.tmp 4] 283),
 some (.code c8 [.tmp 6] 207),
 some (.code c9 [.tmp 2] 249),
 some (.code c10 [.tmp 6] 205),
 some (.code c11 [.tmp 2] 265),
 some (.code c12 [.tmp 4] 132),
 some (.code c13 [.tmp 4] 228),
 some (.code c14 [.tmp 6] 133),
 some (.code c15 [.tmp 0] 226),
 some (.code c16 [.cell 2 true 2] 9),
 some (.codeJ c17 [.tmp 2,.tmp 3] 49),
 some (.codeJ c18 [.cell 2 true 2,.tmp 3] 34),
 some (.code c19 [.tmp 2] 32),
 some (.code c20 [.tmp 2] 45),
 some (.code c21 [.tmp 4] 17),
 some (.code c22 [.tmp 4] 26),
 some (.code c23 [.tmp 2] 74),
 some (.code c24 [.cell 2 true 2] 44),
 some (.code c25 [.tmp 2] 6),
 some (.codeJ c26 [.tmp 4,.tmp 5,.tmp 6,.tmp 7] 79),
 some (.codeJ c27 [.tmp 6,.tmp 7] 29),
 some (.codeJ c28 [.tmp 6,.tmp 7] 33),
 some (.code c29 [.tmp 4] 15),
 some (.code c30 [.tmp 6] 15),
 some (.code c31 [.cell 4 true 4,.tmp 5] 41),
 some (.code c32 [.tmp 6,.tmp 7] 60),
 some (.code c33 [.tmp 2] 37),
 some (.code c34 [.cell 2 true 3] 34),
 some (.code c35 [.tmp 2] 36),
 some (.codeJ c36 [.tmp 2,.tmp 3] 34),
 some (.codeJ c37 [.cell 2 false 1,.tmp 3] 44),
 some (.code c38 [.tmp 2] 78),
 some (.code c39 [.tmp 4] 63),
 some (.code c40 [.tmp 2] 5),
 some (.code c41 [.tmp 4] 27),
 some (.codeJ c42 [.tmp 6,.tmp 7] 57),
 some (.codeJ c43 [.tmp 2,.tmp 3] 45),
 some (.code c44 [.tmp 8] 46),
 some (.code c45 [.tmp 4] 66),
 some (.code c46 [.cell 2 true 2] 50),
 some (.codeJ c47 [.cell 2 true 2,.tmp 3] 54),
 some (.codeJ c48 [.tmp 6,.tmp 7,.tmp 8] 58),
 some (.code c49 [.tmp 4] 20),
 some (.code c50 [.tmp 4] 16),
 some (.code c51 [.cell 2 true 2] 74),
 some (.code c52 [.tmp 4] 52),
 some (.code c53 [.cell 2 true 2] 37),
 some (.code c54 [.tmp 4,.tmp 5,.tmp 6,.tmp 7,.tmp 8] 91),
 some (.code c55 [.cell 2 true 3,.tmp 3] 165),
 some (.code c56 [.tmp 4] 37),
 some (.code c57 [.tmp 2] 11),
 some (.code c58 [.cell 2 true 2,.tmp 3] 54),
 some (.code c59 [.tmp 6,.tmp 7,.tmp 8] 65),
 some (.code c60 [.cell 0 true 2] 8),
 some (.code c61 [.cell 2 true 3] 23),
 some (.code c62 [.cell 2 true 3,.tmp 3] 43),
 some (.code c63 [.tmp 4] 25),
 some (.code c64 [.tmp 4] 12),
 some (.code c65 [.tmp 2] 4),
 some (.code c66 [.tmp 4] 10),
 some (.code c67 [.tmp 4] 20),
 some (.code c68 [.tmp 4] 14),
 some (.code c69 [.tmp 4] 26),
 some (.code c70 [.tmp 4] 55),
 some (.code c71 [.tmp 4] 41),
 some (.code c72 [.tmp 4] 33),
 some (.code c73 [.cell 4 true 4,.tmp 5] 33),
 some (.code c74 [.tmp 2] 70),
 some (.code c75 [.tmp 2] 25),
 some (.code c76 [.tmp 4] 19),
 some (.code c77 [.tmp 2] 5),
 some (.code c78 [.tmp 6] 15),
 some (.code c79 [.tmp 6,.tmp 7] 28),
 some (.code c80 [.tmp 2] 9),
 some (.code c81 [.tmp 2] 4),
 some (.code c82 [.tmp 4] 30),
 some (.code c83 [.tmp 4] 24),
 some (.code c84 [.tmp 2] 7),
 some (.code c85 [.tmp 3] 9),
 some (.code c86 [.tmp 4] 16),
 some (.code c87 [.tmp 2] 6),
 some (.code c88 [.tmp 6] 11),
 some (.code c89 [.tmp 4] 9),
 some (.code c90 [.cell 4 false 1] 39),
 some (.code c91 [.tmp 4] 76),
 some (.code c92 [.cell 6 false 1] 110),
 some (.code c93 [.tmp 4] 26),
 some (.code c94 [.tmp 4] 19),
 some (.code c95 [.tmp 6] 29),
 some (.code c96 [.tmp 4] 9),
 some (.code c97 [.tmp 2] 9),
 some (.code c98 [.tmp 6] 88),
 some (.code c99 [.tmp 4] 6),
 some (.code Z34 [.tmp 4] 9),
 some (.code Z4g [.tmp 4] 23),
 some (.code Z1v [.tmp 4] 10),
 some (.code Z1y [.cell 2 true 3,.tmp 3] 30),
 some (.code Z1q [.tmp 4] 26),
 some (.code Z4d [.tmp 4] 11),
 some (.code Z2c [.cell 2 true 3] 5),
 some (.code Z2l [.cell 6 false 1] 73),
 some (.code Z2z [.tmp 2] 5),
 some (.code Z2b [] 14),
 some (.code Z2a [] 16),
 some (.code Z48 [.tmp 2] 6),
 some (.code Z23 [.tmp 3] 14),
 some (.code Z1f [.tmp 4] 9),
 some (.code Z1e [.tmp 2] 4),
 some (.code Z19 [.tmp 4] 48),
 some (.code Z22 [.tmp 6] 25),
 some (.code Z1m [] 28),
 some (.code Z1r [.tmp 4] 52),
 some (.code Z1j [.tmp 2] 5),
 some (.code Z3r [] 11),
 some (.code Z24 [] 14),
 some (.code Z2t [.tmp 6] 79),
 some (.code Z1x [.tmp 3] 17),
 some (.code Z1a [.tmp 4] 9),
 some (.code Z1w [.tmp 4] 13),
 some (.code Z3m [.tmp 4] 19),
 some (.code Z2r [.tmp 6] 8),
 some (.code Z40 [] 14),
 some (.code Z3o [.tmp 4] 36),
 some (.code Z4a [.tmp 4] 66),
 some (.code Z4x [.tmp 4] 26),
 some (.code Z4z [.tmp 6] 22),
 some (.code Z46 [.tmp 3] 12),
 some (.code Z3j [.tmp 4] 143),
 some (.code Z3a [] 31),
 some (.code Z4e [.tmp 4] 19),
 some (.code Z18 [.tmp 4] 13),
 some (.code Z3k [.tmp 4] 6),
 some (.code Z2f [.tmp 4] 13),
 some (.code Z4h [] 148),
 some (.code Z4q [.tmp 2] 8),
 some (.code Z1t [.tmp 4] 19),
 some (.code Z4b [] 19),
 some (.code Z17 [.tmp 4,.tmp 5] 30),
 some (.code Z1o [] 39),
 some (.code Z1p [.tmp 4] 13),
 some (.code Z2n [] 134),
 some (.code Z1d [.tmp 4] 19),
 some (.code Z3s [] 45),
 some (.code Z4i [.tmp 8] 55),
 some (.code Z26 [] 148),
 some (.code Z4y [.tmp 4] 18),
 some (.code Z1n [.tmp 2] 26),
 some (.code Z2h [] 20),
 some (.code Z4v [] 53),
 some (.code Z4l [] 60),
 some (.code Z4n [] 67),
 some (.code Z42 [.tmp 8,.tmp 9] 63),
 some (.code Z2k [] 34),
 some (.code Z3q [.tmp 8] 141),
 some (.code Z2m [.tmp 10] 90),
 some (.code Z2s [.tmp 10,.tmp 11] 178),
 some (.code Z3w [.tmp 2] 19),
 some (.code Z3x [.tmp 2] 25),
 some (.code Z1s [.tmp 4,.tmp 5] 17),
 some (.code Z1g [.tmp 4,.tmp 5] 51),
 some (.code Z3d [] 49),
 some (.code Z2u [] 56),
 some (.code Z47 [] 65),
 some (.code Z3u [.tmp 6,.tmp 7] 57),
 some (.code Z3t [] 32),
 some (.code Z4w [.tmp 6] 133),
 some (.code Z43 [.tmp 4] 17),
 some (.code Z4m [.tmp 8] 84),
 some (.code Z2d [.tmp 8,.tmp 9] 168),
 some (.code Z27 [] 53),
 some (.code Z33 [] 60),
 some (.code Z3z [] 67),
 some (.code Z3g [.tmp 8,.tmp 9] 63),
 some (.code Z2o [] 34),
 some (.code Z4k [.tmp 8] 141),
 some (.code Z4o [.tmp 10] 90),
 some (.code Z4j [.tmp 10,.tmp 11] 178),
 some (.code Z25 [.tmp 2] 22),
 some (.code Z2y [] 82),
 some (.code Z32 [.tmp 2] 7),
 some (.code Z3b [.tmp 2] 33),
 some (.code Z3i [.tmp 8] 18),
 some (.code Z30 [.tmp 12] 41),
 some (.code Z4r [] 76),
 some (.code Z3p [.tmp 6] 15),
 some (.code Z4t [.tmp 10] 36),
 some (.code Z4c [] 82),
 some (.code Z35 [.tmp 8] 18),
 some (.code Z2p [.tmp 12] 41),
 some (.code Z2g [.tmp 10,.tmp 11] 32),
 some (.code Z4p [.tmp 8,.tmp 9] 28),
 some (.code Z3f [.tmp 10,.tmp 11] 32)]
def Im:Tab:=λf=>(Z5v[f]?).join
theorem Q58:EntsOk Tryz.prog 0 Z5v:=⟨trivial,trivial,Z56,Z5w,Z57,Z50,Z5i,Z5c,Z5b,fun9,Q8f,Z0q,Q92,Q9q,Z00,Q61,Q5o,Q8u,Q9k,Q8c,Q9s,Z03,Q9o,Z0l,Z0m,Q6y,Q5s,Q5f,Q6l,Z0k,Q8p,Q8l,Q9b,Q9w,Q94,Z15,Q7z,Q83,Q8z,Q7x,Z12,Q8h,Z0y,Z10,Q8y,Z09,Q7u,Z08,Q6v,Q56,Q55,Z0g,Q8a,Q72,Q5v,Q9x,Z0n,Q9v,Q9i,Q9d,Q8i,Q8o,Z0s,Z0e,Z0d,Q84,Q7w,Z14,Q8d,Q8x,Z06,Z0r,Q85,Q0y,Q5g,Q71,Q76,Q6e,Q6w,Q77,Q6i,Q6u,Q9p,Q9c,Q9n,Q9g,Q5l,Q5h,Q62,Q95,Q8k,Q9l,Z0f,Q80,Q9y,Z0b,Q86,Q8n,Q7t,Z0h,Q4l,Q4a,IF,Oe,Ol,Q3i,Q4i,Q2d,Q2i,Q3z,Q24,Q28,I0,Oy,IL,FJ,FO,I1,IW,OH,fun120,FU,Q33,IT,On,Om,Q4x,Q2o,Q30,Q40,Q3e,Q54,Q2r,Q2y,Q2g,Q4n,Q4m,Fs,Q29,Q2l,Q4g,Q46,II,Q32,FD,Ii,IJ,Q36,Ij,Q4u,Q2q,Q3p,Q2x,FG,Q4d,Q2c,Q4f,Q2n,Q3w,Q4b,Q45,Q44,Q2p,Q4q,Q26,I8,FN,Q3r,Q2w,Q53,Q3t,Q4y,Q39,Q2s,Q38,Q3m,Q3u,Q4z,Q2v,Q3x,Q3a,Q3g,Q2b,Q2z,It,Q25,Q2e,Q2m,Q4p,Q2k,Q37,Q3y,Q47,Q2h,Q50,Q31,Q42,Q4s,Q4t,trivial⟩
theorem Pn:TabOk Tryz.prog Im:=Ae Q58
end Go.Proofs.Tryz