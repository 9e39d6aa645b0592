/- A framework for walks, contracts of functions, and their proofs: part 3. -/
import Derived.Test.YtfblnfcecfjbpaaGreatProg
import Derived.Test.YtfblnfcecfjbpaaGreatS2
noncomputable section
namespace Go.V
open Go
structure FRel (e:ET) (env:Env):Prop where
 m:e.m=List.length env
 sm:e.m<=1000000
 get:∀ i,env.getD i undef=e.get i
theorem ET.q0v {e:ET}{i:Nat}(hi:i<e.m):e.get i=e.t.get undef i:=by unfold ET.get;rw[show Nat.blt i e.m=true from Nat.ble_eq_true_of_le hi]
theorem ET.q0u {e:ET}{i:Nat}(hi:e.m<=i):e.get i=undef:=by
 unfold ET.get;cases hb:Nat.blt i e.m with
 |false=>rfl
 |true=>have:=zM hb;omega
theorem ET.q2g {e:ET}{i:Nat}{v:Value}(hi:i<e.m):e.set i v=⟨e.t.set undef 32 i v,e.m⟩:=by unfold ET.set;rw[show Nat.blt i e.m=true from Nat.ble_eq_true_of_le hi]
theorem ET.q2d {e:ET}{i:Nat}{v:Value}(hi:e.m<=i):e.set i v=e:=by
 unfold ET.set;cases hb:Nat.blt i e.m with
 |false=>rfl
 |true=>have:=zM hb;omega
theorem ET.q2l (e:ET) (i:Nat) (v:Value):(e.set i v).m=e.m:=by
 rcases zn i e.m with h|h
 .rw[ET.q2g h]
 .rw[ET.q2d h]
theorem ET.q1e {e:ET}(hs:e.m<=1000000) (i:Nat) (v:Value) (j:Nat):(e.set i v).get j=if j=i/\i<e.m then v else e.get j:=by
 rcases zn i e.m with hi|hi
 .rw[ET.q2g hi];rcases zn j e.m with hj|hj
  .rw[ET.q0v (e:=⟨e.t.set undef 32 i v,e.m⟩) hj,ET.q0v hj];show (e.t.set undef 32 i v).get undef j=_;rw[GT.q1e undef 32 _ _ _ _ (by omega)];by_cases h:j=i
   .rw[z7 h,z7 ⟨h,hi⟩]
   .rw[z1 h,z1 (λe=>h e.1)]
  .rw[ET.q0u (e:=⟨e.t.set undef 32 i v,e.m⟩) hj,ET.q0u hj,z1 (by rintro⟨rfl,_⟩;omega)]
 .rw[ET.q2d hi,z1 (by rintro⟨_,h⟩;omega)]
theorem FRel.set {e:ET}{env:Env}(h:FRel e env) (i:Nat) (v:Value):FRel (e.set i v) (env.set i v):=by
 refine⟨by rw[ET.q2l,xQ];exact h.m,by rw[ET.q2l];exact h.sm,λj=>?_⟩;rw[ET.q1e h.sm,<-h.get,zd,zd,xH,h.m];by_cases bN:i=j
 .subst bN;rcases zn i (List.length env) with hi|hi
  .rw[z7 rfl,z7 hi,z7 ⟨rfl,hi⟩];rfl
  .rw[z7 rfl,z1 (by omega),z1 (by rintro⟨_,h⟩;omega),zr hi]
 .rw[z1 bN,z1 (λe=>bN e.1.symm)]
theorem FRel.put {e:ET}{env:Env}(h:FRel e env) (d:Option Nat) (v:Value):FRel (e.put d v) (Xk env d v):=by
 cases d with
 |none=>exact h
 |some d=>exact h.set d v
theorem H7 {e:ET}{env:Env}(h:FRel e env):Gu e=Q6 env:=by
 funext x
 cases x with
 |tmp t=>exact(h.get t).symm
 |_=>rfl
theorem AB {e:ET}{env:Env}(h:FRel e env) (g:Option (Nat×Bool)):ON e g=Jm env g:=by
 cases g with
 |none=>rfl
 |some p =>obtain⟨d,w⟩:=p;simp only[ON,Jm,h.get];cases e.get d<;>rfl
theorem TM:∀ (ps:List Nat) (vs:List Value) {e:ET}{env:Env},FRel e env->FRel (Q3a e ps vs) (Hy env ps vs)
 |[],vs,e,env,h=>by cases vs<;>exact h
 |p::ps,[],e,env,h=>h
 |p::ps,v::vs,e,env,h=>TM ps vs (h.set p v)
theorem FP:∀ (l:List Value) (i:Nat) (t:GT Value) (j:Nat),i+l.length<=1000000->(etL l i t).get undef j=if i<=j/\j<i+l.length then l.getD (j-i) undef else t.get undef j
 |[],i,t,j,_=>by rw[z1 (by simp only[List.length_nil];omega)];rfl
 |v::l,i,t,j,h=>by
  have h:i+(l.length+1)<=1000000:=h;show (etL l (i+1) (t.set undef 32 i v)).get undef j=_;rw[FP l (i+1) _ j (by omega),GT.q1e undef 32 _ _ _ _ (by omega)];by_cases aN:j=i
  .subst aN;rw[z1 (by omega),z7 rfl,z7 (by simp)];simp
  .by_cases hc:i+1<=j/\j<i+1+l.length
   .rw[z7 hc,z7 (by simp;omega),show j-i=j-(i+1)+1 by omega];rfl
   .rw[z1 hc,z1 aN,z1 (by simp;omega)]
theorem ET.q1p {args:List Value}{nt:Nat}(h:(ET.of args nt).m<=1000000):FRel (ET.of args nt) (args++List.replicate (nt-args.length) undef):=by
 refine⟨by simp[ET.of],h,λi=>?_⟩;have hm:(ET.of args nt).m=args.length+(nt-args.length):=rfl;rw[hm] at h;rcases zn i (ET.of args nt).m with hi|hi
 .rw[ET.q0v hi];show _=(etL args 0 .nil).get undef i;rw[FP _ _ _ _ (by omega),zd,List.getElem?_append];rw[hm] at hi;by_cases hl:i<args.length
  .rw[z7 hl,z7 (by omega)];simp[zd]
  .rw[z1 hl,z1 (by omega),List.getElem?_replicate,z7 (by omega)];rfl
 .rw[ET.q0u hi];rw[hm] at hi;rw[zd,zr (by simp;omega)];rfl
def Ny (P:Program) (f:FuncId) (m:Memo):Prop :=
 VCalled P f m.args (QE m.bl []) (λu Z=>u=m.v/\Z=QE m.bl m.fr)/\∀ b∈m.fr,b.c.all QM=true
structure TabOk (P:Program) (T:Tab):Prop where
 code:∀ f vc rs nt,T f=some (.code vc rs nt)->Fun P f vc rs nt
 codeJ:∀ f vc rs nt,T f=some (.codeJ vc rs nt)->Fun P f vc rs nt
 codeM:∀ f vc rs nt ms,T f=some (.codeM vc rs nt ms)->Fun P f vc rs nt/\∀ m∈ms,Ny P f m
 same:∀ f,T f=some .same->∀ (v:Value) (U:Heap) (K:Value->Heap->Prop),K v U->VCalled P f [v] U K
section
variable {P:Program}{T:Tab}{ev:Q7h}
abbrev VR:=Nat->Env×Loop
def YOk (P:Program) (ys:Ys) (rs:VR) (n:Nat):Prop :=
 ∀ i c,ys.find i=some c->i<n/\FRel c.env (rs i).1/\Va P i (A5 (vwp (Q5 P) c.a (some i)) (vwp (Q5 P) c.b (some i)) c.ps (rs i).1 (rs i).2 i)
theorem YOk.mono {ys:Ys}{rs bu:VR}{n n':Nat}(h:YOk P ys rs n) (hn:n<=n') (hr:∀ i,i<n->bu i=rs i):YOk P ys bu n':=λi c hc=>by obtain⟨h1,h2,h3⟩:=h i c hc;rw[hr i h1];exact⟨by omega,h2,h3⟩
def Q7j {A:Type}(G:A->Prop) (rs:VR) (h:CH) (k:Value->CH->A) (K:Value->Heap->Prop):Prop :=
 ∀ v h' bu U',h.n<=h'.n->(∀ i,i<h.n->bu i=rs i)->CSim bu h' U'->G (k v h')->K v U'
def Q0d {A:Type}(G:A->Prop) (rs:VR) (h:CH) (m:Nat) (k:Exit->ET->CH->A) (Q:Exit->Env->Heap->Prop):Prop :=
 ∀ e dK h' bu U' af,h.n<=h'.n->(∀ i,i<h.n->bu i=rs i)->CSim bu h' U'->FRel dK af->List.length af=m->G (k e dK h')->Q e af U'
def Q0s {A:Type}(G:A->Prop) (rs:VR) (h:CH) (m:Nat) (k:ET->CH->A) (K:Env->Heap->Prop):Prop :=
 ∀ dK h' bu U' af,h.n<=h'.n->(∀ i,i<h.n->bu i=rs i)->CSim bu h' U'->FRel dK af->List.length af=m->G (k dK h')->K af U'
def Sd (P:Program) (ev:Q7h):Prop:=∀ {A:Type}(R:AnsOps A) (G:A->Prop),Good R G->∀ (ys:Ys) (c:VCode) (ro:Option Nat) (et:ET) (env:Env) (h:CH) (k:Exit->ET->CH->A) (rs:VR) (U:Heap) (Q:Exit->Env->Heap->Prop),
 YOk P ys rs h.n->CSim rs h U->FRel et env->G (ev R ys c ro et h k)->Q0d G rs h (List.length env) k Q->vwp (Q5 P) c ro Q env U
theorem Gy {rs:VR}{h:CH}{U:Heap}(hs:CSim rs h U) {et:ET}{env:Env}(hE:FRel et env) {r:VResult}{v:Value}(hr:P4 et h r=some v):JI env U r=some v:=by
 cases r with
 |tmp t=>simp only[P4] at hr;simp only[JI,hE.get];exact hr
 |cell a agg size =>
  simp only[P4] at hr;split at hr
  .rename_i p hp;rw[<-hE.get] at hp;obtain⟨_,U',h1,_⟩:=KB (o:=.load agg size (.tmp a)) (ev:=Q6 env) hs hp;simp only[JI,h1,x6];exact hr
  .cases hr
theorem MS {rs:VR}{h:CH}{U:Heap}(hs:CSim rs h U) {et:ET}{env:Env}(hE:FRel et env):∀ (l:List VResult) (vs:List Value),GD et h l=some vs->l.mapM (JI env U)=some vs
 |[],vs,hr=>by simp[GD] at hr;subst hr;rfl
 |r::l,vs,hr=>by
  simp only[GD] at hr;split at hr
  .cases hr
  .rename_i v hv;split at hr
   .cases hr
   .rename_i ws hw;obtain rfl:=osj hr;rw[xx,Gy hs hE hv];simp[MS hs hE l ws hw]
theorem MH {rs:VR}{h:CH}{U:Heap}(hs:CSim rs h U) {et:ET}{env:Env}(hE:FRel et env) {l:List VResult}{v:Value}(hr:Me et h l=some v):Jo env U l=some v:=by
 unfold Me at hr;split at hr
 .exact Gy hs hE hr
 .rename_i az;split at hr
  .rename_i vs cH;unfold Jo;split
   .rename_i r;exact absurd rfl (az r)
   .rw[MS hs hE _ _ cH];exact hr
  .cases hr
variable {A:Type}{R:AnsOps A}{G:A->Prop}
theorem M7 (hG:Good R G) {rl:List VResult}{k:Value->CH->A}{rs:VR}{h:CH}{U:Heap}{K:Value->Heap->Prop}{m:Nat}(hk:Q7j G rs h k K):Q0d G rs h m (Q55 R.fail rl k) (Z1r U rl K):=by
 intro e dK h' bu U' af hn hr a8 b6 _ hg;have fin:G (match Me dK h' rl with|some v=>k v h'|none=>R.fail)->Zf (Jo af U' rl) λv=>∃ v' aH,DropTo U v U' v' aH/\K v' aH:=by
  intro hg;split at hg
  .rename_i v hv;rw[MH a8 b6 hv];exact⟨v,U',.refl _ _ _,hk v h' bu U' hn hr a8 hg⟩
  .exact(hG.fail hg).elim
 cases e with
 |normal=>exact fin hg
 |ret=>exact fin hg
 |_=>exact(hG.fail hg).elim
def CH.toHeap (rs:VR) (h:CH):Heap:=⟨λi=>(h.get i).map (EB.to (rs i)),h.n,λi hi=>by rw[CH.q0u hi];rfl⟩
theorem Bh {rs:VR}{h:CH}(hr:h.n<=1000000001):CSim rs h (h.toHeap rs):=⟨rfl,hr,λ_=>rfl⟩
theorem CSim.eq {rs:VR}{h:CH}{U:Heap}(hs:CSim rs h U):U=h.toHeap rs:=Heap.ext' (λj=>hs.get j) hs.n.symm
def Fw (x:Value×CH) (a:Option (Value×CH)):Prop:=∃ y,a=some y/\y.1=x.1/\y.2.n=x.2.n/\∀ i,y.2.get i=x.2.get i
theorem AJ {h h':CH}(hs:h.same h'=true):h.n=h'.n/\∀ i,h.get i=h'.get i:=by
 simp only[CH.same,z8,zf,zz,Nat.beq_eq] at hs;refine⟨hs.1,λi=>?_⟩;rcases zn i h.n with hi|hi
 .have:=hs.2 i hi;split at this
  .rename_i h1 h2;rw[h1,h2]
  .rename_i a b h1 h2;rw[h1,h2,EB.beq_eq this]
  .cases this
 .rw[CH.q0u hi,CH.q0u (by rw[<-hs.1];exact hi)]
theorem RU (x:Value×CH):Good joinOps (Fw x):=by
 refine⟨λ⟨y,h,_⟩=>(by cases h),λa b h=>?_⟩;obtain⟨y,h1,h2,h3,h4⟩:=h;cases a with
 |none=>cases h1
 |some xa =>
  cases b with
  |none=>cases h1
  |some xb =>
   simp only[joinOps] at h1;split at h1
   .rename_i hc;obtain rfl:=osj h1;have e1:=Nv _ _ _ hc.1;obtain⟨e2,e3⟩:=AJ hc.2;exact⟨⟨xa,rfl,h2,h3,h4⟩,xb,rfl,by rw[<-e1];exact h2,by rw[<-e2];exact h3,λi=>by rw[<-e3 i];exact h4 i⟩
   .cases h1
theorem OH {b:EB}{q:Env×Loop}(h:b.plainE=true):(b.to q).plain=true/\∀ q',b.to q'=b.to q:=by cases b<;>first|exact⟨h,λ_=>rfl⟩|cases h
def gcP (n0:Nat) (refs:List Nat) (i:Nat):Nat:=if i<n0 then i else refs.getD (i-n0) 0
def RExt (n0:Nat) (a b:List Nat):Prop:=(∃ t,b=a++t/\∀ x∈t,n0<=x)/\(a.Nodup->b.Nodup)
theorem RExt.refl (n0:Nat) (a:List Nat):RExt n0 a a:=⟨⟨[],by simp,λx hx=>by cases hx⟩,id⟩
theorem RExt.trans {n0:Nat}{a b c:List Nat}(h:RExt n0 a b) (k:RExt n0 b c):RExt n0 a c:=by obtain⟨⟨t,rfl,ht⟩,h2⟩:=h;obtain⟨⟨u,rfl,hu⟩,k2⟩:=k;exact⟨⟨t++u,by simp,λx hx=>(zF.1 hx).elim (ht x) (hu x)⟩,λh=>k2 (h2 h)⟩
def Sub (a b:List Nat):Prop:=∃ t,b=a++t
theorem Sub.trans {a b c:List Nat}(h:Sub a b) (k:Sub b c):Sub a c:=by obtain⟨t,rfl⟩:=h;obtain⟨u,rfl⟩:=k;exact⟨t++u,by simp⟩
theorem RExt.sub {n0:Nat}{a b:List Nat}(h:RExt n0 a b):Sub a b:=by obtain⟨⟨t,h,_⟩,_⟩:=h;exact⟨t,h⟩
theorem H5 (n0:Nat) (refs:List Nat) (i:Nat):RExt n0 refs (gcI n0 refs i).2/\∀ (all:List Nat),Sub (gcI n0 refs i).2 all->(gcI n0 refs i).1<n0+all.length/\gcP n0 all (gcI n0 refs i).1=i:=by
 unfold gcI;split
 .rename_i hi;exact⟨RExt.refl _ _,λall _=>⟨by simp only;omega,by simp[gcP,hi]⟩⟩
 .rename_i hi;split
  .rename_i hc;have hm:i∈refs:=by simpa using hc
   have ah:=List.idxOf_lt_length_of_mem hm;refine⟨RExt.refl _ _,λall ⟨t,ht⟩=>?_⟩;simp only at ht;have b8:refs.idxOf i<all.length:=by rw[ht,zJ];omega
   refine⟨by simp only;omega,?_⟩;simp only[gcP,z1 (show ¬ n0+refs.idxOf i<n0 by omega),show n0+refs.idxOf i-n0=refs.idxOf i by omega,zd];rw[ht,xg ah,z6 ah];simp
  .rename_i hc;have hm:i∉refs:=by simpa using hc
   refine⟨⟨⟨[i],rfl,λx hx=>by simp at hx;omega⟩,λh1=>List.nodup_append.2 ⟨h1,by simp,λa ha b hb=>by simp at hb;subst hb;rintro rfl;exact hm ha⟩⟩,λall ⟨t,ht⟩=>?_⟩;simp only at ht;have ah:refs.length<all.length:=by rw[ht];simp
   refine⟨by simp only;omega,?_⟩;simp only[gcP,z1 (show ¬ n0+refs.length<n0 by omega),show n0+refs.length-n0=refs.length by omega];simp[ht,zd]
def Q90 (n0:Nat) (refs fH:List Nat) (v' v:Value):Prop:=RExt n0 refs fH/\∀ (all:List Nat),Sub fH all->Ren (n0+all.length) (gcP n0 all) v' v
def Z4e (n0:Nat) (refs fH:List Nat) (v' v:List Value):Prop:=RExt n0 refs fH/\∀ (all:List Nat),Sub fH all->LRen (n0+all.length) (gcP n0 all) v' v
theorem Yq {n0:Nat}{g:List Nat->Value->Option (Value×List Nat)}(hg:∀ refs v p,g refs v=some p->Q90 n0 refs p.2 p.1 v):∀ (vs:List Value) (refs:List Nat) (p:List Value×List Nat),Q06 g vs refs=some p->Z4e n0 refs p.2 p.1 vs
 |[],refs,p,h=>by obtain rfl:=osj h;exact⟨RExt.refl _ _,λall _=>⟨rfl,λi a b ha=>by simp at ha⟩⟩
 |v::vs,refs,p,h=>by
  simp only[Q06] at h;split at h
  .cases h
  .rename_i p1 h1;split at h
   .cases h
   .rename_i p2 h2;obtain rfl:=osj h;obtain⟨a1,a2⟩:=hg _ _ _ h1;obtain⟨b1,b2⟩:=Yq hg vs _ _ h2;refine⟨a1.trans b1,λall ae=>?_⟩;have c1:=a2 all (b1.sub.trans ae);have c2:=b2 all ae;refine⟨by simp[c2.1],λi a b ha hb=>?_⟩;cases i with
    |zero=>simp at ha hb;subst ha;subst hb;exact c1
    |succ i=>exact c2.2 i a b (by simpa using ha) (by simpa using hb)
theorem LRen.agg {n:Nat}{π:Nat->Nat}{vs':List Value}{cs:Array Value}(h:LRen n π vs' cs.toList):Ren n π (.agg vs'.toArray) (.agg cs) :=
 .agg _ _ (by simpa using h.1) λi h1 h2=>h.2 i _ _ (by simp) (by simp)
theorem LRen.tuple {n:Nat}{π:Nat->Nat}{vs':List Value}{cs:Array Value}(h:LRen n π vs' cs.toList):Ren n π (.tuple vs'.toArray) (.tuple cs) :=
 .tuple _ _ (by simpa using h.1) λi h1 h2=>h.2 i _ _ (by simp) (by simp)
theorem DA (n0:Nat):∀ (f:Nat) (refs:List Nat) (v:Value) (p:Value×List Nat),gcX n0 f refs v=some p->Q90 n0 refs p.2 p.1 v:=by
 intro f;induction f with
 |zero=>intro refs v p h;cases h
 |succ f ih =>
  intro refs v p h;unfold gcX at h;split at h
  .rename_i i o;obtain rfl:=osj h;obtain⟨h1,h2⟩:=H5 n0 refs i;refine⟨h1,λall ae=>?_⟩;obtain⟨k1,k2⟩:=h2 all ae;have:=Ren.ptr (n:=n0+all.length) (π:=gcP n0 all) (gcI n0 refs i).1 o k1
   rwa [k2] at this
  .rename_i i o l c;obtain rfl:=osj h;obtain⟨h1,h2⟩:=H5 n0 refs i;refine⟨h1,λall ae=>?_⟩;obtain⟨k1,k2⟩:=h2 all ae;have:=Ren.sl (n:=n0+all.length) (π:=gcP n0 all) (gcI n0 refs i).1 o l c k1
   rwa [k2] at this
  .rename_i i o l c;obtain rfl:=osj h;obtain⟨h1,h2⟩:=H5 n0 refs i;refine⟨h1,λall ae=>?_⟩;obtain⟨k1,k2⟩:=h2 all ae;have:=Ren.slx (n:=n0+all.length) (π:=gcP n0 all) (gcI n0 refs i).1 o l c k1
   rwa [k2] at this
  .rename_i i;obtain rfl:=osj h;obtain⟨h1,h2⟩:=H5 n0 refs i;refine⟨h1,λall ae=>?_⟩;obtain⟨k1,k2⟩:=h2 all ae;have:=Ren.map (n:=n0+all.length) (π:=gcP n0 all) (gcI n0 refs i).1 k1
   rwa [k2] at this
  .obtain rfl:=osj h;exact⟨RExt.refl _ _,λall _=>.poison _⟩
  .split at h
   .rename_i q hq;obtain rfl:=osj h;obtain⟨h1,h2⟩:=ih _ _ _ hq;exact⟨h1,λall ae=>.iface _ _ _ (h2 all ae)⟩
   .cases h
  .split at h
   .rename_i q hq;obtain rfl:=osj h;obtain⟨h1,h2⟩:=Yq ih _ _ _ hq;exact⟨h1,λall ae=>(h2 all ae).agg⟩
   .cases h
  .split at h
   .rename_i q hq;obtain rfl:=osj h;obtain⟨h1,h2⟩:=Yq ih _ _ _ hq;exact⟨h1,λall ae=>(h2 all ae).tuple⟩
   .cases h
  .split at h
   .rename_i q hq;split at h
    .rename_i q2 qC;obtain rfl:=osj h;obtain⟨h1,h2⟩:=Yq ih _ _ _ hq;obtain⟨h3,h4⟩:=Yq ih _ _ _ qC;refine⟨h1.trans h3,λall ae=>?_⟩;have c1:=h2 all (h3.sub.trans ae);have c2:=h4 all ae;exact .func _ _ _ _ _ (by simpa using c1.1) (by simpa using c2.1) (λi h1 h2=>c1.2 i _ _ (by simp) (by simp)) (λi h1 h2=>c2.2 i _ _ (by simp) (by simp))
    .cases h
   .cases h
  .rename_i i;split at h
   .rename_i hi;obtain rfl:=osj h;refine⟨RExt.refl _ _,λall _=>?_⟩;have:=Ren.yield (n:=n0+all.length) (π:=gcP n0 all) i (by omega)
    rwa [show gcP n0 all i=i by simp[gcP,hi]] at this
   .cases h
  .split at h
   .rename_i hp;obtain rfl:=osj h;exact⟨RExt.refl _ _,λall _=>.plain _ hp⟩
   .cases h
theorem L9 (n0:Nat):∀ (es:List JD) (refs:List Nat) (p:List JD×List Nat),Z1j n0 es refs=some p->RExt n0 refs p.2/\∀ (all:List Nat),Sub p.2 all ->
  p.1.length=es.length/\∀ (k:Nat) (a b:JD),p.1[k]?=some a->es[k]?=some b->a.1=b.1/\a.2.2=b.2.2/\Ren (n0+all.length) (gcP n0 all) a.2.1 b.2.1
 |[],refs,p,h=>by obtain rfl:=osj h;exact⟨RExt.refl _ _,λall _=>⟨rfl,λi a b ha=>by simp at ha⟩⟩
 |e::es,refs,p,h=>by
  simp only[Z1j] at h;split at h
  .cases h
  .rename_i p1 h1;split at h
   .cases h
   .rename_i p2 h2;obtain rfl:=osj h;obtain⟨a1,a2⟩:=DA n0 _ _ _ _ h1;obtain⟨b1,b2⟩:=L9 n0 es _ _ h2;refine⟨a1.trans b1,λall ae=>?_⟩;have c1:=a2 all (b1.sub.trans ae);obtain⟨c2,c3⟩:=b2 all ae;refine⟨by simp[c2],λi a b ha hb=>?_⟩;cases i with
    |zero=>simp at ha hb;subst ha;subst hb;exact⟨rfl,rfl,c1⟩
    |succ i=>exact c3 i a b (by simpa using ha) (by simpa using hb)
theorem Q0x {n0:Nat}{refs:List Nat}{b:EB}{p:EB×List Nat}(h:gcB n0 refs b=some p):RExt n0 refs p.2/\∀ (all:List Nat),Sub p.2 all->∀ q q',BRen (n0+all.length) (gcP n0 all) (p.1.to q') (b.to q):=by
 unfold gcB at h;split at h
 .split at h
  .rename_i q hq;obtain rfl:=osj h;obtain⟨h1,h2⟩:=Yq (DA n0 8) _ _ _ hq;exact⟨h1,λall ae _ _=>⟨rfl,rfl,rfl,h2 all ae⟩⟩
  .cases h
 .split at h
  .rename_i q hq;obtain rfl:=osj h;obtain⟨h1,h2⟩:=L9 n0 _ _ _ hq;exact⟨h1,λall ae _ _=>⟨rfl,rfl,(h2 all ae).1,(h2 all ae).2⟩⟩
  .cases h
 .cases h
theorem EI {h':CH}{n0:Nat}:∀ (f k:Nat) (refs:List Nat) (acc:CH) (r:CH×List Nat),Q28 h' n0 f k refs acc=some r->acc.n=n0+k->acc.n<=1000000001 ->
  RExt n0 refs r.2/\r.1.n=n0+r.2.length/\r.1.n<=1000000001/\(∀ i,i<acc.n->r.1.get i=acc.get i) /\
  ∀ j,k<=j->j<r.2.length->∃ b b',h'.get (r.2.getD j 0)=some b/\r.1.get (n0+j)=some b'/\∀ q q',BRen (n0+r.2.length) (gcP n0 r.2) (b'.to q') (b.to q):=by
 intro f;induction f with
 |zero=>intro k refs acc r h;cases h
 |succ f ih =>
  intro k refs acc r h hn hs;simp only[Q28] at h;split at h
  .split at h
   .rename_i hk;obtain rfl:=osj h;exact⟨RExt.refl _ _,by rw[hn,hk],hs,λ_ _=>rfl,λj h1 h2=>by simp only at h2;omega⟩
   .cases h
  .rename_i hk;split at h
   .cases h
   .rename_i b hb;split at h
    .cases h
    .rename_i p hp;split at h
     .rename_i aZ;have aZ:acc.n<=1000000000:=zM aZ;obtain⟨a1,a2⟩:=Q0x hp;have jx:(acc.push p.1).n=acc.n+1:=rfl;obtain⟨b1,b2,b3,b4,b5⟩:=ih (k+1) p.2 (acc.push p.1) r h (by rw[jx];omega) (by rw[jx];omega);refine⟨a1.trans b1,b2,b3,λi hi=>?_,λj oc dN=>?_⟩
      .rw[b4 i (by rw[jx];omega),CH.q1r hs,z1 (by omega)]
      .by_cases cW:j=k
       .subst cW;have bh:j<refs.length:=by omega
        obtain⟨t,ht⟩:=(a1.trans b1).sub;have hg:r.2.getD j 0=refs.getD j 0:=by rw[ht,zd,zd,xg bh]
        refine⟨b,p.1,by rw[hg];exact hb,?_,a2 r.2 b1.sub⟩;rw[<-hn,b4 _ (by rw[jx];omega),CH.q1r hs,z7 rfl]
       .exact b5 j (by omega) dN
     .cases h
theorem BF {rs bu:VR}{h h':CH}{U U':Heap}(hs:CSim rs h U) (a8:CSim bu h' U') (hr:∀ i,i<h.n->bu i=rs i) {v:Value}{y x:Value×CH}(hg:L1 h h' v=some y) (h1:y.1=x.1) (h2:y.2.n=x.2.n) (h3:∀ i,y.2.get i=x.2.get i) :
  DropTo U v U' x.1 (x.2.toHeap rs):=by
 unfold L1 at hg;split at hg
 .cases hg
 .rename_i p hp;split at hg
  .cases hg
  .rename_i q hq;obtain rfl:=osj hg;simp only at h1 h2 h3;obtain⟨f1,f2⟩:=DA h.n 8 [] v p hp;unfold Q2y at hq;split at hq
   .rename_i ek;simp only[CH.keepOk,z8,zf,zz] at ek;obtain⟨hle,ek⟩:=ek;have hle:h.n<=h'.n:=zM hle;have mS:=hs.sm;obtain⟨g0,g1,g2,g3,g4⟩:=EI _ 0 p.2 ⟨h'.t,h.n⟩ q hq rfl mS;have ae:=f1.trans g0;have fv:q.2.Nodup:=ae.2 List.nodup_nil;have bG:∀ x∈q.2,h.n<=x:=by
     obtain⟨⟨t,ht,hx⟩,_⟩:=ae;simpa [ht] using hx
    have hold:∀ i,i<h.n->q.1.get i=h'.get i:=λi hi=>by rw[g3 i hi,CH.q0v (h:=⟨h'.t,h.n⟩) hi,CH.q0v (by omega)]
    have jQ:(x.2.toHeap rs).n=h.n+q.2.length:=by show x.2.n=_;rw[<-h2,g1]
    have rZ:∀ i,(x.2.toHeap rs).get i=(q.1.get i).map (EB.to (rs i)):=λi=>by show (x.2.get i).map _=_;rw[<-h3 i]
    rw[<-h1];refine DropTo.rename (gcP h.n q.2) (by rw[jQ,<-hs.n];omega) (λi hi=>?_) (λi kP iK=>?_) (λi j kP iK oc dN he=>?_) (by rw[jQ];exact f2 q.2 g0.sub)
    .rw[<-hs.n] at hi;refine⟨by simp[gcP,hi],by rw[rZ,hold i hi,a8.get,hr i hi],?_⟩;have:=ek i hi;rw[a8.get,hs.get];split at this
     .rename_i e1 e2;rw[e1,e2];exact .inl rfl
     .rename_i a b e1 e2;rw[e1,e2];rw[zy] at this;rcases this with hb|hb
      .exact .inr ⟨_,rfl,(OH hb).1⟩
      .rw[EB.beq_eq hb,hr i hi];exact .inl rfl
     .cases this
    .rw[<-hs.n] at kP;rw[jQ] at iK;obtain⟨b,b',e1,e2,e3⟩:=g4 (i-h.n) (by omega) (by omega);have jy:gcP h.n q.2 i=q.2.getD (i-h.n) 0:=by simp[gcP,wB.2 kP]
     have aP:q.2.getD (i-h.n) 0∈q.2:=by
      have:i-h.n<q.2.length:=by omega
      simp[zd,this]
     rw[show h.n+(i-h.n)=i by omega] at e2;rw[jy];refine⟨by rw[<-hs.n];exact bG _ aP,b'.to (rs i),b.to (bu (q.2.getD (i-h.n) 0)),by rw[rZ,e2];rfl,by rw[a8.get,e1];rfl,by rw[jQ];exact e3 _ _⟩
    .rw[<-hs.n] at kP oc;rw[jQ] at iK dN;simp only[gcP,wB.2 kP,wB.2 oc,if_false] at he;have jz:i-h.n<q.2.length:=by omega
     have mR:j-h.n<q.2.length:=by omega
     simp only[zd,z6 jz,z6 mR,Option.getD_some] at he;have:=(List.getElem_inj (h₀:=jz) (h₁:=mR) fv).1 he;omega
   .cases hq
theorem PM {a m d:Nat}{g:Value->Option Value}(hg:∀ v u,g v=some u->Sh a m d v u):∀ (vs us:List Value),Z12 g vs=some us->vs.length=us.length/\∀ (i:Nat) (v u:Value),vs[i]?=some v->us[i]?=some u->Sh a m d v u
 |[],us,h=>by obtain rfl:=osj h;exact⟨rfl,λi v u h=>by simp at h⟩
 |v::vs,us,h=>by
  simp only[Z12] at h;split at h
  .cases h
  .rename_i u hu;split at h
   .cases h
   .rename_i jA dO;obtain rfl:=osj h;obtain⟨h1,h2⟩:=PM hg vs jA dO;refine⟨by simp[h1],λi v' u' gK cD=>?_⟩;cases i with
    |zero=>simp at gK cD;subst gK;subst cD;exact hg _ _ hu
    |succ i=>exact h2 i v' u' (by simpa using gK) (by simpa using cD)
theorem Q1i (a m d:Nat):∀ (f:Nat) (v u:Value),shX a m d f v=some u->Sh a m d v u:=by
 intro f;induction f with
 |zero=>intro v u h;cases h
 |succ f ih =>
  intro v u h;unfold shX at h;split at h
  .split at h
   .rename_i hc;obtain rfl:=osj h;exact .ptr _ _ hc.1 hc.2
   .cases h
  .split at h
   .rename_i hc;obtain rfl:=osj h;exact .sl _ _ _ _ hc.1 hc.2
   .cases h
  .split at h
   .rename_i p hp;obtain rfl:=osj h;obtain⟨h1,h2⟩:=PM ih _ _ hp;exact .agg _ _ (by simpa using h1) λi k1 k2=>h2 i _ _ (by simp) (by simp)
   .cases h
  .split at h
   .rename_i p hp;obtain rfl:=osj h;obtain⟨h1,h2⟩:=PM ih _ _ hp;exact .tuple _ _ (by simpa using h1) λi k1 k2=>h2 i _ _ (by simp) (by simp)
   .cases h
  .split at h
   .rename_i hc;obtain rfl:=osj h;exact .plain _ hc
   .cases h
theorem PJ {rs:VR}{h:CH}{U:Heap}(hs:CSim rs h U):∀ (m:List PB) (k:Nat) (refs r:List Nat),TZ h k refs m=some r ->
  Sub refs r/\r.length=k+m.length/\∀ i b,m[i]?=some b->∃ wr c',U.get (r.getD (k+i) 0)=some (.cells c' b.esz wr b.tight)/\LRen r.length (gcP 0 r) b.c c'
 |[],k,refs,r,hb=>by
  simp only[TZ] at hb;split at hb
  .rename_i hl;obtain rfl:=osj hb;exact⟨⟨[],by simp⟩,by simp[hl],λi b h=>by simp at h⟩
  .cases hb
 |b::m,k,refs,r,hb=>by
  simp only[TZ] at hb;split at hb
  .rename_i hk;split at hb
   .rename_i c e w t hg;split at hb
    .rename_i p hp;split at hb
     .rename_i hc;simp only[z8,zC,z_] at hc;obtain⟨rfl,rfl,h3⟩:=hc;have h3:=Ur (Nv 20) _ _ h3;obtain⟨s1,s2⟩:=Yq (DA 0 8) _ _ _ hp;obtain⟨i1,i2,i3⟩:=PJ hs m (k+1) p.2 r hb;have eY:=s1.sub.trans i1;refine⟨eY,by rw[i2,zS];omega,λi b' cy=>?_⟩;cases i with
      |zero =>
       have cy:b=b':=by simpa using cy
       subst cy;obtain⟨u,hu⟩:=eY;have eo:r.getD (k+0) 0=refs.getD k 0:=by rw[hu,zU,zd,zd,xg hk]
       have hl:=s2 r i1;rw[h3,xl] at hl;exact⟨w,c,by rw[eo];exact hs.cells hg,hl⟩
      |succ i =>
       have:=i3 i b' (by simpa using cy)
       rwa [show k+1+i=k+(i+1) by omega] at this
     .cases hb
    .cases hb
   .cases hb
  .cases hb
theorem Ns {rs:VR}:∀ (fr:List PB) {h:CH}{U:Heap},CSim rs h U->h.n+fr.length<=1000000000->CSim rs (Xm fr h) (XW U fr)/\(Xm fr h).n=h.n+fr.length
 |[],h,U,hs,_=>by
  have:XW U []=U:=Heap.ext' (λj=>by
   show (if j<U.n then U.get j else _)=_;split
   .rfl
   .rename_i hj;rw[U.wf j (by omega)];simp) rfl
  rw[this];exact⟨hs,rfl⟩
 |b::l,h,U,hs,hr=>by
  have hr:h.n+(l.length+1)<=1000000000:=hr;have hn:=hs.n;have h1:CSim rs (h.push (.cells b.c b.esz true b.tight)) (U.push (b.blk true)):=hs.push (Nat.ble_eq_true_of_le (by omega)) rfl;obtain⟨h2,h3⟩:=Ns l h1 (by show h.n+1+_<=_;omega);refine⟨?_,by rw[show Xm (b::l) h=Xm l (h.push (.cells b.c b.esz true b.tight)) from rfl,h3];show h.n+1+l.length=h.n+(l.length+1);omega⟩;have:XW U (b::l)=XW (U.push (b.blk true)) l:=Heap.ext' (λj=>by
   show (if j<U.n then U.get j else _)=(if j<U.n+1 then (U.push (b.blk true)).get j else _);rcases Nat.lt_trichotomy j U.n with hj|hj|hj
   .rw[z7 hj,z7 (by omega),Heap.q0i _ _ hj]
   .subst hj;rw[z1 (by omega),z7 (by omega),Heap.q0a];simp
   .rw[z1 (by omega),z1 (by omega)];rw[show j-U.n=(j-(U.push (b.blk true)).n)+1 by simp;omega];rfl) (by simp[XW];omega)
  rw[this];exact h2
theorem Hv {h:CH}{args:List Value}{refs:List Nat}:∀ (ms:List Memo) (m:Memo),Ah h args refs ms=some m->m∈ms/\args=m.args/\(TZ h 0 refs m.bl).isSome=true
 |[],m,h=>by cases h
 |m0::ms,m,h=>by
  simp only[Ah] at h;split at h
  .rename_i hc;obtain rfl:=osj h;rw[z8] at hc;exact⟨zl,Ur (Nv 20) _ _ hc.1,hc.2⟩
  .obtain⟨h1,h2⟩:=Hv ms m h;exact⟨zi _ h1,h2⟩
theorem Tc {f:FuncId}{args:List Value}{ms:List Memo}(hm:∀ m∈ms,Ny P f m) {rs:VR}{h:CH}{U:Heap}(hs:CSim rs h U) {p:Value×CH}(hp:Ry h args ms=some p)
  {K:Value->Heap->Prop}(hK:∀ U',h.n<=p.2.n->CSim rs p.2 U'->K p.1 U'):VCalled P f args U K:=by
 unfold Ry at hp;split at hp
 .cases hp
 .rename_i q hq;split at hp
  .cases hp
  .rename_i m lA;obtain⟨h1,h2,h3⟩:=Hv ms m lA;obtain⟨k1,k3⟩:=hm m h1;obtain⟨r,jq⟩:=Option.isSome_iff_exists.1 h3;obtain⟨l0,l1,l2⟩:=PJ hs _ _ _ _ jq;rw[xl] at l1;split at hp
   .cases hp
   .rename_i hr;have hr:=zM hr;split at hp
    .rename_i v hv;obtain rfl:=osj hp;obtain⟨s1,s2⟩:=Ns m.fr hs hr;have hx:=(Yq (DA 0 8) _ _ _ hq).2 r l0;rw[h2,l1] at hx;refine VCalled.localize (π:=gcP 0 r) k1 k3 (λi b hb=>?_) (by simpa using hx) ?_ (hK _ (by rw[s2];omega) s1)
     .obtain⟨wr,c',g1,g2⟩:=l2 i b hb;rw[l1] at g2;exact⟨wr,c',by simpa [gcP] using g1,g2⟩
     .have:=Q1i _ _ _ _ _ _ hv
      rwa [hs.n] at this
    .cases hp
theorem Gn (hm:P.follows .mixedOrders=true) (hT:TabOk P T) (cS:Sd P ev) (hG:Good R G) {ys:Ys}{f:FuncId}{args:List Value}{h:CH}{k:Value->CH->A}{rs:VR}{U:Heap}{K:Value->Heap->Prop}
  (hY:YOk P ys rs h.n) (hs:CSim rs h U) (he:G (Bf T ev R ys f args h k)) (hk:Q7j G rs h k K):VCalled P f args U K:=by
 unfold Bf at he;split at he
 .rename_i vc rl nt hf;have hF:=hT.code f vc rl nt hf;split at he
  .rename_i hb;exact hF.calls hm HU (cS R G hG ys vc none _ _ h _ rs U _ hY hs (ET.q1p (zM hb)) he (M7 hG hk))
  .exact(hG.fail he).elim
 .rename_i vc rl nt hf;have hF:=hT.codeJ f vc rl nt hf;split at he
  .rename_i hb;split at he
   .rename_i x hx;split at he
    .rename_i hc;have aZ:x.2.n<=1000000000:=zM hc.1;have hK:=hk x.1 x.2 rs _ (zM hc.2) (λ_ _=>rfl) (Bh (by omega)) he;refine hF.calls hm HU (cS joinOps (Fw x) (RU x) ys vc none _ _ h _ rs U _ hY hs (ET.q1p (zM hb)) (show Fw x _ from ⟨x,hx,rfl,rfl,λ_=>rfl⟩) ?_);intro e dK h' bu U' af hn hr a8 b6 _ hg;have fin:Fw x (match Me dK h' rl with|some v=>L1 h h' v|none=>none)->Zf (Jo af U' rl) λv=>∃ v' aH,DropTo U v U' v' aH/\K v' aH:=by
      rintro⟨y,hy,h1,h2,h3⟩;split at hy
      .rename_i v hv;rw[MH a8 b6 hv];exact⟨_,_,BF hs a8 hr hy h1 h2 h3,hK⟩
      .cases hy
     cases e with
     |normal=>exact fin hg
     |ret=>exact fin hg
     |_=>obtain⟨y,hy,_⟩:=hg;cases hy
    .exact(hG.fail he).elim
   .exact(hG.fail he).elim
  .exact(hG.fail he).elim
 .rename_i vc rl nt ms hf;obtain⟨hF,hM⟩:=hT.codeM f vc rl nt ms hf;split at he
  .rename_i p hp;exact Tc hM hs hp λU' hn a8=>hk _ _ rs U' hn (λ_ _=>rfl) a8 he
  .split at he
   .rename_i hb;exact hF.calls hm HU (cS R G hG ys vc none _ _ h _ rs U _ hY hs (ET.q1p (zM hb)) he (M7 hG hk))
   .exact(hG.fail he).elim
 .rename_i hf;split at he
  .rename_i v;exact hT.same f hf v U K (hk v h rs U (ze _) (λ_ _=>rfl) hs he)
  .exact(hG.fail he).elim
 .exact(hG.fail he).elim
theorem RR (hm:P.follows .mixedOrders=true) (cS:Sd P ev) (hG:Good R G) {ys:Ys}{f:FuncId}{vc:VCode}{rl:List VResult}{nt:Nat}(hf:T f=some (.code vc rl nt)) (hF:Fun P f vc rl nt) {args:List Value}{h:CH}{k:Value->CH->A}{rs:VR}{U:Heap}{K:Value->Heap->Prop}
  (hY:YOk P ys rs h.n) (hs:CSim rs h U) (he:G (Bf T ev R ys f args h k)) (hk:Q7j G rs h k K):VCallsTo P f args U K:=by
 unfold Bf at he;rw[hf] at he;simp only at he;split at he
 .rename_i hb;exact hF.callsTo hm HU (cS R G hG ys vc none _ _ h _ rs U _ hY hs (ET.q1p (zM hb)) he (M7 hG hk))
 .exact(hG.fail he).elim
theorem L7 (cS:Sd P ev) (hG:Good R G) {ys:Ys}{i:Nat}{args:List Value}{h:CH}{k:Value->CH->A}{rs:VR}{U:Heap}{K:Value->Heap->Prop}
  (hY:YOk P ys rs h.n) (hs:CSim rs h U) (he:G (OX ev R ys i args h k)) (hk:Q7j G rs h k K):HT P i args U K:=by
 unfold OX at he;split at he
 .rename_i c hc;obtain⟨aP,lK,ai⟩:=hY i c hc;split at he
  .rename_i hg;split at he
   .rename_i hlen;refine ai args U K ⟨hs.lp hg,hlen,?_⟩;refine cS R G hG ys c.a (some i) _ _ h _ rs U _ hY hs (TM c.ps args lK) he ?_;intro e kQ h1 fI σ1 bC gN fU jW fm _ ie;cases e with
    |normal =>
     simp only[Q2z] at ie;split at ie
     .rename_i iz;have e1:fI i=rs i:=fU i aP;have od:=jW.lp iz;rw[e1] at od;refine⟨od,?_⟩;have kP:=jW.lt iz;refine cS R G hG ys c.b (some i) kQ bC _ _ fI _ _ (hY.mono (n':=(h1.upd i (.lp .busy none)).n) gN fU) (jW.upd kP (b:=.lp .busy none) (by rw[EB.to,e1])) fm ie ?_;intro e2 fX h2 eF σ2 aT ef dY dm fY _ dj;have lU:h1.n<=h2.n:=ef;have kR:eF i=rs i:=(dY i kP).trans e1;unfold I3 at dj;split at dj
      .rename_i oe;have iK:=dm.lt oe;have og:=dm.lp oe;rw[kR] at og;refine⟨og,?_⟩;have agree:∀ j,j<h.n->eF j=rs j:=λj hj=>(dY j (xj hj gN)).trans (fU j hj);cases e2 with
       |normal=>exact hk _ (h2.upd i (.lp .ready none)) eF _ (x4 gN lU) agree (dm.upd iK (b:=.lp .ready none) (by simp only[EB.to,kR])) dj
       |ret=>exact hk _ (h2.upd i (.lp .done (some .ret))) eF _ (x4 gN lU) agree (dm.upd iK (b:=.lp .done (some .ret)) (by simp only[EB.to,kR])) dj
       |exit id=>exact hk _ (h2.upd i (.lp .done (some (.exit id)))) eF _ (x4 gN lU) agree (dm.upd iK (b:=.lp .done (some (.exit id))) (by simp only[EB.to,kR])) dj
       |_=>exact(hG.fail dj).elim
      .exact(hG.fail dj).elim
     .exact(hG.fail ie).elim
    |_=>exact(hG.fail ie).elim
   .exact(hG.fail he).elim
  .exact(hG.fail he).elim
 .exact(hG.fail he).elim
theorem By (hG:Good R G) {i m since clock:Nat}{seen:List Nat}{h:CH}{k:Value->CH->A}:∀ (es:List JD),
  (∀ e∈es,seen.contains e.2.2=true)/\MV R i m since clock seen h k es=none \/
  ∃ a,MV R i m since clock seen h k es=some a/\(G a->∀ e∈es,seen.contains e.2.2=false->G (k (.tuple #[.bool true,e.1,e.2.1]) (h.upd i (.iter m since (seen++[e.2.2]) clock))))
 |[]=>.inl ⟨λ_ h=>(by cases h),rfl⟩
 |e::es=>by
  have ih:=By hG (i:=i) (m:=m) (since:=since) (clock:=clock) (seen:=seen) (h:=h) (k:=k) es;by_cases hc:seen.contains e.2.2=true
  .have he:MV R i m since clock seen h k (e::es)=MV R i m since clock seen h k es:=by rw[MV,z7 hc]
   rw[he];rcases ih with⟨h1,h2⟩|⟨a,h1,h2⟩
   .exact .inl ⟨λx hx=>by rcases zk.1 hx with rfl|hx;exact hc;exact h1 x hx,h2⟩
   .refine .inr ⟨a,h1,λlW x hx bE=>?_⟩;rcases zk.1 hx with rfl|hx
    .rw[hc] at bE;cases bE
    .exact h2 lW x hx bE
  .rcases ih with⟨h1,h2⟩|⟨a,h1,h2⟩
   .refine .inr ⟨k (.tuple #[.bool true,e.1,e.2.1]) (h.upd i (.iter m since (seen++[e.2.2]) clock)),by rw[MV,z1 hc,h2],λlW x hx bE=>?_⟩;rcases zk.1 hx with rfl|hx
    .exact lW
    .rw[h1 x hx] at bE;cases bE
   .refine .inr ⟨R.both (k (.tuple #[.bool true,e.1,e.2.1]) (h.upd i (.iter m since (seen++[e.2.2]) clock))) a,by rw[MV,z1 hc,h1],λlW x hx bE=>?_⟩;obtain⟨g1,g2⟩:=hG.both _ _ lW;rcases zk.1 hx with rfl|hx
    .exact g1
    .exact h2 g2 x hx bE
theorem CA (hG:Good R G) {x:Value}{h:CH}{k:Value->CH->A}{rs:VR}{U:Heap}{K:Value->Heap->Prop}(hs:CSim rs h U) (he:G (Q6k R x h k)) (hk:Q7j G rs h k K):Cs x U K:=by
 unfold Q6k at he;unfold Cs;split at he
 .rename_i i;split at he
  .rename_i m since seen last hg;have hi:=hs.lt hg;simp only[hs.iter hg];split at he
   .rename_i es clock wr fF;obtain⟨k1,_⟩:=hs.mapAt fF;simp only[k1];split at he
    .rename_i hc;refine⟨hc.1,hc.2,?_⟩;rcases By hG (i:=i) (m:=m) (since:=since) (clock:=clock) (seen:=seen) (h:=h) (k:=k) es with⟨h1,h2⟩|⟨a,h1,h2⟩
     .rw[h2] at he;simp only at he;split at he
      .exact⟨λ_=>hk _ _ rs U (ze _) (λ_ _=>rfl) hs he,λe gx lX=>by rw[h1 e gx] at lX;cases lX⟩
      .exact(hG.fail he).elim
     .rw[h1] at he;simp only at he;have key:G a->∀ e∈es,seen.contains e.2.2=false->K (.tuple #[.bool true,e.1,e.2.1]) (U.upd i (.obj (.iter m since (seen++[e.2.2]) clock) true)):=λlW e gx lX =>
       hk _ (h.upd i (.iter m since (seen++[e.2.2]) clock)) rs _ (ze _) (λ_ _=>rfl) (hs.upd hi rfl) (h2 lW e gx lX)
      split at he
      .obtain⟨g1,g2⟩:=hG.both _ _ he;exact⟨λ_=>hk _ _ rs U (ze _) (λ_ _=>rfl) hs g1,key g2⟩
      .rename_i hn;exact⟨λhh=>absurd hh hn,key he⟩
    .exact(hG.fail he).elim
   .exact(hG.fail he).elim
  .exact(hG.fail he).elim
 .exact(hG.fail he).elim
theorem R6 (hm:P.follows .mixedOrders=true) (hT:TabOk P T) (cS:Sd P ev) (hG:Good R G) {ys:Ys}{o:VOp}{et:ET}{env:Env}(hE:FRel et env) {h:CH}{k:Value->CH->A}{rs:VR}{U:Heap}{K:Value->Heap->Prop}
  (hY:YOk P ys rs h.n) (hs:CSim rs h U) (he:G (Q69 T ev R ys o et h k)) (hk:Q7j G rs h k K):vop (Q5 P) o env U K:=by
 have ak:=H7 hE;have other:∀ o':VOp,G (OE R (CG o' (Gu et) h) k)->Zf (Qb o' (Q6 env) U) λp=>K p.1 p.2:=by
  intro o' hg;rw[ak] at hg;unfold OE at hg;split at hg
  .rename_i p hp;obtain⟨h1,U',h2,h3⟩:=KB hs hp;rw[h2];exact hk _ _ rs U' h1 (λ_ _=>rfl) h3 hg
  .exact(hG.fail hg).elim
 cases o
 case callF f args =>
  simp only[Q69,ak] at he;exact Gn hm hT cS hG hY hs he hk
 case callV f args =>
  simp only[Q69,ak] at he;simp only[vop];unfold Q4n at he;split at he
  .rename_i g first cap hg
   simp only[hg];exact Gn hm hT cS hG hY hs he hk
  .rename_i i first cap hg
   simp only[hg];exact L7 cS hG hY hs he hk
  .exact(hG.fail he).elim
 case ext x =>
  cases x
  case nextMap x =>
   simp only[Q69,ak] at he;exact CA hG hs he hk
  case delete a b c=>exact other (.ext (.delete a b c)) he
  case mapEntry a z b c=>exact other (.ext (.mapEntry a z b c)) he
  case entryStore a b c=>exact other (.ext (.entryStore a b c)) he
  all_goals exact other _ he
 case move a=>exact other (.move a) he
 case makeFunc a b c=>exact other (.makeFunc a b c) he
 case bad=>exact other .bad he
 all_goals exact other _ he
theorem Hr (hm:P.follows .mixedOrders=true) (hT:TabOk P T) (cS:Sd P ev) (hG:Good R G) {ys:Ys}{k:ET->CH->A}{K:Env->Heap->Prop}:∀ (ops:List VOper) (et:ET) (env:Env) (h:CH) (rs:VR) (U:Heap),
  YOk P ys rs h.n->CSim rs h U->FRel et env->G (FN T ev R ys ops et h k)->Q0s G rs h (List.length env) k K->TA (Q5 P) ops env U K:=by
 intro ops;induction ops with
 |nil=>intro et env h rs U hY hs hE he hk;exact hk et h rs U env (ze _) (λ_ _=>rfl) hs hE rfl he
 |cons o rest ih =>
  intro et env h rs U hY hs hE he hk
  have he:G (match ON et o.guard with
   |none=>R.fail
   |some true=>Q69 T ev R ys o.op et h λv h'=>FN T ev R ys rest (et.put o.dst v) h' k
   |some false=>FN T ev R ys rest (et.put o.dst undef) h k):=he
  rw[AB hE] at he;simp only[TA];split at he
  .exact(hG.fail he).elim
  .rename_i hw;rw[hw];refine⟨λ_=>?_,λhh=>by cases hh⟩;refine R6 hm hT cS hG hE hY hs he ?_;intro v h' bu U' hn hr a8 hg;refine ih _ _ h' bu U' (hY.mono hn hr) a8 (hE.put _ _) hg ?_;intro fX h2 eF σ2 aT ef dY dm fY hl dj;exact hk fX h2 eF σ2 aT (x4 hn ef) (λi hi=>(dY i (by omega)).trans (hr i hi)) dm fY (by rw[hl,ZH]) dj
  .rename_i hw;rw[hw];refine⟨λhh=>(by cases hh),λ_=>?_⟩;refine ih _ _ h rs U hY hs (hE.put _ _) he ?_;intro fX h2 eF σ2 aT ef dY dm fY hl dj;exact hk fX h2 eF σ2 aT ef dY dm fY (by rw[hl,ZH]) dj
def CSims (rs:VR) (n:Nat):List CH->List Heap->Prop
 |[],[]=>True
 |h::hs,U::σs=>(CSim rs h U/\h.n<=n)/\CSims rs n hs σs
 |_,_=>False
theorem CSims.mono {rs bu:VR}{n n':Nat}(hn:n<=n') (hr:∀ i,i<n->bu i=rs i):∀ {hs:List CH}{σs:List Heap},CSims rs n hs σs->CSims bu n' hs σs
 |[],[],_=>trivial
 |h::hs,U::σs,⟨⟨h1,h2⟩,h3⟩=>⟨⟨h1.rs λi hi=>hr i (by omega),by omega⟩,CSims.mono hn hr h3⟩
 |[],_::_,h=>h.elim
 |_::_,[],h=>h.elim
theorem CSims.snoc {rs:VR}{n:Nat}{h:CH}{U:Heap}(hs:CSim rs h U) (hn:h.n<=n):∀ {hl:List CH}{σl:List Heap},CSims rs n hl σl->CSims rs n (hl++[h]) (σl++[U])
 |[],[],_=>⟨⟨hs,hn⟩,trivial⟩
 |_::_,_::_,⟨h1,h2⟩=>⟨h1,CSims.snoc hs hn h2⟩
 |[],_::_,h=>h.elim
 |_::_,[],h=>h.elim
theorem Bs {rs:VR}{h:CH}{U:Heap}(hs:CSim rs h U) {op:VOp}{ev:Operand->Value}{v:Value}(hr:E8 op ev v h=true):Xc op ev v U:=by
 unfold E8 at hr;split at hr
 .rename_i q hq;obtain⟨_,U',h2,_⟩:=KB hs hq;unfold Xc;rw[h2];exact Nv _ _ _ hr
 .cases hr
def Q1a:List (Nat×(CH->Bool))->List (Nat×(Heap->Prop))->Prop
 |[],[]=>True
 |c::l,d::m=>(c.1=d.1/\∀ rs h U,CSim rs h U->c.2 h=true->d.2 U)/\Q1a l m
 |_,_=>False
theorem Gk {rs:VR}{h:CH}{U:Heap}(hs:CSim rs h U) {r:Nat}:∀ {l:List (Nat×(CH->Bool))}{m:List (Nat×(Heap->Prop))},Q1a l m->IS r h l=true->X5 r U m
 |[],[],_,_=>trivial
 |c::l,d::m,⟨⟨h1,h2⟩,h3⟩,he=>by
  simp only[IS,z8,zy,Bool.not_eq_true'] at he;refine⟨λhr=>h2 rs h U hs ?_,Gk hs h3 he.2⟩;rcases he.1 with h|h
  .rw[h1,Nat.ble_eq_true_of_le hr] at h;cases h
  .exact h
 |[],_::_,h,_=>h.elim
 |_::_,[],h,_=>h.elim
theorem CSims.mem {rs:VR}{n:Nat}:∀ {hl:List CH}{σl:List Heap},CSims rs n hl σl->∀ (f:CH->Bool) (Q:Heap->Prop),(∀ rs h U,CSim rs h U->f h=true->Q U)->∀ j,(hl.drop j).all f=true->∀ Z∈σl.drop j,Q Z
 |[],[],_,_,_,_,_,_,Z,hτ=>by simp at hτ
 |h::hl,U::σl,⟨h1,h2⟩,f,Q,hQ,0,ha,Z,hτ=>by
  simp only[x8,zZ,z8,zk] at ha hτ;rcases hτ with rfl|hτ
  .exact hQ rs h Z h1.1 ha.1
  .exact CSims.mem h2 f Q hQ 0 (by simpa using ha.2) Z (by simpa using hτ)
 |h::hl,U::σl,⟨h1,h2⟩,f,Q,hQ,j+1,ha,Z,hτ=>CSims.mem h2 f Q hQ j (by simpa using ha) Z (by simpa using hτ)
 |[],_::_,h,_,_,_,_,_,_,_=>h.elim
 |_::_,[],h,_,_,_,_,_,_,_=>h.elim
theorem CSims.length {rs:VR}{n:Nat}:∀ {hl:List CH}{σl:List Heap},CSims rs n hl σl->hl.length=σl.length
 |[],[],_=>rfl
 |_::_,_::_,⟨_,h⟩=>by simp[CSims.length h]
 |[],_::_,h=>h.elim
 |_::_,[],h=>h.elim
theorem Bq (hm:P.follows .mixedOrders=true) (hT:TabOk P T) (cS:Sd P ev) (hG:Good R G) {ys:Ys}{k:ET->CH->A}{K:Env->Heap->Prop}:∀ (ops:List DOper) (et:ET) (env:Env) (hl:List CH) (h:CH) (pe:List (Nat×(CH->Bool))) (rs:VR) (σl:List Heap) (U:Heap) (pv:List (Nat×(Heap->Prop))),
  YOk P ys rs h.n->CSim rs h U->FRel et env->CSims rs h.n hl σl->Q1a pe pv->G (MA T ev R ys ops et hl h pe k)->Q0s G rs h (List.length env) k K->ZE (Q5 P) ops env σl U pv K:=by
 intro ops;induction ops with
 |nil=>intro et env hl h pe rs σl U pv hY hs hE lY hp he hk;exact hk et h rs U env (ze _) (λ_ _=>rfl) hs hE rfl he
 |cons o rest ih =>
  intro et env hl h pe rs σl U pv hY hs hE lY eB he hk;have ak:=H7 hE;simp only[MA,AB hE,ak] at he;simp only[ZE];have hlen:=lY.length;split at he
  .exact(hG.fail he).elim
  .rename_i hw;rw[hw];refine⟨λ_=>?_,λhh=>by cases hh⟩;split at he
   .rename_i av;rw[z7 av];split at he
    .rename_i p hp;split at he
     .rename_i lZ;obtain⟨fJ,qD⟩:=lZ;simp only[CH.newOk,z8,zf] at fJ;obtain⟨n1,n2,n3⟩:=fJ;have n1:h.n<=p.2.n:=zM n1;have n2:p.2.n<=1000000000:=zM n2;have l4:CSim rs p.2 (p.2.toHeap rs):=Bh (by omega);refine .inl ⟨p.1,p.2.toHeap rs,?_,?_,?_⟩
      .refine R6 hm hT cS (Q5z p) hE hY hs hp ?_;intro v h' bu U' hn hr a8 hg;have hg:(v,h')=p:=osj hg;subst hg;refine⟨rfl,?_⟩;have:CSim rs h' U':=by
        refine⟨a8.n,a8.sm,λi=>?_⟩;rw[a8.get];cases iz:h'.get i with
        |none=>rfl
        |some b =>
         rcases zn i h.n with hi|hi
         .rw[hr i hi]
         .have aP:=a8.lt iz;have:=n3 i (List.mem_range'_1.2 ⟨hi,by simp at n1 |-;omega⟩);simp only[iz] at this;cases b<;>first|rfl|cases this
       exact this.eq
      .rw[<-hlen];exact Gk l4 eB qD
      .refine ih _ _ _ p.2 pe rs _ _ pv (hY.mono n1 (λ_ _=>rfl)) l4 (hE.put _ _) ((lY.mono n1 (λ_ _=>rfl)).snoc l4 (ze _)) eB he ?_;intro fX h2 eF σ2 aT ef dY dm fY b9 dj;exact hk fX h2 eF σ2 aT (x4 n1 ef) (λi hi=>dY i (by omega)) dm fY (by rw[b9,ZH]) dj
     .exact(hG.fail he).elim
    .exact(hG.fail he).elim
   .rename_i av;rw[z1 av];have done:∀ (u:Value) (pB:List (Nat×(CH->Bool))) (pC:List (Nat×(Heap->Prop))),Q1a pB pC->G (MA T ev R ys rest (et.put o.dst u) hl h pB k)->ZE (Q5 P) rest (Xk env o.dst u) σl U pC K:=by
     intro u pB pC bt hg;refine ih _ _ hl h pB rs σl U pC hY hs (hE.put _ _) lY bt hg ?_;intro fX h2 eF σ2 aT ef dY dm fY b9 dj;exact hk fX h2 eF σ2 aT ef dY dm fY (by rw[b9,ZH]) dj
    split at he
    .rename_i bp;rw[z7 bp];split at he
     .rename_i p hp;split at he
      .rename_i ae;obtain⟨_,U',h2,_⟩:=KB hs hp;rw[h2];refine⟨lY.mem _ _ (λrs h U hc hf=>Bs hc hf) _ ae,?_⟩;refine done _ _ _ ?_ he;rw[<-hlen];split
       .exact⟨⟨rfl,λrs h U hc hf=>Bs hc hf⟩,eB⟩
       .exact eB
      .exact(hG.fail he).elim
     .exact(hG.fail he).elim
    .rename_i bp;rw[z1 bp];split at he
     .rename_i p hp;obtain⟨_,U',h2,_⟩:=KB hs hp;rw[h2];exact done _ _ _ eB he
     .exact(hG.fail he).elim
  .rename_i hw;rw[hw];refine⟨λhh=>(by cases hh),λ_=>?_⟩;split at he
   .rename_i av;rw[z7 av];split at he
    .rename_i qD;refine⟨by rw[<-hlen];exact Gk hs eB qD,?_⟩;refine ih _ _ _ h pe rs _ U pv hY hs (hE.put _ _) (lY.snoc hs (ze _)) eB he ?_;intro fX h2 eF σ2 aT ef dY dm fY b9 dj;exact hk fX h2 eF σ2 aT ef dY dm fY (by rw[b9,ZH]) dj
    .exact(hG.fail he).elim
   .rename_i av;rw[z1 av];refine ih _ _ _ h pe rs _ U pv hY hs (hE.put _ _) lY eB he ?_;intro fX h2 eF σ2 aT ef dY dm fY b9 dj;exact hk fX h2 eF σ2 aT ef dY dm fY (by rw[b9,ZH]) dj
theorem ET.q2h {e:ET}{env:Env}(h:FRel e env):e.list=env:=by
 apply x3;intro i;unfold ET.list;rw[zY];rcases zn i e.m with hi|hi
 .rw[List.getElem?_range hi];have:=h.get i;rw[h.m] at hi;rw[zd,z6 hi] at this;rw[z6 hi,x6,<-this];rfl
 .rw[zr (by simpa using hi),zr (by rw[<-h.m];exact hi)];rfl
theorem RE {ρ:Plc}{n:Nat}{vs:Array Value}{cs:List Value}(h:VRel ρ n (.tuple vs) (.tuple cs.toArray)):LRel ρ n vs.toList cs:=by
 obtain⟨ds,he,hl⟩:=h.q1j;have:cs.toArray=ds:=by injection he
 subst this;simpa using hl
theorem L2 (hm:P.follows .mixedOrders=true) (hT:TabOk P T) (cS:Sd P ev) {ys:Ys}{x:Value×CH}{vs:Array Value}(jS:x.1=.tuple vs) {K:Env->Heap->Prop}{et:ET}{env:Env}{h:CH}{rs:VR}{U:Heap}(hY:YOk P ys rs h.n) (hs:CSim rs h U) (hE:FRel et env)
  (hk:K vs.toList (x.2.toHeap rs)):∀ (alts:List (List DOper)),Fw x (AN T ev ys et h alts)->∀ ops∈alts,ZE (Q5 P) ops env [U] U [] λbC σ1=>∃ aT σ2,DropE U bC σ1 aT σ2/\K aT σ2:=by
 have one:∀ a:List DOper,Fw x (Q6o T ev ys et h a)->ZE (Q5 P) a env [U] U [] λbC σ1=>∃ aT σ2,DropE U bC σ1 aT σ2/\K aT σ2:=by intro a ha;refine Bq hm hT cS (RU x) a et env [h] h [] rs [U] U [] hY hs hE ⟨⟨hs,ze _⟩,trivial⟩ trivial ha ?_;intro dK h' bu U' af hn hr a8 b6 hl hg;obtain⟨y,hy,h1,h2,h3⟩:=hg;unfold Q8c at hy;have hd:=BF hs a8 hr hy h1 h2 h3;rw[ET.q2h b6,jS] at hd;refine⟨vs.toList,x.2.toHeap rs,?_,hk⟩;intro ρ0 w0 ρ w cs gu qj hH hL;obtain⟨ρ',d1,d2,d3⟩:=hd ρ0 w0 ρ w (.tuple cs.toArray) gu qj hH (VRel.q0j hL);exact⟨ρ',RE d1,d2,d3⟩
 intro alts;induction alts with
 |nil=>rintro⟨y,hy,_⟩;cases hy
 |cons a l ih =>
  intro he ops ho;cases l with
  |nil =>obtain rfl:=zh.1 ho;exact one _ he
  |cons b r =>
   obtain⟨g1,g2⟩:=(RU x).both _ _ he;rcases zk.1 ho with rfl|ho
   .exact one _ g1
   .exact ih g2 ops ho
theorem LD (hm:P.follows .mixedOrders=true) (hT:TabOk P T) (cS:Sd P ev) (hG:Good R G) {ys:Ys}{k:ET->CH->A}{K:Env->Heap->Prop}:∀ (aR:List DSeg) (et:ET) (env:Env) (h:CH) (rs:VR) (U:Heap),
  YOk P ys rs h.n->CSim rs h U->FRel et env->G (HJ T ev R ys aR et h k)->Q0s G rs h (List.length env) k K->Mu (Q5 P) aR env U K:=by
 intro aR;induction aR with
 |nil=>intro et env h rs U hY hs hE he hk;exact hk et h rs U env (ze _) (λ_ _=>rfl) hs hE rfl he
 |cons x rest ih =>
  intro et env h rs U hY hs hE he hk;have next:Q0s G rs h (List.length env) (λet h=>HJ T ev R ys rest et h k) (λenv U=>Mu (Q5 P) rest env U K):=by intro kQ h1 fI σ1 bC gN fU jW fm eU ie;refine ih kQ bC h1 fI σ1 (hY.mono gN fU) jW fm ie ?_;intro fX h2 eF σ2 aT ef dY dm fY b9 dj;exact hk fX h2 eF σ2 aT (x4 gN ef) (λi hi=>(dY i (by omega)).trans (fU i hi)) dm fY (b9.trans eU) dj
  cases x with
  |one o=>exact Hr hm hT cS hG [o] et env h rs U hY hs hE he next
  |alts l =>
   have many:G (match AN T ev ys et h l with
     |some x=>(match x.1 with
      |.tuple vs=>if x.2.room=true/\Nat.ble h.n x.2.n=true/\vs.toList.length=et.m then HJ T ev R ys rest (ET.of vs.toList 0) x.2 k else R.fail
      |_=>R.fail)
     |none=>R.fail)->Mu (Q5 P) (.alts l::rest) env U K:=by
    intro he;split at he
    .rename_i x hx;split at he
     .rename_i vs jS;split at he
      .rename_i hc;obtain⟨c1,c2,c3⟩:=hc;have aZ:x.2.n<=1000000000:=zM c1;have tU:FRel (ET.of vs.toList 0) vs.toList:=by
        have:=ET.q1p (args:=vs.toList) (nt:=0) (by show vs.toList.length+(0-vs.toList.length)<=_;have:=hE.sm;omega);simpa using this
       exact L2 hm hT cS jS hY hs hE (next _ x.2 rs _ _ (zM c2) (λ_ _=>rfl) (Bh (by omega)) tU (by rw[c3,hE.m]) he) l ⟨x,hx,rfl,rfl,λ_=>rfl⟩
      .exact(hG.fail he).elim
     .exact(hG.fail he).elim
    .exact(hG.fail he).elim
   match l,he with
   |[],he=>exact many he
   |[a],he =>intro ops ho;obtain rfl:=zh.1 ho;refine Bq hm hT cS hG ops et env [h] h [] rs [U] U [] hY hs hE ⟨⟨hs,ze _⟩,trivial⟩ trivial he ?_;intro dK h' bu U' af hn hr a8 b6 hl hg;exact⟨af,U',.refl _ _ _,next dK h' bu U' af hn hr a8 b6 hl hg⟩
   |a::b::r,he=>exact many he
def LI (P:Program) (T:Tab) (ev:Q7h) (c:VCode):Prop:=∀ {A:Type}(R:AnsOps A) (G:A->Prop),Good R G->∀ (ys:Ys) (ro:Option Nat) (et:ET) (env:Env) (h:CH) (k:Exit->ET->CH->A) (rs:VR) (U:Heap) (Q:Exit->Env->Heap->Prop),
 YOk P ys rs h.n->CSim rs h U->FRel et env->G (LG T ev R ys c ro et h k)->Q0d G rs h (List.length env) k Q->vwp (Q5 P) c ro Q env U
theorem Lg (hm:P.follows .mixedOrders=true) (hT:TabOk P T) (cS:Sd P ev) (hG:Good R G) {ys:Ys}{g:Operand}{ps:List Nat}{a b:VCode}{ro:Option Nat}{et:ET}{env:Env}{h:CH}{k:Exit->ET->CH->A}{rs:VR}{U:Heap}{Q:Exit->Env->Heap->Prop}
  (hY:YOk P ys rs h.n) (hs:CSim rs h U) (hE:FRel et env) (he:G (FX T ev R ys (Gu et g) ps a b ro et h k)) (hk:Q0d G rs h (List.length env) k Q):vwp (Q5 P) (.rangeF g ps a b) ro Q env U:=by
 rw[H7 hE] at he;unfold FX at he;simp only[vwp,LF];split at he
 .rename_i f first cap hg
  simp only[hg];split at he
  .rename_i vc rl nt hf;have hF:=hT.code f vc rl nt hf;split at he
   .rename_i lZ;obtain⟨aP,aZ⟩:=lZ;have nK:(Q5 P).it f=some λi Y args U K=>Va P i Y->VCallsTo P f args U K:=by
     simp only[Q5];rw[z7 hF.enterable]
    rw[nK];refine⟨?_,λr tV=>?_⟩
    .cases ro with
     |none=>trivial
     |some i =>
      simp only[Q3y] at aP;split at aP
      .rename_i st pend iz;exact⟨_,_,_,_,hs.lp iz⟩
      .cases aP
    .let fI:VR:=λi=>if i=h.n then (env,r) else rs i
     have fl:∀ i,i<h.n->fI i=rs i:=λi hi=>by simp only[fI];rw[z1 (by omega)]
     have jW:CSim fI (h.push (.lp .ready none)) (U.push (.obj (.lp env r .ready none) true)) :=
      (hs.rs fl).push aZ (by simp[EB.to,fI])
     have tW:YOk P ((h.n,⟨ps,a,b,et⟩)::ys) fI (h.push (.lp .ready none)).n:=by
      intro i c hc;simp only[Ys.find] at hc;split at hc
      .rename_i e_;have e_:=zV e_;subst e_;obtain rfl:=osj hc;refine⟨Nat.lt_succ_self _,by simp only[fI,zI];exact hE,?_⟩;rw[hs.n] at *
       simpa [fI,hs.n] using tV
      .obtain⟨h1,h2,h3⟩:=hY i c hc;rw[fl i h1];exact⟨Nat.lt_succ_of_lt h1,h2,h3⟩
     rw[<-hs.n];refine RR hm cS hG hf hF tW jW he ?_;intro v h' bu U' hn hr a8 dL;have px:h.n+1<=h'.n:=hn;unfold Q9d at dL;unfold Q25;split at dL
     .rename_i st pend iz;have hi:=a8.lt iz;simp only[a8.lp iz];split at dL
      .rename_i cJ;refine⟨(by rintro rfl;cases cJ),?_⟩;have agree:∀ j,j<h.n->bu j=rs j:=λj hj=>(hr j (Nat.lt_succ_of_lt hj)).trans (fl j hj);have bh:=a8.kill hi;split at dL
       .exact hk _ _ _ bu _ _ (by show h.n<=h'.n;omega) agree bh hE rfl dL
       .exact hk _ _ _ bu _ _ (by show h.n<=h'.n;omega) agree bh hE rfl dL
       .exact hk _ _ _ bu _ _ (by show h.n<=h'.n;omega) agree bh hE rfl dL
       .exact(hG.fail dL).elim
      .exact(hG.fail dL).elim
     .exact(hG.fail dL).elim
   .exact(hG.fail he).elim
  .exact(hG.fail he).elim
 .exact(hG.fail he).elim
theorem LJ (hm:P.follows .mixedOrders=true) (hT:TabOk P T) (cS:Sd P ev)
  (oh:∀ b,LI P T ev b->LI P T ev (.loop b)):∀ (c:VCode),LI P T ev c:=by
 intro c;induction c with
 |skip=>intro A R G hG ys ro et env h k rs U Q hY hs hE he hk;exact hk _ _ _ rs U _ (ze _) (λ_ _=>rfl) hs hE rfl he
 |region ops =>intro A R G hG ys ro et env h k rs U Q hY hs hE he hk;exact Hr hm hT cS hG ops et env h rs U hY hs hE he λdK h' bu U' af h1 h2 h3 h4 h5 h6=>hk _ _ _ _ _ _ h1 h2 h3 h4 h5 h6
 |regionD aR =>intro A R G hG ys ro et env h k rs U Q hY hs hE he hk;exact LD hm hT cS hG aR et env h rs U hY hs hE he λdK h' bu U' af h1 h2 h3 h4 h5 h6=>hk _ _ _ _ _ _ h1 h2 h3 h4 h5 h6
 |rangeF g ps a b fG fb =>intro A R G hG ys ro et env h k rs U Q hY hs hE he hk;exact Lg hm hT cS hG hY hs hE he hk
 |seq a b fG fb =>
  intro A R G hG ys ro et env h k rs U Q hY hs hE he hk;simp only[vwp];refine fG R G hG ys ro et env h _ rs U _ hY hs hE he ?_;intro e dK h' bu U' af hn hr a8 b6 hl hg;cases e with
  |normal =>refine fb R G hG ys ro dK af h' k bu U' Q (hY.mono hn hr) a8 b6 hg ?_;intro e2 fX h2 eF σ2 aT ef dY dm fY b9 dj;exact hk e2 fX h2 eF σ2 aT (x4 hn ef) (λi hi=>(dY i (by omega)).trans (hr i hi)) dm fY (b9.trans hl) dj
  |_=>exact hk _ dK h' bu U' af hn hr a8 b6 hl hg
 |cond c a b fG fb =>
  intro A R G hG ys ro et env h k rs U Q hY hs hE he hk;have he:G (Q5u R (Gu et c) (LG T ev R ys a ro et h k) (LG T ev R ys b ro et h k)):=he;rw[H7 hE] at he;unfold Q5u at he;simp only[vwp];split at he
  .rename_i hc;rw[hc];exact⟨λ_=>fG R G hG ys ro et env h k rs U Q hY hs hE he hk,λhh=>by cases hh⟩
  .rename_i hc;rw[hc];exact⟨λhh=>(by cases hh),λ_=>fb R G hG ys ro et env h k rs U Q hY hs hE he hk⟩
  .exact(hG.fail he).elim
 |block id b ih =>
  intro A R G hG ys ro et env h k rs U Q hY hs hE he hk;simp only[vwp];refine ih R G hG ys ro et env h _ rs U _ hY hs hE he ?_;intro e dK h' bu U' af hn hr a8 b6 hl hg;cases e with
  |exit iD =>
   simp only[I0] at hg;simp only[AA];split at hg
   .rename_i bn;rw[z7 bn];exact hk _ dK h' bu U' af hn hr a8 b6 hl hg
   .rename_i bn;rw[z1 bn];exact hk _ dK h' bu U' af hn hr a8 b6 hl hg
  |_=>exact hk _ dK h' bu U' af hn hr a8 b6 hl hg
 |loop b ih =>intro A R G hG ys ro et env h k rs U Q hY hs hE he hk;exact oh b ih R G hG ys ro et env h k rs U Q hY hs hE he hk
 |exit id=>intro A R G hG ys ro et env h k rs U Q hY hs hE he hk;exact hk _ _ _ rs U _ (ze _) (λ_ _=>rfl) hs hE rfl he
 |ret=>intro A R G hG ys ro et env h k rs U Q hY hs hE he hk;exact hk _ _ _ rs U _ (ze _) (λ_ _=>rfl) hs hE rfl he
 |bad=>intro A R G hG ys ro et env h k rs U Q hY hs hE he hk;exact(hG.fail he).elim
theorem R8 {v:Value}(h:Fp v=true):QM v=true\/∃ vs,v=.tuple vs/\vs.toList.all QM=true:=by unfold Fp at h;split at h<;>first|exact .inl rfl|exact .inr ⟨_,rfl,h⟩|cases h
theorem Q0r {ρ:Plc}{n:Nat}{v c:Value}(h:Fp v=true) (hv:VRel ρ n v c):c=v:=by
 rcases R8 h with hp|⟨vs,rfl,ae⟩
 .exact Y9 hp hv
 .obtain⟨ds,rfl,hl⟩:=hv.q1j;have ae:∀ x∈vs.toList,QM x=true:=zf.1 ae;have:ds.toList=vs.toList:=by
   apply x3;intro i;rcases zn i vs.toList.length with hi|hi
   .have cI:i<ds.toList.length:=by rw[<-hl.1];exact hi
    rw[z6 hi,z6 cI];rw[Y9 (ae _ (zp hi)) (hl.2 i _ _ (z6 hi) (z6 cI))]
   .rw[zr hi,zr (by rw[<-hl.1];exact hi)]
  rw[R5 this]
theorem OD {ρ:Plc}{n:Nat}{v:Value}(h:Fp v=true):VRel ρ n v v:=by
 rcases R8 h with hp|⟨vs,rfl,ae⟩
 .exact XF hp
 .exact .tuple _ _ rfl λi h1 _=>XF (zf.1 ae _ (by simp))
theorem DX (m:Nat) (env:Env) (h:List.length env=m):H2 (List.range m) env=env:=by
 apply x3;intro i;simp only[H2,zY];rcases zn i m with hi|hi
 .rw[List.getElem?_range hi];simp[zd,h,hi]
 .rw[zr (by simpa using hi),zr (by omega)];rfl
theorem Ra:∀ (l:List Nat) (vs base:List Value) (i:Nat),l.Nodup->vs.length=l.length->(∀ x∈l,x<base.length)->(XP l vs base)[i]?=if i∈l then vs[l.idxOf i]? else base[i]?
 |[],[],base,i,_,_,_=>by simp[XP]
 |[],_::_,_,_,_,h,_=>by simp at h
 |_::_,[],_,_,_,h,_=>by simp at h
 |x::l,v::vs,base,i,hn,h,hb=>by
  obtain⟨h1,h2⟩:=xn.1 hn;simp only[XP];rw[Ra l vs _ i h2 (by simpa using h) (λy hy=>by rw[xQ];exact hb y (by simp[hy]))];by_cases mT:i=x
  .subst mT;rw[z1 h1,z7 (by simp),List.getElem?_set_self (hb i (by simp))];simp
  .by_cases gW:i∈l
   .have e:(x::l).idxOf i=l.idxOf i+1:=by rw[List.idxOf_cons,show (x==i)=false from by simpa using Ne.symm mT];rfl
    rw[z7 gW,z7 (by simp[gW]),e];rfl
   .rw[z1 gW,z1 (by simp[mT,gW]),List.getElem?_set_ne (Ne.symm mT)]
theorem LW (m:Nat) (vs:List Value) (h:vs.length=m):XP (List.range m) vs (List.replicate m poison)=vs:=by
 apply x3;intro i;rw[Ra _ _ _ _ List.nodup_range (by simpa using h) (λx hx=>by simpa using hx)];split
 .rename_i hi;have hi:=zz.1 hi;have:(List.range m).idxOf i=i:=by
   have h1:(List.range m).idxOf i<(List.range m).length:=List.idxOf_lt_length_of_mem (zz.2 hi);have h2:=List.getElem_idxOf h1;rw[List.getElem_range] at h2;exact h2
  rw[this]
 .rename_i hi;have hi:m<=i:=by simpa using hi
  rw[zr (by simpa using hi),zr (by omega)]
theorem EY (hm:P.follows .mixedOrders=true) (hT:TabOk P T):∀ (n:Nat) (c:VCode),LI P T (Dt T n) c:=by
 intro n;induction n using Nat.strongRecOn with
 |ind n pA =>
  have cS:Sd P (Dt T n):=by
   cases n with
   |zero=>intro A R G hG ys c ro et env h k rs U Q hY hs hE he hk;exact(hG.fail he).elim
   |succ n=>intro A R G hG ys c ro et env h k rs U Q hY hs hE he hk;exact pA n (Nat.lt_succ_self _) c R G hG ys ro et env h k rs U Q hY hs hE he hk
  refine LJ hm hT cS λb fb=>?_;intro A R G hG ys ro et env h k rs U Q hY hs hE he hk;have oi:∀ j,j<=n->LI P T (Dt T j) b:=λj hj=>by
   rcases zn j n with h'|h'
   .exact pA j h' b
   .obtain rfl:j=n:=by omega
    exact fb
  simp only[vwp];refine⟨List.range (List.length env),λj vs σ1=>j<=n/\∃ kQ h1 fI,h.n<=h1.n/\(∀ i,i<h.n->fI i=rs i)/\CSim fI h1 σ1/\FRel kQ vs/\List.length vs=List.length env/\G (LG T (Dt T j) R ys (.loop b) ro kQ h1 k),n,?_,?_⟩
  .rw[DX _ _ rfl];exact⟨ze _,et,h,rs,ze _,λ_ _=>rfl,hs,hE,rfl,he⟩
  .rintro j vs σ1 ⟨hj,kQ,h1,fI,g1,g2,g3,gE,g4,g5⟩;rw[LW _ _ g4];refine oi j hj R G hG ys ro kQ vs h1 _ fI σ1 _ (hY.mono g1 g2) g3 gE g5 ?_;intro e dK h' bu U' af hn hr a8 b6 hl hg;cases e with
   |normal =>
    cases j with
    |zero=>exact(hG.fail hg).elim
    |succ j =>
     refine⟨j,Nat.lt_succ_self _,by omega,dK,h',bu,x4 g1 hn,λi hi=>(hr i (by omega)).trans (g2 i hi),a8,?_,?_,?_⟩
     .rw[DX _ _ (hl.trans g4)];exact b6
     .rw[DX _ _ (hl.trans g4)];exact hl.trans g4
     .exact hg
   |_=>exact hk _ dK h' bu U' af (x4 g1 hn) (λi hi=>(hr i (by omega)).trans (g2 i hi)) a8 b6 (hl.trans g4) hg
theorem Pj (hm:P.follows .mixedOrders=true) (hT:TabOk P T) (n:Nat):Sd P (Dt T n):=by
 cases n with
 |zero=>intro A R G hG ys c ro et env h k rs U Q hY hs hE he hk;exact(hG.fail he).elim
 |succ n=>intro A R G hG ys c ro et env h k rs U Q hY hs hE he hk;exact EY hm hT n c R G hG ys ro et env h k rs U Q hY hs hE he hk
theorem HRel.forget {ρ:Plc}{U:Heap}{w:World}(hH:HRel ρ U w):HRel (λ_=>none) Heap.empty w :=
 ⟨⟨λi b h=>(by cases h),λ_ _=>rfl,λi p h=>(by cases h),λi j p q b _ h=>(by cases h)⟩,λg cs hg=>⟨(hH.tab g cs hg).1,λ⟨_,_,_,h,_⟩=>by cases h⟩⟩
theorem Lf {f:FuncId}{args:List Value}(ha:args.all QM=true) {v:Value}(hv:Fp v=true) (he:ZI P f) (h0:VCallsTo P f args Heap.empty (λu _=>u=v)) {U:Heap}{K:Value->Heap->Prop}(hK:K v U):VCalled P f args U K:=by
 refine VCallsTo.called he ?_;intro ρ w ax hH hL;refine (h0 (λ_=>none) w ax hH.forget ?_).mono ?_
 .refine⟨hL.1,λi a c ku hc=>?_⟩;have hp:=zf.1 ha a (zK ku);have:=Y9 hp (hL.2 i a c ku hc);subst this;exact XF hp
 .rintro e w' ⟨c,rfl,u,ρ',U',rfl,eH,gQ,hE⟩;refine⟨c,rfl,u,ρ,U,hK,?_,?_,?_⟩
  .have:c=u:=Q0r hv eH;subst this;exact OD hv
  .exact hH.world hE.size (λi p hp=>hE.keep _ (hH.lt i p hp) (λ⟨_,_,_,h,_⟩=>by cases h)) λg cs hg=>hE.keep _ (hH.tab.lt hg) (λ⟨_,_,_,h,_⟩=>by cases h)
  .exact⟨hE.os,hE.tape,hE.output,hE.size,λB hB _=>hE.keep B hB (λ⟨_,_,_,h,_⟩=>by cases h),λ_ _ h=>h,ze _,λ_ _ _ h=>h⟩
theorem Q1z (hm:P.follows .mixedOrders=true) (hT:TabOk P T) (n:Nat) {f:FuncId}{vc:VCode}{rl:List VResult}{nt:Nat}(hF:Fun P f vc rl nt) (args:List Value) (ha:args.all QM=true) (v:Value) (hv:Fp v=true) (p:Value->Bool) (hp:∀ u,p u=true->u=v)
  (eA:Nat.ble (ET.of args nt).m 1000000=true) (he:Dt T n XR [] vc none (ET.of args nt) CH.empty (Q55 false rl λv _=>p v)=true) {U:Heap}{K:Value->Heap->Prop}(hK:K v U):VCalled P f args U K:=by
 refine Lf ha hv hF.enterable ?_ hK;refine hF.callsTo hm HU ?_
 exact Pj hm hT n XR (·=true) S5 [] vc none _ _ CH.empty _ (λ_=>([],default)) Heap.empty _ (λi c h=>by cases h) ⟨rfl,by decide,λi=>rfl⟩ (ET.q1p (zM eA)) he
  (M7 (R:=XR) S5 λv' h' bu U' _ _ _ hg=>hp v' hg)
end
end Go.V
namespace Go.V
open Go
def Q79 (P:Program) (f:FuncId):Option FEnt->Prop
 |none=>True
 |some (.code vc rs nt)=>Fun P f vc rs nt
 |some (.codeJ vc rs nt)=>Fun P f vc rs nt
 |some (.codeM vc rs nt ms)=>Fun P f vc rs nt/\∀ m∈ms,Ny P f m
 |some .same=>∀ (v:Value) (U:Heap) (K:Value->Heap->Prop),K v U->VCalled P f [v] U K
def EntsOk (P:Program):Nat->List (Option FEnt)->Prop
 |_,[]=>True
 |i,e::l=>Q79 P i e/\EntsOk P (i+1) l
theorem EntsOk.get {P:Program}:∀ {l:List (Option FEnt)}{i j:Nat}{e:FEnt},EntsOk P i l->l[j]?=some (some e)->Q79 P (i+j) (some e)
 |[],_,_,_,_,h=>by simp at h
 |x::l,i,0,e,h,hj=>by simp at hj;subst hj;exact h.1
 |x::l,i,j+1,e,h,hj=>by have:=EntsOk.get (l:=l) (i:=i+1) (j:=j) h.2 (by simpa using hj);rw[zt,xW 1 j] at this;exact this
theorem Ab {P:Program}{l:List (Option FEnt)}(h:EntsOk P 0 l):TabOk P (λf=>(l[f]?).join):=by
 have key:∀ f e,(l[f]?).join=some e->Q79 P f (some e):=λf e he=>by
  have:=EntsOk.get (j:=f) (e:=e) h (by
   cases hl:l[f]? with
   |none=>rw[hl] at he;cases he
   |some x=>rw[hl] at he;simp at he;rw[he])
  simpa using this
 exact⟨λf vc rs nt he=>key f _ he,λf vc rs nt he=>key f _ he,λf vc rs nt ms he=>key f _ he,λf he=>key f _ he⟩
def isTrue:Value->Bool
 |.bool true=>true
 |_=>false
theorem IZ {v:Value}(h:isTrue v=true):v=.bool true:=by
 unfold isTrue at h;split at h
 .rfl
 .cases h
theorem Q13 {P:Program}(hm:P.follows .mixedOrders=true) {T:Tab}(hT:TabOk P T) (n:Nat) {f:FuncId}{vc:VCode}{rl:List VResult}{nt:Nat}(hF:Fun P f vc rl nt) (eA:Nat.ble (ET.of [] nt).m 1000000=true)
  (he:Dt T n XR [] vc none (ET.of [] nt) CH.empty (Q55 false rl λv _=>isTrue v)=true) {U:Heap}{K:Value->Heap->Prop}(hK:K (.bool true) U):VCalled P f [] U K :=
 Q1z hm hT n hF [] rfl (.bool true) rfl isTrue (λ_ h=>IZ h) eA he hK
def XU:List PB->CH->CH
 |[],h=>h
 |b::l,h=>XU l (h.push (.cells b.c b.esz false b.tight))
def LY (U:Heap) (l:List PB):Heap where
 get i:=if i<U.n then U.get i else (l[i-U.n]?).map (PB.blk false)
 n:=U.n+l.length
 wf i h:=by rw[z1 (by omega),zr (by omega)];rfl
theorem R9 {rs:VR}:∀ (fr:List PB) {h:CH}{U:Heap},CSim rs h U->h.n+fr.length<=1000000000->CSim rs (XU fr h) (LY U fr)/\(XU fr h).n=h.n+fr.length
 |[],h,U,hs,_=>by
  have:LY U []=U:=Heap.ext' (λj=>by
   show (if j<U.n then U.get j else _)=_;split
   .rfl
   .rename_i hj;rw[U.wf j (by omega)];simp) rfl
  rw[this];exact⟨hs,rfl⟩
 |b::l,h,U,hs,hr=>by
  have hr:h.n+(l.length+1)<=1000000000:=hr;have hn:=hs.n;have h1:CSim rs (h.push (.cells b.c b.esz false b.tight)) (U.push (b.blk false)):=hs.push (Nat.ble_eq_true_of_le (by omega)) rfl;obtain⟨h2,h3⟩:=R9 l h1 (by show h.n+1+_<=_;omega);refine⟨?_,by rw[show XU (b::l) h=XU l (h.push (.cells b.c b.esz false b.tight)) from rfl,h3];show h.n+1+l.length=h.n+(l.length+1);omega⟩;have:LY U (b::l)=LY (U.push (b.blk false)) l:=Heap.ext' (λj=>by
   show (if j<U.n then U.get j else _)=(if j<U.n+1 then (U.push (b.blk false)).get j else _);rcases Nat.lt_trichotomy j U.n with hj|hj|hj
   .rw[z7 hj,z7 (by omega),Heap.q0i _ _ hj]
   .subst hj;rw[z1 (by omega),z7 (by omega),Heap.q0a];simp
   .rw[z1 (by omega),z1 (by omega)];rw[show j-U.n=(j-(U.push (b.blk false)).n)+1 by simp;omega];rfl) (by simp[LY];omega)
  rw[this];exact h2
theorem L6 (bl fr:List PB):XW (LY Heap.empty bl) fr=QE bl fr:=Heap.ext' (λj=>by
 have hn:(LY Heap.empty bl).n=bl.length:=by simp[LY,Heap.empty]
 show (if j<(LY Heap.empty bl).n then (LY Heap.empty bl).get j else (fr[j-(LY Heap.empty bl).n]?).map (PB.blk true))=(if j<bl.length then _ else _);rw[hn];split
 .simp[LY,Heap.empty]
 .rfl) (by simp[XW,LY,QE,Heap.empty])
def E5 (m:Memo):Bool:=Nat.ble (m.bl.length+m.fr.length) 1000000000&&m.fr.all (λb=>b.c.all QM)
theorem Gx {P:Program}(hm:P.follows .mixedOrders=true) {T:Tab}(hT:TabOk P T) (n:Nat) {f:FuncId}{m:Memo}(hf:E5 m=true)
  (he:Bf T (Dt T n) XR [] f m.args (XU m.bl CH.empty) (λu h'=>R7 20 u m.v&&h'.same (Xm m.fr (XU m.bl CH.empty)))=true):Ny P f m:=by
 simp only[E5,z8,zf] at hf;obtain⟨h1,h3⟩:=hf;have h1:=zM h1;have e0:∀ rs:VR,CSim rs CH.empty Heap.empty:=λrs=>⟨rfl,by decide,λi=>rfl⟩;have s1:∀ rs:VR,CSim rs (XU m.bl CH.empty) (LY Heap.empty m.bl)/\(XU m.bl CH.empty).n=0+m.bl.length:=λrs=>R9 m.bl (e0 rs) (by show 0+_<=_;omega);have s2:∀ rs:VR,CSim rs (Xm m.fr (XU m.bl CH.empty)) (QE m.bl m.fr):=λrs=>by rw[<-L6];exact(Ns m.fr (s1 rs).1 (by rw[(s1 rs).2];omega)).1
 have mS:LY Heap.empty m.bl=QE m.bl []:=by
  rw[<-L6];exact Heap.ext' (λj=>by
   show _=(if j<(LY Heap.empty m.bl).n then _ else _);split
   .rfl
   .rename_i hj;rw[(LY Heap.empty m.bl).wf j (by omega)];simp) rfl
 refine⟨?_,λb hb=>zf.2 (h3 b hb)⟩;rw[<-mS];refine Gn (R:=XR) (G:=(·=true)) (rs:=λ_=>([],default)) hm hT (λ{A}=>Pj hm hT n (A:=A)) S5 (λi c h=>by cases h) (s1 _).1 he ?_;intro v h' bu U' _ _ a8 hg;rw[z8] at hg;refine⟨Nv 20 _ _ hg.1,?_⟩;obtain⟨g1,g2⟩:=AJ hg.2;refine Heap.ext' (λj=>?_) ?_
 .rw[a8.get,g2,(s2 bu).get]
 .rw[<-a8.n,g1,(s2 bu).n]
end Go.V
namespace Go.Proofs.Tryz
open Go Go.V Go.Proofs
theorem mixed:Tryz.prog.follows .mixedOrders=true:=by kernel_rfl
def cof (fn:Func):VCode:=match fn.body.bind (comp Tryz.prog) with|some c=>c|none=>.bad
theorem Q2 {fn:Func}(h:(fn.body.bind (comp Tryz.prog)).isSome=true):fn.body.bind (comp Tryz.prog)=some (cof fn):=by
 unfold cof;cases h2:fn.body.bind (comp Tryz.prog) with
 |none=>rw[h2] at h;cases h
 |some c=>rfl
def c2:VCode:=cof Tryz.f2
theorem Z56:Fun Tryz.prog 2 c2 [] 1:=⟨Tryz.f2,Tryz.func2,Q2 (by kernel_rfl),by kernel_rfl,rfl,rfl⟩
def c3:VCode:=cof Tryz.f3
theorem Z51:Fun Tryz.prog 3 c3 [.tmp 2] 84:=⟨Tryz.f3,Tryz.func3,Q2 (by kernel_rfl),by kernel_rfl,rfl,rfl⟩
def c4:VCode:=cof Tryz.f4
theorem Z52:Fun Tryz.prog 4 c4 [.tmp 4] 203:=⟨Tryz.f4,Tryz.func4,Q2 (by kernel_rfl),by kernel_rfl,rfl,rfl⟩
def c5:VCode:=cof Tryz.f5
theorem Z5c:Fun Tryz.prog 5 c5 [.tmp 2] 92:=⟨Tryz.f5,Tryz.func5,Q2 (by kernel_rfl),by kernel_rfl,rfl,rfl⟩
def c6:VCode:=cof Tryz.f6
theorem Z5u:Fun Tryz.prog 6 c6 [.tmp 6] 129:=⟨Tryz.f6,Tryz.func6,Q2 (by kernel_rfl),by kernel_rfl,rfl,rfl⟩
def c7:VCode:=cof Tryz.f7
theorem fun7:Fun Tryz.prog 7 c7 [.tmp 4] 283:=⟨Tryz.f7,Tryz.func7,Q2 (by kernel_rfl),by kernel_rfl,rfl,rfl⟩
def c8:VCode:=cof Tryz.f8
theorem Z57:Fun Tryz.prog 8 c8 [.tmp 6] 207:=⟨Tryz.f8,Tryz.func8,Q2 (by kernel_rfl),by kernel_rfl,rfl,rfl⟩
def c9:VCode:=cof Tryz.f9
theorem Z53:Fun Tryz.prog 9 c9 [.tmp 2] 249:=⟨Tryz.f9,Tryz.func9,Q2 (by kernel_rfl),by kernel_rfl,rfl,rfl⟩
def c10:VCode:=cof Tryz.f10
theorem Z00:Fun Tryz.prog 10 c10 [.tmp 6] 205:=⟨Tryz.f10,Tryz.func10,Q2 (by kernel_rfl),by kernel_rfl,rfl,rfl⟩
def c11:VCode:=cof Tryz.f11
theorem Z0k:Fun Tryz.prog 11 c11 [.tmp 2] 265:=⟨Tryz.f11,Tryz.func11,Q2 (by kernel_rfl),by kernel_rfl,rfl,rfl⟩
def c12:VCode:=cof Tryz.f12
theorem Q9y:Fun Tryz.prog 12 c12 [.tmp 4] 132:=⟨Tryz.f12,Tryz.func12,Q2 (by kernel_rfl),by kernel_rfl,rfl,rfl⟩
def c13:VCode:=cof Tryz.f13
theorem Z0i:Fun Tryz.prog 13 c13 [.tmp 4] 228:=⟨Tryz.f13,Tryz.func13,Q2 (by kernel_rfl),by kernel_rfl,rfl,rfl⟩
def c14:VCode:=cof Tryz.f14
theorem Q9u:Fun Tryz.prog 14 c14 [.tmp 6] 133:=⟨Tryz.f14,Tryz.func14,Q2 (by kernel_rfl),by kernel_rfl,rfl,rfl⟩
def c15:VCode:=cof Tryz.f15
theorem Q76:Fun Tryz.prog 15 c15 [.tmp 0] 226:=⟨Tryz.f15,Tryz.func15,Q2 (by kernel_rfl),by kernel_rfl,rfl,rfl⟩
def c16:VCode:=cof Tryz.f16
theorem Q5y:Fun Tryz.prog 16 c16 [.cell 2 true 2] 9:=⟨Tryz.f16,Tryz.func16,Q2 (by kernel_rfl),by kernel_rfl,rfl,rfl⟩
def c17:VCode:=cof Tryz.f17
theorem Q66:Fun Tryz.prog 17 c17 [.tmp 2,.tmp 3] 49:=⟨Tryz.f17,Tryz.func17,Q2 (by kernel_rfl),by kernel_rfl,rfl,rfl⟩
def c18:VCode:=cof Tryz.f18
theorem Q5s:Fun Tryz.prog 18 c18 [.cell 2 true 2,.tmp 3] 34:=⟨Tryz.f18,Tryz.func18,Q2 (by kernel_rfl),by kernel_rfl,rfl,rfl⟩
def c19:VCode:=cof Tryz.f19
theorem Z0p:Fun Tryz.prog 19 c19 [.tmp 2] 32:=⟨Tryz.f19,Tryz.func19,Q2 (by kernel_rfl),by kernel_rfl,rfl,rfl⟩
def c20:VCode:=cof Tryz.f20
theorem Q8w:Fun Tryz.prog 20 c20 [.tmp 2] 45:=⟨Tryz.f20,Tryz.func20,Q2 (by kernel_rfl),by kernel_rfl,rfl,rfl⟩
def c21:VCode:=cof Tryz.f21
theorem Q97:Fun Tryz.prog 21 c21 [.tmp 4] 17:=⟨Tryz.f21,Tryz.func21,Q2 (by kernel_rfl),by kernel_rfl,rfl,rfl⟩
def c22:VCode:=cof Tryz.f22
theorem Q7x:Fun Tryz.prog 22 c22 [.tmp 4] 26:=⟨Tryz.f22,Tryz.func22,Q2 (by kernel_rfl),by kernel_rfl,rfl,rfl⟩
def c23:VCode:=cof Tryz.f23
theorem Q98:Fun Tryz.prog 23 c23 [.tmp 2] 74:=⟨Tryz.f23,Tryz.func23,Q2 (by kernel_rfl),by kernel_rfl,rfl,rfl⟩
def c24:VCode:=cof Tryz.f24
theorem Q7y:Fun Tryz.prog 24 c24 [.cell 2 true 2] 44:=⟨Tryz.f24,Tryz.func24,Q2 (by kernel_rfl),by kernel_rfl,rfl,rfl⟩
def c25:VCode:=cof Tryz.f25
theorem Q5g:Fun Tryz.prog 25 c25 [.tmp 2] 6:=⟨Tryz.f25,Tryz.func25,Q2 (by kernel_rfl),by kernel_rfl,rfl,rfl⟩
def c26:VCode:=cof Tryz.f26
theorem Q8x:Fun Tryz.prog 26 c26 [.tmp 4,.tmp 5,.tmp 6,.tmp 7] 79:=⟨Tryz.f26,Tryz.func26,Q2 (by kernel_rfl),by kernel_rfl,rfl,rfl⟩
def c27:VCode:=cof Tryz.f27
theorem Q7b:Fun Tryz.prog 27 c27 [.tmp 6,.tmp 7] 29:=⟨Tryz.f27,Tryz.func27,Q2 (by kernel_rfl),by kernel_rfl,rfl,rfl⟩
def c28:VCode:=cof Tryz.f28
theorem Q6p:Fun Tryz.prog 28 c28 [.tmp 6,.tmp 7] 33:=⟨Tryz.f28,Tryz.func28,Q2 (by kernel_rfl),by kernel_rfl,rfl,rfl⟩
def c29:VCode:=cof Tryz.f29
theorem Z11:Fun Tryz.prog 29 c29 [.tmp 4] 15:=⟨Tryz.f29,Tryz.func29,Q2 (by kernel_rfl),by kernel_rfl,rfl,rfl⟩
def c30:VCode:=cof Tryz.f30
theorem Q9g:Fun Tryz.prog 30 c30 [.tmp 6] 15:=⟨Tryz.f30,Tryz.func30,Q2 (by kernel_rfl),by kernel_rfl,rfl,rfl⟩
def c31:VCode:=cof Tryz.f31
theorem Z0y:Fun Tryz.prog 31 c31 [.cell 4 true 4,.tmp 5] 41:=⟨Tryz.f31,Tryz.func31,Q2 (by kernel_rfl),by kernel_rfl,rfl,rfl⟩
def c32:VCode:=cof Tryz.f32
theorem Q8f:Fun Tryz.prog 32 c32 [.tmp 6,.tmp 7] 60:=⟨Tryz.f32,Tryz.func32,Q2 (by kernel_rfl),by kernel_rfl,rfl,rfl⟩
def c33:VCode:=cof Tryz.f33
theorem Q99:Fun Tryz.prog 33 c33 [.tmp 2] 37:=⟨Tryz.f33,Tryz.func33,Q2 (by kernel_rfl),by kernel_rfl,rfl,rfl⟩
def c34:VCode:=cof Tryz.f34
theorem Q8d:Fun Tryz.prog 34 c34 [.cell 2 true 3] 34:=⟨Tryz.f34,Tryz.func34,Q2 (by kernel_rfl),by kernel_rfl,rfl,rfl⟩
def c35:VCode:=cof Tryz.f35
theorem Q8j:Fun Tryz.prog 35 c35 [.tmp 2] 36:=⟨Tryz.f35,Tryz.func35,Q2 (by kernel_rfl),by kernel_rfl,rfl,rfl⟩
def c36:VCode:=cof Tryz.f36
theorem Z0b:Fun Tryz.prog 36 c36 [.tmp 2,.tmp 3] 34:=⟨Tryz.f36,Tryz.func36,Q2 (by kernel_rfl),by kernel_rfl,rfl,rfl⟩
def c37:VCode:=cof Tryz.f37
theorem Z0g:Fun Tryz.prog 37 c37 [.cell 2 false 1,.tmp 3] 44:=⟨Tryz.f37,Tryz.func37,Q2 (by kernel_rfl),by kernel_rfl,rfl,rfl⟩
def c38:VCode:=cof Tryz.f38
theorem Z0t:Fun Tryz.prog 38 c38 [.tmp 2] 78:=⟨Tryz.f38,Tryz.func38,Q2 (by kernel_rfl),by kernel_rfl,rfl,rfl⟩
def c39:VCode:=cof Tryz.f39
theorem Q9j:Fun Tryz.prog 39 c39 [.tmp 4] 63:=⟨Tryz.f39,Tryz.func39,Q2 (by kernel_rfl),by kernel_rfl,rfl,rfl⟩
def c40:VCode:=cof Tryz.f40
theorem Q8u:Fun Tryz.prog 40 c40 [.tmp 2] 5:=⟨Tryz.f40,Tryz.func40,Q2 (by kernel_rfl),by kernel_rfl,rfl,rfl⟩
def c41:VCode:=cof Tryz.f41
theorem Q9q:Fun Tryz.prog 41 c41 [.tmp 4] 27:=⟨Tryz.f41,Tryz.func41,Q2 (by kernel_rfl),by kernel_rfl,rfl,rfl⟩
def c42:VCode:=cof Tryz.f42
theorem Q9w:Fun Tryz.prog 42 c42 [.tmp 6,.tmp 7] 57:=⟨Tryz.f42,Tryz.func42,Q2 (by kernel_rfl),by kernel_rfl,rfl,rfl⟩
def c43:VCode:=cof Tryz.f43
theorem Q9a:Fun Tryz.prog 43 c43 [.tmp 2,.tmp 3] 45:=⟨Tryz.f43,Tryz.func43,Q2 (by kernel_rfl),by kernel_rfl,rfl,rfl⟩
def c44:VCode:=cof Tryz.f44
theorem Q9m:Fun Tryz.prog 44 c44 [.tmp 8] 46:=⟨Tryz.f44,Tryz.func44,Q2 (by kernel_rfl),by kernel_rfl,rfl,rfl⟩
def c45:VCode:=cof Tryz.f45
theorem Q92:Fun Tryz.prog 45 c45 [.tmp 4] 66:=⟨Tryz.f45,Tryz.func45,Q2 (by kernel_rfl),by kernel_rfl,rfl,rfl⟩
def c46:VCode:=cof Tryz.f46
theorem Q6t:Fun Tryz.prog 46 c46 [.cell 2 true 2] 50:=⟨Tryz.f46,Tryz.func46,Q2 (by kernel_rfl),by kernel_rfl,rfl,rfl⟩
def c47:VCode:=cof Tryz.f47
theorem Q6z:Fun Tryz.prog 47 c47 [.cell 2 true 2,.tmp 3] 54:=⟨Tryz.f47,Tryz.func47,Q2 (by kernel_rfl),by kernel_rfl,rfl,rfl⟩
def c48:VCode:=cof Tryz.f48
theorem Q7c:Fun Tryz.prog 48 c48 [.tmp 6,.tmp 7,.tmp 8] 58:=⟨Tryz.f48,Tryz.func48,Q2 (by kernel_rfl),by kernel_rfl,rfl,rfl⟩
def c49:VCode:=cof Tryz.f49
theorem Q57:Fun Tryz.prog 49 c49 [.tmp 4] 20:=⟨Tryz.f49,Tryz.func49,Q2 (by kernel_rfl),by kernel_rfl,rfl,rfl⟩
def c50:VCode:=cof Tryz.f50
theorem Q5m:Fun Tryz.prog 50 c50 [.tmp 4] 16:=⟨Tryz.f50,Tryz.func50,Q2 (by kernel_rfl),by kernel_rfl,rfl,rfl⟩
def c51:VCode:=cof Tryz.f51
theorem Z04:Fun Tryz.prog 51 c51 [.cell 2 true 2] 74:=⟨Tryz.f51,Tryz.func51,Q2 (by kernel_rfl),by kernel_rfl,rfl,rfl⟩
def c52:VCode:=cof Tryz.f52
theorem Z0j:Fun Tryz.prog 52 c52 [.tmp 4] 52:=⟨Tryz.f52,Tryz.func52,Q2 (by kernel_rfl),by kernel_rfl,rfl,rfl⟩
def c53:VCode:=cof Tryz.f53
theorem Z0x:Fun Tryz.prog 53 c53 [.cell 2 true 2] 37:=⟨Tryz.f53,Tryz.func53,Q2 (by kernel_rfl),by kernel_rfl,rfl,rfl⟩
def c54:VCode:=cof Tryz.f54
theorem Q8g:Fun Tryz.prog 54 c54 [.tmp 4,.tmp 5,.tmp 6,.tmp 7,.tmp 8] 91:=⟨Tryz.f54,Tryz.func54,Q2 (by kernel_rfl),by kernel_rfl,rfl,rfl⟩
def c55:VCode:=cof Tryz.f55
theorem Q9b:Fun Tryz.prog 55 c55 [.cell 2 true 3,.tmp 3] 165:=⟨Tryz.f55,Tryz.func55,Q2 (by kernel_rfl),by kernel_rfl,rfl,rfl⟩
def c56:VCode:=cof Tryz.f56
theorem Q8h:Fun Tryz.prog 56 c56 [.tmp 4] 37:=⟨Tryz.f56,Tryz.func56,Q2 (by kernel_rfl),by kernel_rfl,rfl,rfl⟩
def c57:VCode:=cof Tryz.f57
theorem Z0n:Fun Tryz.prog 57 c57 [.tmp 2] 11:=⟨Tryz.f57,Tryz.func57,Q2 (by kernel_rfl),by kernel_rfl,rfl,rfl⟩
def c58:VCode:=cof Tryz.f58
theorem Q9h:Fun Tryz.prog 58 c58 [.cell 2 true 2,.tmp 3] 54:=⟨Tryz.f58,Tryz.func58,Q2 (by kernel_rfl),by kernel_rfl,rfl,rfl⟩
def c59:VCode:=cof Tryz.f59
theorem Z03:Fun Tryz.prog 59 c59 [.tmp 6,.tmp 7,.tmp 8] 65:=⟨Tryz.f59,Tryz.func59,Q2 (by kernel_rfl),by kernel_rfl,rfl,rfl⟩
def c60:VCode:=cof Tryz.f60
theorem Z05:Fun Tryz.prog 60 c60 [.cell 0 true 2] 8:=⟨Tryz.f60,Tryz.func60,Q2 (by kernel_rfl),by kernel_rfl,rfl,rfl⟩
def c61:VCode:=cof Tryz.f61
theorem Z10:Fun Tryz.prog 61 c61 [.cell 2 true 3] 23:=⟨Tryz.f61,Tryz.func61,Q2 (by kernel_rfl),by kernel_rfl,rfl,rfl⟩
def c62:VCode:=cof Tryz.f62
theorem Q1n:Fun Tryz.prog 62 c62 [.cell 2 true 3,.tmp 3] 43:=⟨Tryz.f62,Tryz.func62,Q2 (by kernel_rfl),by kernel_rfl,rfl,rfl⟩
def c63:VCode:=cof Tryz.f63
theorem Q5f:Fun Tryz.prog 63 c63 [.tmp 4] 25:=⟨Tryz.f63,Tryz.func63,Q2 (by kernel_rfl),by kernel_rfl,rfl,rfl⟩
def c64:VCode:=cof Tryz.f64
theorem Q60:Fun Tryz.prog 64 c64 [.tmp 4] 12:=⟨Tryz.f64,Tryz.func64,Q2 (by kernel_rfl),by kernel_rfl,rfl,rfl⟩
def c65:VCode:=cof Tryz.f65
theorem Q59:Fun Tryz.prog 65 c65 [.tmp 2] 4:=⟨Tryz.f65,Tryz.func65,Q2 (by kernel_rfl),by kernel_rfl,rfl,rfl⟩
def c66:VCode:=cof Tryz.f66
theorem Q6x:Fun Tryz.prog 66 c66 [.tmp 4] 10:=⟨Tryz.f66,Tryz.func66,Q2 (by kernel_rfl),by kernel_rfl,rfl,rfl⟩
def c67:VCode:=cof Tryz.f67
theorem Q61:Fun Tryz.prog 67 c67 [.tmp 4] 20:=⟨Tryz.f67,Tryz.func67,Q2 (by kernel_rfl),by kernel_rfl,rfl,rfl⟩
def c68:VCode:=cof Tryz.f68
theorem Z0r:Fun Tryz.prog 68 c68 [.tmp 4] 14:=⟨Tryz.f68,Tryz.func68,Q2 (by kernel_rfl),by kernel_rfl,rfl,rfl⟩
def c69:VCode:=cof Tryz.f69
theorem Q8s:Fun Tryz.prog 69 c69 [.tmp 4] 26:=⟨Tryz.f69,Tryz.func69,Q2 (by kernel_rfl),by kernel_rfl,rfl,rfl⟩
def c70:VCode:=cof Tryz.f70
theorem Q8n:Fun Tryz.prog 70 c70 [.tmp 4] 55:=⟨Tryz.f70,Tryz.func70,Q2 (by kernel_rfl),by kernel_rfl,rfl,rfl⟩
def c71:VCode:=cof Tryz.f71
theorem Q8z:Fun Tryz.prog 71 c71 [.tmp 4] 41:=⟨Tryz.f71,Tryz.func71,Q2 (by kernel_rfl),by kernel_rfl,rfl,rfl⟩
def c72:VCode:=cof Tryz.f72
theorem Q9t:Fun Tryz.prog 72 c72 [.tmp 4] 33:=⟨Tryz.f72,Tryz.func72,Q2 (by kernel_rfl),by kernel_rfl,rfl,rfl⟩
def c73:VCode:=cof Tryz.f73
theorem Q5h:Fun Tryz.prog 73 c73 [.cell 4 true 4,.tmp 5] 33:=⟨Tryz.f73,Tryz.func73,Q2 (by kernel_rfl),by kernel_rfl,rfl,rfl⟩
def c74:VCode:=cof Tryz.f74
theorem Q9e:Fun Tryz.prog 74 c74 [.tmp 2] 70:=⟨Tryz.f74,Tryz.func74,Q2 (by kernel_rfl),by kernel_rfl,rfl,rfl⟩
def c75:VCode:=cof Tryz.f75
theorem Q9c:Fun Tryz.prog 75 c75 [.tmp 2] 25:=⟨Tryz.f75,Tryz.func75,Q2 (by kernel_rfl),by kernel_rfl,rfl,rfl⟩
def c76:VCode:=cof Tryz.f76
theorem Q82:Fun Tryz.prog 76 c76 [.tmp 4] 19:=⟨Tryz.f76,Tryz.func76,Q2 (by kernel_rfl),by kernel_rfl,rfl,rfl⟩
def c77:VCode:=cof Tryz.f77
theorem Q58:Fun Tryz.prog 77 c77 [.tmp 2] 5:=⟨Tryz.f77,Tryz.func77,Q2 (by kernel_rfl),by kernel_rfl,rfl,rfl⟩
def c78:VCode:=cof Tryz.f78
theorem Q5o:Fun Tryz.prog 78 c78 [.tmp 6] 15:=⟨Tryz.f78,Tryz.func78,Q2 (by kernel_rfl),by kernel_rfl,rfl,rfl⟩
def c79:VCode:=cof Tryz.f79
theorem Q5k:Fun Tryz.prog 79 c79 [.tmp 6,.tmp 7] 28:=⟨Tryz.f79,Tryz.func79,Q2 (by kernel_rfl),by kernel_rfl,rfl,rfl⟩
def c80:VCode:=cof Tryz.f80
theorem Q7a:Fun Tryz.prog 80 c80 [.tmp 2] 9:=⟨Tryz.f80,Tryz.func80,Q2 (by kernel_rfl),by kernel_rfl,rfl,rfl⟩
def c81:VCode:=cof Tryz.f81
theorem Q6e:Fun Tryz.prog 81 c81 [.tmp 2] 4:=⟨Tryz.f81,Tryz.func81,Q2 (by kernel_rfl),by kernel_rfl,rfl,rfl⟩
def c82:VCode:=cof Tryz.f82
theorem Z0s:Fun Tryz.prog 82 c82 [.tmp 4] 30:=⟨Tryz.f82,Tryz.func82,Q2 (by kernel_rfl),by kernel_rfl,rfl,rfl⟩
def c83:VCode:=cof Tryz.f83
theorem Q7z:Fun Tryz.prog 83 c83 [.tmp 4] 24:=⟨Tryz.f83,Tryz.func83,Q2 (by kernel_rfl),by kernel_rfl,rfl,rfl⟩
def c84:VCode:=cof Tryz.f84
theorem Z14:Fun Tryz.prog 84 c84 [.tmp 2] 7:=⟨Tryz.f84,Tryz.func84,Q2 (by kernel_rfl),by kernel_rfl,rfl,rfl⟩
def c85:VCode:=cof Tryz.f85
theorem Q9p:Fun Tryz.prog 85 c85 [.tmp 3] 9:=⟨Tryz.f85,Tryz.func85,Q2 (by kernel_rfl),by kernel_rfl,rfl,rfl⟩
def c86:VCode:=cof Tryz.f86
theorem Q5l:Fun Tryz.prog 86 c86 [.tmp 4] 16:=⟨Tryz.f86,Tryz.func86,Q2 (by kernel_rfl),by kernel_rfl,rfl,rfl⟩
def c87:VCode:=cof Tryz.f87
theorem Q6u:Fun Tryz.prog 87 c87 [.tmp 2] 6:=⟨Tryz.f87,Tryz.func87,Q2 (by kernel_rfl),by kernel_rfl,rfl,rfl⟩
def c88:VCode:=cof Tryz.f88
theorem Q6i:Fun Tryz.prog 88 c88 [.tmp 6] 11:=⟨Tryz.f88,Tryz.func88,Q2 (by kernel_rfl),by kernel_rfl,rfl,rfl⟩
def c89:VCode:=cof Tryz.f89
theorem Q95:Fun Tryz.prog 89 c89 [.tmp 4] 9:=⟨Tryz.f89,Tryz.func89,Q2 (by kernel_rfl),by kernel_rfl,rfl,rfl⟩
def c90:VCode:=cof Tryz.f90
theorem Q8t:Fun Tryz.prog 90 c90 [.cell 4 false 1] 39:=⟨Tryz.f90,Tryz.func90,Q2 (by kernel_rfl),by kernel_rfl,rfl,rfl⟩
def c91:VCode:=cof Tryz.f91
theorem Z0f:Fun Tryz.prog 91 c91 [.tmp 4] 76:=⟨Tryz.f91,Tryz.func91,Q2 (by kernel_rfl),by kernel_rfl,rfl,rfl⟩
def c92:VCode:=cof Tryz.f92
theorem Q8k:Fun Tryz.prog 92 c92 [.cell 6 false 1] 110:=⟨Tryz.f92,Tryz.func92,Q2 (by kernel_rfl),by kernel_rfl,rfl,rfl⟩
def c93:VCode:=cof Tryz.f93
theorem Q91:Fun Tryz.prog 93 c93 [.tmp 4] 26:=⟨Tryz.f93,Tryz.func93,Q2 (by kernel_rfl),by kernel_rfl,rfl,rfl⟩
def c94:VCode:=cof Tryz.f94
theorem Q8r:Fun Tryz.prog 94 c94 [.tmp 4] 19:=⟨Tryz.f94,Tryz.func94,Q2 (by kernel_rfl),by kernel_rfl,rfl,rfl⟩
def c95:VCode:=cof Tryz.f95
theorem Q80:Fun Tryz.prog 95 c95 [.tmp 6] 29:=⟨Tryz.f95,Tryz.func95,Q2 (by kernel_rfl),by kernel_rfl,rfl,rfl⟩
def c96:VCode:=cof Tryz.f96
theorem Q84:Fun Tryz.prog 96 c96 [.tmp 4] 9:=⟨Tryz.f96,Tryz.func96,Q2 (by kernel_rfl),by kernel_rfl,rfl,rfl⟩
def c97:VCode:=cof Tryz.f97
theorem Q83:Fun Tryz.prog 97 c97 [.tmp 2] 9:=⟨Tryz.f97,Tryz.func97,Q2 (by kernel_rfl),by kernel_rfl,rfl,rfl⟩
def c98:VCode:=cof Tryz.f98
theorem Z13:Fun Tryz.prog 98 c98 [.tmp 6] 88:=⟨Tryz.f98,Tryz.func98,Q2 (by kernel_rfl),by kernel_rfl,rfl,rfl⟩
def c99:VCode:=cof Tryz.f99
theorem Q96:Fun Tryz.prog 99 c99 [.tmp 4] 6:=⟨Tryz.f99,Tryz.func99,Q2 (by kernel_rfl),by kernel_rfl,rfl,rfl⟩
def Z37:VCode:=cof Tryz.f100
theorem Q3k:Fun Tryz.prog 100 Z37 [.tmp 4] 9:=⟨Tryz.f100,Tryz.func100,Q2 (by kernel_rfl),by kernel_rfl,rfl,rfl⟩
def Z2f:VCode:=cof Tryz.f101
theorem Q2a:Fun Tryz.prog 101 Z2f [.tmp 4] 23:=⟨Tryz.f101,Tryz.func101,Q2 (by kernel_rfl),by kernel_rfl,rfl,rfl⟩
def Z1p:VCode:=cof Tryz.f102
theorem FL:Fun Tryz.prog 102 Z1p [.tmp 4] 10:=⟨Tryz.f102,Tryz.func102,Q2 (by kernel_rfl),by kernel_rfl,rfl,rfl⟩
def Z1c:VCode:=cof Tryz.f103
theorem IN:Fun Tryz.prog 103 Z1c [.cell 2 true 3,.tmp 3] 30:=⟨Tryz.f103,Tryz.func103,Q2 (by kernel_rfl),by kernel_rfl,rfl,rfl⟩
def Z1u:VCode:=cof Tryz.f104
theorem Iq:Fun Tryz.prog 104 Z1u [.tmp 4] 26:=⟨Tryz.f104,Tryz.func104,Q2 (by kernel_rfl),by kernel_rfl,rfl,rfl⟩
def Z3a:VCode:=cof Tryz.f105
theorem Q4e:Fun Tryz.prog 105 Z3a [.tmp 4] 11:=⟨Tryz.f105,Tryz.func105,Q2 (by kernel_rfl),by kernel_rfl,rfl,rfl⟩
def Z2q:VCode:=cof Tryz.f106
theorem Q3t:Fun Tryz.prog 106 Z2q [.cell 2 true 3] 5:=⟨Tryz.f106,Tryz.func106,Q2 (by kernel_rfl),by kernel_rfl,rfl,rfl⟩
def Z15:VCode:=cof Tryz.f107
theorem Om:Fun Tryz.prog 107 Z15 [.cell 6 false 1] 73:=⟨Tryz.f107,Tryz.func107,Q2 (by kernel_rfl),by kernel_rfl,rfl,rfl⟩
def Z21:VCode:=cof Tryz.f108
theorem Ox:Fun Tryz.prog 108 Z21 [.tmp 2] 5:=⟨Tryz.f108,Tryz.func108,Q2 (by kernel_rfl),by kernel_rfl,rfl,rfl⟩
def Z3e:VCode:=cof Tryz.f109
theorem fun109:Fun Tryz.prog 109 Z3e [] 14:=⟨Tryz.f109,Tryz.func109,Q2 (by kernel_rfl),by kernel_rfl,rfl,rfl⟩
def Z1m:VCode:=cof Tryz.f110
theorem IK:Fun Tryz.prog 110 Z1m [] 16:=⟨Tryz.f110,Tryz.func110,Q2 (by kernel_rfl),by kernel_rfl,rfl,rfl⟩
def Z19:VCode:=cof Tryz.f111
theorem IX:Fun Tryz.prog 111 Z19 [.tmp 2] 6:=⟨Tryz.f111,Tryz.func111,Q2 (by kernel_rfl),by kernel_rfl,rfl,rfl⟩
def Z16:VCode:=cof Tryz.f112
theorem IJ:Fun Tryz.prog 112 Z16 [.tmp 3] 14:=⟨Tryz.f112,Tryz.func112,Q2 (by kernel_rfl),by kernel_rfl,rfl,rfl⟩
def Z1g:VCode:=cof Tryz.f113
theorem IG:Fun Tryz.prog 113 Z1g [.tmp 4] 9:=⟨Tryz.f113,Tryz.func113,Q2 (by kernel_rfl),by kernel_rfl,rfl,rfl⟩
def Z2t:VCode:=cof Tryz.f114
theorem Q40:Fun Tryz.prog 114 Z2t [.tmp 2] 4:=⟨Tryz.f114,Tryz.func114,Q2 (by kernel_rfl),by kernel_rfl,rfl,rfl⟩
def Z2u:VCode:=cof Tryz.f115
theorem Q4i:Fun Tryz.prog 115 Z2u [.tmp 4] 48:=⟨Tryz.f115,Tryz.func115,Q2 (by kernel_rfl),by kernel_rfl,rfl,rfl⟩
def Z1t:VCode:=cof Tryz.f116
theorem Ib:Fun Tryz.prog 116 Z1t [.tmp 6] 25:=⟨Tryz.f116,Tryz.func116,Q2 (by kernel_rfl),by kernel_rfl,rfl,rfl⟩
def Z39:VCode:=cof Tryz.f117
theorem Q42:Fun Tryz.prog 117 Z39 [] 28:=⟨Tryz.f117,Tryz.func117,Q2 (by kernel_rfl),by kernel_rfl,rfl,rfl⟩
def Z1w:VCode:=cof Tryz.f118
theorem IY:Fun Tryz.prog 118 Z1w [.tmp 4] 52:=⟨Tryz.f118,Tryz.func118,Q2 (by kernel_rfl),by kernel_rfl,rfl,rfl⟩
def Z1x:VCode:=cof Tryz.f119
theorem OS:Fun Tryz.prog 119 Z1x [.tmp 2] 5:=⟨Tryz.f119,Tryz.func119,Q2 (by kernel_rfl),by kernel_rfl,rfl,rfl⟩
def Z2h:VCode:=cof Tryz.f120
theorem fun120:Fun Tryz.prog 120 Z2h [] 11:=⟨Tryz.f120,Tryz.func120,Q2 (by kernel_rfl),by kernel_rfl,rfl,rfl⟩
def Z1e:VCode:=cof Tryz.f121
theorem Q04:Fun Tryz.prog 121 Z1e [] 14:=⟨Tryz.f121,Tryz.func121,Q2 (by kernel_rfl),by kernel_rfl,rfl,rfl⟩
def Z2e:VCode:=cof Tryz.f122
theorem Q46:Fun Tryz.prog 122 Z2e [.tmp 6] 79:=⟨Tryz.f122,Tryz.func122,Q2 (by kernel_rfl),by kernel_rfl,rfl,rfl⟩
def Z17:VCode:=cof Tryz.f123
theorem Oa:Fun Tryz.prog 123 Z17 [.tmp 3] 17:=⟨Tryz.f123,Tryz.func123,Q2 (by kernel_rfl),by kernel_rfl,rfl,rfl⟩
def Z1h:VCode:=cof Tryz.f124
theorem Ov:Fun Tryz.prog 124 Z1h [.tmp 4] 9:=⟨Tryz.f124,Tryz.func124,Q2 (by kernel_rfl),by kernel_rfl,rfl,rfl⟩
def Z1k:VCode:=cof Tryz.f125
theorem Ig:Fun Tryz.prog 125 Z1k [.tmp 4] 13:=⟨Tryz.f125,Tryz.func125,Q2 (by kernel_rfl),by kernel_rfl,rfl,rfl⟩
def Z4r:VCode:=cof Tryz.f126
theorem Q2x:Fun Tryz.prog 126 Z4r [.tmp 4] 19:=⟨Tryz.f126,Tryz.func126,Q2 (by kernel_rfl),by kernel_rfl,rfl,rfl⟩
def Z2j:VCode:=cof Tryz.f127
theorem Q37:Fun Tryz.prog 127 Z2j [.tmp 6] 8:=⟨Tryz.f127,Tryz.func127,Q2 (by kernel_rfl),by kernel_rfl,rfl,rfl⟩
def Z4d:VCode:=cof Tryz.f128
theorem Q2n:Fun Tryz.prog 128 Z4d [] 14:=⟨Tryz.f128,Tryz.func128,Q2 (by kernel_rfl),by kernel_rfl,rfl,rfl⟩
def Z48:VCode:=cof Tryz.f129
theorem Q2j:Fun Tryz.prog 129 Z48 [.tmp 4] 36:=⟨Tryz.f129,Tryz.func129,Q2 (by kernel_rfl),by kernel_rfl,rfl,rfl⟩
def Z2p:VCode:=cof Tryz.f130
theorem Q3e:Fun Tryz.prog 130 Z2p [.tmp 4] 66:=⟨Tryz.f130,Tryz.func130,Q2 (by kernel_rfl),by kernel_rfl,rfl,rfl⟩
def Z4l:VCode:=cof Tryz.f131
theorem Q30:Fun Tryz.prog 131 Z4l [.tmp 4] 26:=⟨Tryz.f131,Tryz.func131,Q2 (by kernel_rfl),by kernel_rfl,rfl,rfl⟩
def Z35:VCode:=cof Tryz.f132
theorem Q4m:Fun Tryz.prog 132 Z35 [.tmp 6] 22:=⟨Tryz.f132,Tryz.func132,Q2 (by kernel_rfl),by kernel_rfl,rfl,rfl⟩
def Z4a:VCode:=cof Tryz.f133
theorem Q35:Fun Tryz.prog 133 Z4a [.tmp 3] 12:=⟨Tryz.f133,Tryz.func133,Q2 (by kernel_rfl),by kernel_rfl,rfl,rfl⟩
def Z3s:VCode:=cof Tryz.f134
theorem Q2u:Fun Tryz.prog 134 Z3s [.tmp 4] 143:=⟨Tryz.f134,Tryz.func134,Q2 (by kernel_rfl),by kernel_rfl,rfl,rfl⟩
def Z44:VCode:=cof Tryz.f135
theorem Q4h:Fun Tryz.prog 135 Z44 [] 31:=⟨Tryz.f135,Tryz.func135,Q2 (by kernel_rfl),by kernel_rfl,rfl,rfl⟩
def Z26:VCode:=cof Tryz.f136
theorem Q29:Fun Tryz.prog 136 Z26 [.tmp 4] 19:=⟨Tryz.f136,Tryz.func136,Q2 (by kernel_rfl),by kernel_rfl,rfl,rfl⟩
def Z1f:VCode:=cof Tryz.f137
theorem FV:Fun Tryz.prog 137 Z1f [.tmp 4] 13:=⟨Tryz.f137,Tryz.func137,Q2 (by kernel_rfl),by kernel_rfl,rfl,rfl⟩
def Z1i:VCode:=cof Tryz.f138
theorem Ix:Fun Tryz.prog 138 Z1i [.tmp 4] 6:=⟨Tryz.f138,Tryz.func138,Q2 (by kernel_rfl),by kernel_rfl,rfl,rfl⟩
def Z18:VCode:=cof Tryz.f139
theorem OJ:Fun Tryz.prog 139 Z18 [.tmp 4] 13:=⟨Tryz.f139,Tryz.func139,Q2 (by kernel_rfl),by kernel_rfl,rfl,rfl⟩
def Z4t:VCode:=cof Tryz.f140
theorem Q2g:Fun Tryz.prog 140 Z4t [] 148:=⟨Tryz.f140,Tryz.func140,Q2 (by kernel_rfl),by kernel_rfl,rfl,rfl⟩
def Z3v:VCode:=cof Tryz.f141
theorem Q3x:Fun Tryz.prog 141 Z3v [.tmp 2] 8:=⟨Tryz.f141,Tryz.func141,Q2 (by kernel_rfl),by kernel_rfl,rfl,rfl⟩
def Z22:VCode:=cof Tryz.f142
theorem OM:Fun Tryz.prog 142 Z22 [.tmp 4] 19:=⟨Tryz.f142,Tryz.func142,Q2 (by kernel_rfl),by kernel_rfl,rfl,rfl⟩
def Z3h:VCode:=cof Tryz.f143
theorem Q3f:Fun Tryz.prog 143 Z3h [] 19:=⟨Tryz.f143,Tryz.func143,Q2 (by kernel_rfl),by kernel_rfl,rfl,rfl⟩
def Z3j:VCode:=cof Tryz.f144
theorem Q3q:Fun Tryz.prog 144 Z3j [.tmp 4,.tmp 5] 30:=⟨Tryz.f144,Tryz.func144,Q2 (by kernel_rfl),by kernel_rfl,rfl,rfl⟩
def Z24:VCode:=cof Tryz.f145
theorem Ot:Fun Tryz.prog 145 Z24 [] 39:=⟨Tryz.f145,Tryz.func145,Q2 (by kernel_rfl),by kernel_rfl,rfl,rfl⟩
def Z1b:VCode:=cof Tryz.f146
theorem II:Fun Tryz.prog 146 Z1b [.tmp 4] 13:=⟨Tryz.f146,Tryz.func146,Q2 (by kernel_rfl),by kernel_rfl,rfl,rfl⟩
def Z4f:VCode:=cof Tryz.f147
theorem Q4b:Fun Tryz.prog 147 Z4f [] 134:=⟨Tryz.f147,Tryz.func147,Q2 (by kernel_rfl),by kernel_rfl,rfl,rfl⟩
def Z1a:VCode:=cof Tryz.f148
theorem OY:Fun Tryz.prog 148 Z1a [.tmp 4] 19:=⟨Tryz.f148,Tryz.func148,Q2 (by kernel_rfl),by kernel_rfl,rfl,rfl⟩
def Z4h:VCode:=cof Tryz.f149
theorem Q47:Fun Tryz.prog 149 Z4h [] 45:=⟨Tryz.f149,Tryz.func149,Q2 (by kernel_rfl),by kernel_rfl,rfl,rfl⟩
def Z4s:VCode:=cof Tryz.f150
theorem Q4c:Fun Tryz.prog 150 Z4s [.tmp 8] 55:=⟨Tryz.f150,Tryz.func150,Q2 (by kernel_rfl),by kernel_rfl,rfl,rfl⟩
def Z42:VCode:=cof Tryz.f151
theorem Q3j:Fun Tryz.prog 151 Z42 [] 148:=⟨Tryz.f151,Tryz.func151,Q2 (by kernel_rfl),by kernel_rfl,rfl,rfl⟩
def Z2b:VCode:=cof Tryz.f152
theorem Q2o:Fun Tryz.prog 152 Z2b [.tmp 4] 18:=⟨Tryz.f152,Tryz.func152,Q2 (by kernel_rfl),by kernel_rfl,rfl,rfl⟩
def Z1z:VCode:=cof Tryz.f153
theorem ID:Fun Tryz.prog 153 Z1z [.tmp 2] 26:=⟨Tryz.f153,Tryz.func153,Q2 (by kernel_rfl),by kernel_rfl,rfl,rfl⟩
def Z1y:VCode:=cof Tryz.f154
theorem Ik:Fun Tryz.prog 154 Z1y [] 20:=⟨Tryz.f154,Tryz.func154,Q2 (by kernel_rfl),by kernel_rfl,rfl,rfl⟩
def Z46:VCode:=cof Tryz.f155
theorem Q3u:Fun Tryz.prog 155 Z46 [] 53:=⟨Tryz.f155,Tryz.func155,Q2 (by kernel_rfl),by kernel_rfl,rfl,rfl⟩
def Z30:VCode:=cof Tryz.f156
theorem Q3w:Fun Tryz.prog 156 Z30 [] 60:=⟨Tryz.f156,Tryz.func156,Q2 (by kernel_rfl),by kernel_rfl,rfl,rfl⟩
def Z3g:VCode:=cof Tryz.f157
theorem Q3n:Fun Tryz.prog 157 Z3g [] 67:=⟨Tryz.f157,Tryz.func157,Q2 (by kernel_rfl),by kernel_rfl,rfl,rfl⟩
def Z2k:VCode:=cof Tryz.f158
theorem Q2b:Fun Tryz.prog 158 Z2k [.tmp 8,.tmp 9] 63:=⟨Tryz.f158,Tryz.func158,Q2 (by kernel_rfl),by kernel_rfl,rfl,rfl⟩
def Z3x:VCode:=cof Tryz.f159
theorem Q4q:Fun Tryz.prog 159 Z3x [] 34:=⟨Tryz.f159,Tryz.func159,Q2 (by kernel_rfl),by kernel_rfl,rfl,rfl⟩
def Z2c:VCode:=cof Tryz.f160
theorem Q54:Fun Tryz.prog 160 Z2c [.tmp 8] 141:=⟨Tryz.f160,Tryz.func160,Q2 (by kernel_rfl),by kernel_rfl,rfl,rfl⟩
def Z2y:VCode:=cof Tryz.f161
theorem Q39:Fun Tryz.prog 161 Z2y [.tmp 10] 90:=⟨Tryz.f161,Tryz.func161,Q2 (by kernel_rfl),by kernel_rfl,rfl,rfl⟩
def Z36:VCode:=cof Tryz.f162
theorem Q53:Fun Tryz.prog 162 Z36 [.tmp 10,.tmp 11] 178:=⟨Tryz.f162,Tryz.func162,Q2 (by kernel_rfl),by kernel_rfl,rfl,rfl⟩
def Z3l:VCode:=cof Tryz.f163
theorem Q4x:Fun Tryz.prog 163 Z3l [.tmp 2] 19:=⟨Tryz.f163,Tryz.func163,Q2 (by kernel_rfl),by kernel_rfl,rfl,rfl⟩
def Z3m:VCode:=cof Tryz.f164
theorem Q3l:Fun Tryz.prog 164 Z3m [.tmp 2] 25:=⟨Tryz.f164,Tryz.func164,Q2 (by kernel_rfl),by kernel_rfl,rfl,rfl⟩
def Z3k:VCode:=cof Tryz.f165
theorem Q2q:Fun Tryz.prog 165 Z3k [.tmp 4,.tmp 5] 17:=⟨Tryz.f165,Tryz.func165,Q2 (by kernel_rfl),by kernel_rfl,rfl,rfl⟩
def Z40:VCode:=cof Tryz.f166
theorem Q4t:Fun Tryz.prog 166 Z40 [.tmp 4,.tmp 5] 51:=⟨Tryz.f166,Tryz.func166,Q2 (by kernel_rfl),by kernel_rfl,rfl,rfl⟩
def Z33:VCode:=cof Tryz.f167
theorem Q4a:Fun Tryz.prog 167 Z33 [] 49:=⟨Tryz.f167,Tryz.func167,Q2 (by kernel_rfl),by kernel_rfl,rfl,rfl⟩
def Z43:VCode:=cof Tryz.f168
theorem Q49:Fun Tryz.prog 168 Z43 [] 56:=⟨Tryz.f168,Tryz.func168,Q2 (by kernel_rfl),by kernel_rfl,rfl,rfl⟩
def Z3p:VCode:=cof Tryz.f169
theorem Q31:Fun Tryz.prog 169 Z3p [] 65:=⟨Tryz.f169,Tryz.func169,Q2 (by kernel_rfl),by kernel_rfl,rfl,rfl⟩
def Z2w:VCode:=cof Tryz.f170
theorem Q3p:Fun Tryz.prog 170 Z2w [.tmp 6,.tmp 7] 57:=⟨Tryz.f170,Tryz.func170,Q2 (by kernel_rfl),by kernel_rfl,rfl,rfl⟩
def Z27:VCode:=cof Tryz.f171
theorem Q2l:Fun Tryz.prog 171 Z27 [] 32:=⟨Tryz.f171,Tryz.func171,Q2 (by kernel_rfl),by kernel_rfl,rfl,rfl⟩
def Z3z:VCode:=cof Tryz.f172
theorem Q36:Fun Tryz.prog 172 Z3z [.tmp 6] 133:=⟨Tryz.f172,Tryz.func172,Q2 (by kernel_rfl),by kernel_rfl,rfl,rfl⟩
def Z3t:VCode:=cof Tryz.f173
theorem Q4s:Fun Tryz.prog 173 Z3t [.tmp 4] 17:=⟨Tryz.f173,Tryz.func173,Q2 (by kernel_rfl),by kernel_rfl,rfl,rfl⟩
def Z2v:VCode:=cof Tryz.f174
theorem Q4k:Fun Tryz.prog 174 Z2v [.tmp 8] 84:=⟨Tryz.f174,Tryz.func174,Q2 (by kernel_rfl),by kernel_rfl,rfl,rfl⟩
def Z29:VCode:=cof Tryz.f175
theorem Q3m:Fun Tryz.prog 175 Z29 [.tmp 8,.tmp 9] 168:=⟨Tryz.f175,Tryz.func175,Q2 (by kernel_rfl),by kernel_rfl,rfl,rfl⟩
def Z3f:VCode:=cof Tryz.f176
theorem Q51:Fun Tryz.prog 176 Z3f [] 53:=⟨Tryz.f176,Tryz.func176,Q2 (by kernel_rfl),by kernel_rfl,rfl,rfl⟩
def Z45:VCode:=cof Tryz.f177
theorem Q2i:Fun Tryz.prog 177 Z45 [] 60:=⟨Tryz.f177,Tryz.func177,Q2 (by kernel_rfl),by kernel_rfl,rfl,rfl⟩
def Z47:VCode:=cof Tryz.f178
theorem Q3g:Fun Tryz.prog 178 Z47 [] 67:=⟨Tryz.f178,Tryz.func178,Q2 (by kernel_rfl),by kernel_rfl,rfl,rfl⟩
def Z2r:VCode:=cof Tryz.f179
theorem Q4y:Fun Tryz.prog 179 Z2r [.tmp 8,.tmp 9] 63:=⟨Tryz.f179,Tryz.func179,Q2 (by kernel_rfl),by kernel_rfl,rfl,rfl⟩
def Z3i:VCode:=cof Tryz.f180
theorem Q44:Fun Tryz.prog 180 Z3i [] 34:=⟨Tryz.f180,Tryz.func180,Q2 (by kernel_rfl),by kernel_rfl,rfl,rfl⟩
def Z2a:VCode:=cof Tryz.f181
theorem Q2r:Fun Tryz.prog 181 Z2a [.tmp 8] 141:=⟨Tryz.f181,Tryz.func181,Q2 (by kernel_rfl),by kernel_rfl,rfl,rfl⟩
def Z31:VCode:=cof Tryz.f182
theorem Q2v:Fun Tryz.prog 182 Z31 [.tmp 10] 90:=⟨Tryz.f182,Tryz.func182,Q2 (by kernel_rfl),by kernel_rfl,rfl,rfl⟩
def Z4j:VCode:=cof Tryz.f183
theorem Q34:Fun Tryz.prog 183 Z4j [.tmp 10,.tmp 11] 178:=⟨Tryz.f183,Tryz.func183,Q2 (by kernel_rfl),by kernel_rfl,rfl,rfl⟩
def Z1s:VCode:=cof Tryz.f184
theorem Q01:Fun Tryz.prog 184 Z1s [.tmp 2] 22:=⟨Tryz.f184,Tryz.func184,Q2 (by kernel_rfl),by kernel_rfl,rfl,rfl⟩
def Z41:VCode:=cof Tryz.f185
theorem Q3s:Fun Tryz.prog 185 Z41 [] 82:=⟨Tryz.f185,Tryz.func185,Q2 (by kernel_rfl),by kernel_rfl,rfl,rfl⟩
def Z38:VCode:=cof Tryz.f186
theorem Q3c:Fun Tryz.prog 186 Z38 [.tmp 2] 7:=⟨Tryz.f186,Tryz.func186,Q2 (by kernel_rfl),by kernel_rfl,rfl,rfl⟩
def Z4u:VCode:=cof Tryz.f187
theorem Q4p:Fun Tryz.prog 187 Z4u [.tmp 2] 33:=⟨Tryz.f187,Tryz.func187,Q2 (by kernel_rfl),by kernel_rfl,rfl,rfl⟩
def Z3b:VCode:=cof Tryz.f188
theorem Q4j:Fun Tryz.prog 188 Z3b [.tmp 8] 18:=⟨Tryz.f188,Tryz.func188,Q2 (by kernel_rfl),by kernel_rfl,rfl,rfl⟩
def Z2n:VCode:=cof Tryz.f189
theorem Q50:Fun Tryz.prog 189 Z2n [.tmp 12] 41:=⟨Tryz.f189,Tryz.func189,Q2 (by kernel_rfl),by kernel_rfl,rfl,rfl⟩
def Z3y:VCode:=cof Tryz.f190
theorem Q3r:Fun Tryz.prog 190 Z3y [] 76:=⟨Tryz.f190,Tryz.func190,Q2 (by kernel_rfl),by kernel_rfl,rfl,rfl⟩
def Z4m:VCode:=cof Tryz.f191
theorem Q33:Fun Tryz.prog 191 Z4m [.tmp 6] 15:=⟨Tryz.f191,Tryz.func191,Q2 (by kernel_rfl),by kernel_rfl,rfl,rfl⟩
def Z4o:VCode:=cof Tryz.f192
theorem Q4r:Fun Tryz.prog 192 Z4o [.tmp 10] 36:=⟨Tryz.f192,Tryz.func192,Q2 (by kernel_rfl),by kernel_rfl,rfl,rfl⟩
def Z3d:VCode:=cof Tryz.f193
theorem Q4w:Fun Tryz.prog 193 Z3d [] 82:=⟨Tryz.f193,Tryz.func193,Q2 (by kernel_rfl),by kernel_rfl,rfl,rfl⟩
def Z4q:VCode:=cof Tryz.f194
theorem Q3i:Fun Tryz.prog 194 Z4q [.tmp 8] 18:=⟨Tryz.f194,Tryz.func194,Q2 (by kernel_rfl),by kernel_rfl,rfl,rfl⟩
def Z2d:VCode:=cof Tryz.f195
theorem Q4g:Fun Tryz.prog 195 Z2d [.tmp 12] 41:=⟨Tryz.f195,Tryz.func195,Q2 (by kernel_rfl),by kernel_rfl,rfl,rfl⟩
def Z4p:VCode:=cof Tryz.f196
theorem Q2s:Fun Tryz.prog 196 Z4p [.tmp 10,.tmp 11] 32:=⟨Tryz.f196,Tryz.func196,Q2 (by kernel_rfl),by kernel_rfl,rfl,rfl⟩
def Z34:VCode:=cof Tryz.f197
theorem Q2t:Fun Tryz.prog 197 Z34 [.tmp 8,.tmp 9] 28:=⟨Tryz.f197,Tryz.func197,Q2 (by kernel_rfl),by kernel_rfl,rfl,rfl⟩
def Z2i:VCode:=cof Tryz.f198
theorem Q48:Fun Tryz.prog 198 Z2i [.tmp 10,.tmp 11] 32:=⟨Tryz.f198,Tryz.func198,Q2 (by kernel_rfl),by kernel_rfl,rfl,rfl⟩
end Go.Proofs.Tryz
namespace Go.Proofs.Tryz
open Go Go.V
def Z58:List (Option FEnt):=[
 none,
 none,
 some (.code c2 [] 1),
 some (.code c3 [.tmp 2] 84),
 some (.code c4 [.tmp 4] 203),
 some (.code c5 [.tmp 2] 92),
 some (.code c6 [.tmp 6] 129),
 some (.code c7 [.tmp 4] 283),
 some (.code c8 [.tmp 6] 207),
 some (.code c9 [.tmp 2] 249),
 some (.code c10 [.tmp 6] 205),
 some (.code c11 [.tmp 2] 265),
 some (.code c12 [.tmp 4] 132),
 some (.code c13 [.tmp 4] 228),
 some (.code c14 [.tmp 6] 133),
 some (.code c15 [.tmp 0] 226),
 some (.code c16 [.cell 2 true 2] 9),
 some (.codeJ c17 [.tmp 2,.tmp 3] 49),
 some (.codeJ c18 [.cell 2 true 2,.tmp 3] 34),
 some (.code c19 [.tmp 2] 32),
 some (.code c20 [.tmp 2] 45),
 some (.code c21 [.tmp 4] 17),
 some (.code c22 [.tmp 4] 26),
 some (.code c23 [.tmp 2] 74),
 some (.code c24 [.cell 2 true 2] 44),
 some (.code c25 [.tmp 2] 6),
 some (.codeJ c26 [.tmp 4,.tmp 5,.tmp 6,.tmp 7] 79),
 some (.codeJ c27 [.tmp 6,.tmp 7] 29),
 some (.codeJ c28 [.tmp 6,.tmp 7] 33),
 some (.code c29 [.tmp 4] 15),
 some (.code c30 [.tmp 6] 15),
 some (.code c31 [.cell 4 true 4,.tmp 5] 41),
 some (.code c32 [.tmp 6,.tmp 7] 60),
 some (.code c33 [.tmp 2] 37),
 some (.code c34 [.cell 2 true 3] 34),
 some (.code c35 [.tmp 2] 36),
 some (.codeJ c36 [.tmp 2,.tmp 3] 34),
 some (.codeJ c37 [.cell 2 false 1,.tmp 3] 44),
 some (.code c38 [.tmp 2] 78),
 some (.code c39 [.tmp 4] 63),
 some (.code c40 [.tmp 2] 5),
 some (.code c41 [.tmp 4] 27),
 some (.codeJ c42 [.tmp 6,.tmp 7] 57),
 some (.codeJ c43 [.tmp 2,.tmp 3] 45),
 some (.code c44 [.tmp 8] 46),
 some (.code c45 [.tmp 4] 66),
 some (.code c46 [.cell 2 true 2] 50),
 some (.codeJ c47 [.cell 2 true 2,.tmp 3] 54),
 some (.codeJ c48 [.tmp 6,.tmp 7,.tmp 8] 58),
 some (.code c49 [.tmp 4] 20),
 some (.code c50 [.tmp 4] 16),
 some (.code c51 [.cell 2 true 2] 74),
 some (.code c52 [.tmp 4] 52),
 some (.code c53 [.cell 2 true 2] 37),
 some (.code c54 [.tmp 4,.tmp 5,.tmp 6,.tmp 7,.tmp 8] 91),
 some (.code c55 [.cell 2 true 3,.tmp 3] 165),
 some (.code c56 [.tmp 4] 37),
 some (.code c57 [.tmp 2] 11),
 some (.code c58 [.cell 2 true 2,.tmp 3] 54),
 some (.code c59 [.tmp 6,.tmp 7,.tmp 8] 65),
 some (.code c60 [.cell 0 true 2] 8),
 some (.code c61 [.cell 2 true 3] 23),
 some (.code c62 [.cell 2 true 3,.tmp 3] 43),
 some (.code c63 [.tmp 4] 25),
 some (.code c64 [.tmp 4] 12),
 some (.code c65 [.tmp 2] 4),
 some (.code c66 [.tmp 4] 10),
 some (.code c67 [.tmp 4] 20),
 some (.code c68 [.tmp 4] 14),
 some (.code c69 [.tmp 4] 26),
 some (.code c70 [.tmp 4] 55),
 some (.code c71 [.tmp 4] 41),
 some (.code c72 [.tmp 4] 33),
 some (.code c73 [.cell 4 true 4,.tmp 5] 33),
 some (.code c74 [.tmp 2] 70),
 some (.code c75 [.tmp 2] 25),
 some (.code c76 [.tmp 4] 19),
 some (.code c77 [.tmp 2] 5),
 some (.code c78 [.tmp 6] 15),
 some (.code c79 [.tmp 6,.tmp 7] 28),
 some (.code c80 [.tmp 2] 9),
 some (.code c81 [.tmp 2] 4),
 some (.code c82 [.tmp 4] 30),
 some (.code c83 [.tmp 4] 24),
 some (.code c84 [.tmp 2] 7),
 some (.code c85 [.tmp 3] 9),
 some (.code c86 [.tmp 4] 16),
 some (.code c87 [.tmp 2] 6),
 some (.code c88 [.tmp 6] 11),
 some (.code c89 [.tmp 4] 9),
 some (.code c90 [.cell 4 false 1] 39),
 some (.code c91 [.tmp 4] 76),
 some (.code c92 [.cell 6 false 1] 110),
 some (.code c93 [.tmp 4] 26),
 some (.code c94 [.tmp 4] 19),
 some (.code c95 [.tmp 6] 29),
 some (.code c96 [.tmp 4] 9),
 some (.code c97 [.tmp 2] 9),
 some (.code c98 [.tmp 6] 88),
 some (.code c99 [.tmp 4] 6),
 some (.code Z37 [.tmp 4] 9),
 some (.code Z2f [.tmp 4] 23),
 some (.code Z1p [.tmp 4] 10),
 some (.code Z1c [.cell 2 true 3,.tmp 3] 30),
 some (.code Z1u [.tmp 4] 26),
 some (.code Z3a [.tmp 4] 11),
 some (.code Z2q [.cell 2 true 3] 5),
 some (.code Z15 [.cell 6 false 1] 73),
 some (.code Z21 [.tmp 2] 5),
 some (.code Z3e [] 14),
 some (.code Z1m [] 16),
 some (.code Z19 [.tmp 2] 6),
 some (.code Z16 [.tmp 3] 14),
 some (.code Z1g [.tmp 4] 9),
 some (.code Z2t [.tmp 2] 4),
 some (.code Z2u [.tmp 4] 48),
 some (.code Z1t [.tmp 6] 25),
 some (.code Z39 [] 28),
 some (.code Z1w [.tmp 4] 52),
 some (.code Z1x [.tmp 2] 5),
 some (.code Z2h [] 11),
 some (.code Z1e [] 14),
 some (.code Z2e [.tmp 6] 79),
 some (.code Z17 [.tmp 3] 17),
 some (.code Z1h [.tmp 4] 9),
 some (.code Z1k [.tmp 4] 13),
 some (.code Z4r [.tmp 4] 19),
 some (.code Z2j [.tmp 6] 8),
 some (.code Z4d [] 14),
 some (.code Z48 [.tmp 4] 36),
 some (.code Z2p [.tmp 4] 66),
 some (.code Z4l [.tmp 4] 26),
 some (.code Z35 [.tmp 6] 22),
 some (.code Z4a [.tmp 3] 12),
 some (.code Z3s [.tmp 4] 143),
 some (.code Z44 [] 31),
 some (.code Z26 [.tmp 4] 19),
 some (.code Z1f [.tmp 4] 13),
 some (.code Z1i [.tmp 4] 6),
 some (.code Z18 [.tmp 4] 13),
 some (.code Z4t [] 148),
 some (.code Z3v [.tmp 2] 8),
 some (.code Z22 [.tmp 4] 19),
 some (.code Z3h [] 19),
 some (.code Z3j [.tmp 4,.tmp 5] 30),
 some (.code Z24 [] 39),
 some (.code Z1b [.tmp 4] 13),
 some (.code Z4f [] 134),
 some (.code Z1a [.tmp 4] 19),
 some (.code Z4h [] 45),
 some (.code Z4s [.tmp 8] 55),
 some (.code Z42 [] 148),
 some (.code Z2b [.tmp 4] 18),
 some (.code Z1z [.tmp 2] 26),
 some (.code Z1y [] 20),
 some (.code Z46 [] 53),
 some (.code Z30 [] 60),
 some (.code Z3g [] 67),
 some (.code Z2k [.tmp 8,.tmp 9] 63),
 some (.code Z3x [] 34),
 some (.code Z2c [.tmp 8] 141),
 some (.code Z2y [.tmp 10] 90),
 some (.code Z36 [.tmp 10,.tmp 11] 178),
 some (.code Z3l [.tmp 2] 19),
 some (.code Z3m [.tmp 2] 25),
 some (.code Z3k [.tmp 4,.tmp 5] 17),
 some (.code Z40 [.tmp 4,.tmp 5] 51),
 some (.code Z33 [] 49),
 some (.code Z43 [] 56),
 some (.code Z3p [] 65),
 some (.code Z2w [.tmp 6,.tmp 7] 57),
 some (.code Z27 [] 32),
 some (.code Z3z [.tmp 6] 133),
 some (.code Z3t [.tmp 4] 17),
 some (.code Z2v [.tmp 8] 84),
 some (.code Z29 [.tmp 8,.tmp 9] 168),
 some (.code Z3f [] 53),
 some (.code Z45 [] 60),
 some (.code Z47 [] 67),
 some (.code Z2r [.tmp 8,.tmp 9] 63),
 some (.code Z3i [] 34),
 some (.code Z2a [.tmp 8] 141),
 some (.code Z31 [.tmp 10] 90),
 some (.code Z4j [.tmp 10,.tmp 11] 178),
 some (.code Z1s [.tmp 2] 22),
 some (.code Z41 [] 82),
 some (.code Z38 [.tmp 2] 7),
 some (.code Z4u [.tmp 2] 33),
 some (.code Z3b [.tmp 8] 18),
 some (.code Z2n [.tmp 12] 41),
 some (.code Z3y [] 76),
 some (.code Z4m [.tmp 6] 15),
 some (.code Z4o [.tmp 10] 36),
 some (.code Z3d [] 82),
 some (.code Z4q [.tmp 8] 18),
 some (.code Z2d [.tmp 12] 41),
 some (.code Z4p [.tmp 10,.tmp 11] 32),
 some (.code Z34 [.tmp 8,.tmp 9] 28),
 some (.code Z2i [.tmp 10,.tmp 11] 32)]
def O1:Tab:=λf=>(Z58[f]?).join
theorem Q6n:EntsOk Tryz.prog 0 Z58:=⟨trivial,trivial,Z56,Z51,Z52,Z5c,Z5u,fun7,Z57,Z53,Z00,Z0k,Q9y,Z0i,Q9u,Q76,Q5y,Q66,Q5s,Z0p,Q8w,Q97,Q7x,Q98,Q7y,Q5g,Q8x,Q7b,Q6p,Z11,Q9g,Z0y,Q8f,Q99,Q8d,Q8j,Z0b,Z0g,Z0t,Q9j,Q8u,Q9q,Q9w,Q9a,Q9m,Q92,Q6t,Q6z,Q7c,Q57,Q5m,Z04,Z0j,Z0x,Q8g,Q9b,Q8h,Z0n,Q9h,Z03,Z05,Z10,Q1n,Q5f,Q60,Q59,Q6x,Q61,Z0r,Q8s,Q8n,Q8z,Q9t,Q5h,Q9e,Q9c,Q82,Q58,Q5o,Q5k,Q7a,Q6e,Z0s,Q7z,Z14,Q9p,Q5l,Q6u,Q6i,Q95,Q8t,Z0f,Q8k,Q91,Q8r,Q80,Q84,Q83,Z13,Q96,Q3k,Q2a,FL,IN,Iq,Q4e,Q3t,Om,Ox,fun109,IK,IX,IJ,IG,Q40,Q4i,Ib,Q42,IY,OS,fun120,Q04,Q46,Oa,Ov,Ig,Q2x,Q37,Q2n,Q2j,Q3e,Q30,Q4m,Q35,Q2u,Q4h,Q29,FV,Ix,OJ,Q2g,Q3x,OM,Q3f,Q3q,Ot,II,Q4b,OY,Q47,Q4c,Q3j,Q2o,ID,Ik,Q3u,Q3w,Q3n,Q2b,Q4q,Q54,Q39,Q53,Q4x,Q3l,Q2q,Q4t,Q4a,Q49,Q31,Q3p,Q2l,Q36,Q4s,Q4k,Q3m,Q51,Q2i,Q3g,Q4y,Q44,Q2r,Q2v,Q34,Q01,Q3s,Q3c,Q4p,Q4j,Q50,Q3r,Q33,Q4r,Q4w,Q3i,Q4g,Q2s,Q2t,Q48,trivial⟩
theorem Ht:TabOk Tryz.prog O1:=Ab Q6n
end Go.Proofs.Tryz