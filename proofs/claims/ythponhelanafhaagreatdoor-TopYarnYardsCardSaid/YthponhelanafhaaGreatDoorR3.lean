/- A framework for walks, contracts of functions, and their proofs: part 3. -/
import Derived.Test.YthponhelanafhaaGreatDoorProg
import Derived.Laws.Closers25b
import Derived.Test.YthponhelanafhaaGreatDoorR2
namespace Go.V
open Go
structure FRel (e:ET) (env:Env):Prop where
 m:e.m=List.length env
 sm:e.m≤1000000
 get:∀ i,env.getD i undef=e.get i
theorem ET.get_lt {e:ET}{i:Nat}(hi:i<e.m):e.get i=e.t.get undef i:=by unfold ET.get;rw[show Nat.blt i e.m=true from Nat.ble_eq_true_of_le hi]
theorem ET.get_ge {e:ET}{i:Nat}(hi:e.m≤i):e.get i=undef:=by
 unfold ET.get;cases hb:Nat.blt i e.m with
 |false=>rfl
 |true=>have:=Nat.le_of_ble_eq_true hb;omega
theorem ET.set_lt {e:ET}{i:Nat}{v:Value}(hi:i<e.m):e.set i v=⟨e.t.set undef 32 i v,e.m⟩:=by unfold ET.set;rw[show Nat.blt i e.m=true from Nat.ble_eq_true_of_le hi]
theorem ET.set_ge {e:ET}{i:Nat}{v:Value}(hi:e.m≤i):e.set i v=e:=by
 unfold ET.set;cases hb:Nat.blt i e.m with
 |false=>rfl
 |true=>have:=Nat.le_of_ble_eq_true hb;omega
theorem ET.set_m (e:ET) (i:Nat) (v:Value):(e.set i v).m=e.m:=by
 rcases Nat.lt_or_ge i e.m with h|h
 ·rw[ET.set_lt h]
 ·rw[ET.set_ge h]
theorem ET.get_set {e:ET}(hs:e.m≤1000000) (i:Nat) (v:Value) (j:Nat):(e.set i v).get j=if j=i∧i<e.m then v else e.get j:=by
 rcases Nat.lt_or_ge i e.m with hi|hi
 ·rw[ET.set_lt hi];rcases Nat.lt_or_ge j e.m with hj|hj
  ·rw[ET.get_lt (e:=⟨e.t.set undef 32 i v,e.m⟩) hj,ET.get_lt hj];show (e.t.set undef 32 i v).get undef j=_;rw[GT.get_set undef 32 _ _ _ _ (by omega)];by_cases h:j=i
   ·rw[if_pos h,if_pos ⟨h,hi⟩]
   ·rw[if_neg h,if_neg (fun e=>h e.1)]
  ·rw[ET.get_ge (e:=⟨e.t.set undef 32 i v,e.m⟩) hj,ET.get_ge hj,if_neg (by rintro⟨rfl,_⟩;omega)]
 ·rw[ET.set_ge hi,if_neg (by rintro⟨_,h⟩;omega)]
theorem FRel.set {e:ET}{env:Env}(h:FRel e env) (i:Nat) (v:Value):FRel (e.set i v) (env.set i v):=by
 refine⟨by rw[ET.set_m,List.length_set];exact h.m,by rw[ET.set_m];exact h.sm,fun j=>?_⟩;rw[ET.get_set h.sm,←h.get,List.getD_eq_getElem?_getD,List.getD_eq_getElem?_getD,List.getElem?_set,h.m];by_cases bZ:i=j
 ·subst bZ;rcases Nat.lt_or_ge i (List.length env) with hi|hi
  ·rw[if_pos rfl,if_pos hi,if_pos ⟨rfl,hi⟩];rfl
  ·rw[if_pos rfl,if_neg (by omega),if_neg (by rintro⟨_,h⟩;omega),List.getElem?_eq_none hi]
 ·rw[if_neg bZ,if_neg (fun e=>bZ e.1.symm)]
theorem FRel.put {e:ET}{env:Env}(h:FRel e env) (d:Option Nat) (v:Value):FRel (e.put d v) (X3 env d v):=by
 cases d with
 |none=>exact h
 |some d=>exact h.set d v
theorem Hg {e:ET}{env:Env}(h:FRel e env):MM e=Q2 env:=by
 funext x
 cases x with
 |tmp t=>exact(h.get t).symm
 |_=>rfl
theorem As {e:ET}{env:Env}(h:FRel e env) (g:Option (Nat×Bool)):O7 e g=J2 env g:=by
 cases g with
 |none=>rfl
 |some p =>obtain⟨d,w⟩:=p;simp only[O7,J2,h.get];cases e.get d<;>rfl
theorem R9:∀ (ps:List Nat) (vs:List Value) {e:ET}{env:Env},FRel e env→FRel (Q0v e ps vs) (HL env ps vs)
 |[],vs,e,env,h=>by cases vs<;>exact h
 |p::ps,[],e,env,h=>h
 |p::ps,v::vs,e,env,h=>R9 ps vs (h.set p v)
theorem IU:∀ (l:List Value) (i:Nat) (t:GT Value) (j:Nat),i+l.length≤1000000→(etL l i t).get undef j=if i≤j∧j<i+l.length then l.getD (j-i) undef else t.get undef j
 |[],i,t,j,_=>by rw[if_neg (by simp only[List.length_nil];omega)];rfl
 |v::l,i,t,j,h=>by
  have h:i+(l.length+1)≤1000000:=h;show (etL l (i+1) (t.set undef 32 i v)).get undef j=_;rw[IU l (i+1) _ j (by omega),GT.get_set undef 32 _ _ _ _ (by omega)];by_cases aI:j=i
  ·subst aI;rw[if_neg (by omega),if_pos rfl,if_pos (by simp)];simp
  ·by_cases hc:i+1≤j∧j<i+1+l.length
   ·rw[if_pos hc,if_pos (by simp;omega),show j-i=j-(i+1)+1 by omega];rfl
   ·rw[if_neg hc,if_neg aI,if_neg (by simp;omega)]
theorem ET.of_rel {args:List Value}{nt:Nat}(h:(ET.of args nt).m≤1000000):FRel (ET.of args nt) (args++List.replicate (nt-args.length) undef):=by
 refine⟨by simp[ET.of],h,fun i=>?_⟩;have hm:(ET.of args nt).m=args.length+(nt-args.length):=rfl;rw[hm] at h;rcases Nat.lt_or_ge i (ET.of args nt).m with hi|hi
 ·rw[ET.get_lt hi];show _=(etL args 0 .nil).get undef i;rw[IU _ _ _ _ (by omega),List.getD_eq_getElem?_getD,List.getElem?_append];rw[hm] at hi;by_cases hl:i<args.length
  ·rw[if_pos hl,if_pos (by omega)];simp[List.getD_eq_getElem?_getD]
  ·rw[if_neg hl,if_neg (by omega),List.getElem?_replicate,if_pos (by omega)];rfl
 ·rw[ET.get_ge hi];rw[hm] at hi;rw[List.getD_eq_getElem?_getD,List.getElem?_eq_none (by simp;omega)];rfl
def FA (P:Program) (f:FuncId) (m:Memo):Prop :=
 VCalled P f m.args (XS m.bl []) (fun u τ=>u=m.v∧τ=XS m.bl m.fr)∧(∀ b∈m.bl,b.c.all QO=true)∧∀ b∈m.fr,b.c.all QO=true
structure TabOk (P:Program) (T:Tab):Prop where
 code:∀ f vc rs nt,T f=some (.code vc rs nt)→Fun P f vc rs nt
 codeJ:∀ f vc rs nt,T f=some (.codeJ vc rs nt)→Fun P f vc rs nt
 codeM:∀ f vc rs nt ms,T f=some (.codeM vc rs nt ms)→Fun P f vc rs nt∧∀ m∈ms,FA P f m
 same:∀ f,T f=some .same→∀ (v:Value) (σ:Heap) (K:Value→Heap→Prop),K v σ→VCalled P f [v] σ K
section
variable {P:Program}{T:Tab}{ev:Q2x}
abbrev Uk:=Nat→Env×Loop
def YOk (P:Program) (ys:Ys) (rs:Uk) (n:Nat):Prop :=
 ∀ i c,ys.find i=some c→i<n∧FRel c.env (rs i).1∧KZ P i (AV (vwp (Q1 P) c.a (some i)) (vwp (Q1 P) c.b (some i)) c.ps (rs i).1 (rs i).2 i)
theorem YOk.mono {ys:Ys}{rs bj:Uk}{n n':Nat}(h:YOk P ys rs n) (hn:n≤n') (hr:∀ i,i<n→bj i=rs i):YOk P ys bj n':=fun i c hc=>by obtain⟨h1,h2,h3⟩:=h i c hc;rw[hr i h1];exact⟨by omega,h2,h3⟩
def Q2t {A:Type}(G:A→Prop) (rs:Uk) (h:CH) (k:Value→CH→A) (K:Value→Heap→Prop):Prop :=
 ∀ v h' bj σ',h.n≤h'.n→(∀ i,i<h.n→bj i=rs i)→CSim bj h' σ'→G (k v h')→K v σ'
def Q0g {A:Type}(G:A→Prop) (rs:Uk) (h:CH) (m:Nat) (k:Exit→ET→CH→A) (Q:Exit→Env→Heap→Prop):Prop :=
 ∀ e dg h' bj σ' ae,h.n≤h'.n→(∀ i,i<h.n→bj i=rs i)→CSim bj h' σ'→FRel dg ae→List.length ae=m→G (k e dg h')→Q e ae σ'
def Oj {A:Type}(G:A→Prop) (rs:Uk) (h:CH) (m:Nat) (k:ET→CH→A) (K:Env→Heap→Prop):Prop :=
 ∀ dg h' bj σ' ae,h.n≤h'.n→(∀ i,i<h.n→bj i=rs i)→CSim bj h' σ'→FRel dg ae→List.length ae=m→G (k dg h')→K ae σ'
def Sd (P:Program) (ev:Q2x):Prop:=∀ {A:Type}(R:AnsOps A) (G:A→Prop),Good R G→∀ (ys:Ys) (c:VCode) (ro:Option Nat) (et:ET) (env:Env) (h:CH) (k:Exit→ET→CH→A) (rs:Uk) (σ:Heap) (Q:Exit→Env→Heap→Prop),
 YOk P ys rs h.n→CSim rs h σ→FRel et env→G (ev R ys c ro et h k)→Q0g G rs h (List.length env) k Q→vwp (Q1 P) c ro Q env σ
theorem Gi {rs:Uk}{h:CH}{σ:Heap}(hs:CSim rs h σ) {et:ET}{env:Env}(hE:FRel et env) {r:VResult}{v:Value}(hr:PV et h r=some v):Jv env σ r=some v:=by
 cases r with
 |tmp t=>simp only[PV] at hr;simp only[Jv,hE.get];exact hr
 |cell a agg size =>
  simp only[PV] at hr;split at hr
  ·rename_i p hp;rw[←hE.get] at hp;obtain⟨_,σ',h1,_⟩:=YD (o:=.load agg size (.tmp a)) (ev:=Q2 env) hs hp;simp only[Jv,h1,Option.map_some];exact hr
  ·cases hr
theorem Ms {rs:Uk}{h:CH}{σ:Heap}(hs:CSim rs h σ) {et:ET}{env:Env}(hE:FRel et env):∀ (l:List VResult) (vs:List Value),Di et h l=some vs→l.mapM (Jv env σ)=some vs
 |[],vs,hr=>by simp[Di] at hr;subst hr;rfl
 |r::l,vs,hr=>by
  simp only[Di] at hr;split at hr
  ·cases hr
  ·rename_i v hv;split at hr
   ·cases hr
   ·rename_i ws hw;obtain rfl:=osj hr;rw[List.mapM_cons,Gi hs hE hv];simp[Ms hs hE l ws hw]
theorem Mr {rs:Uk}{h:CH}{σ:Heap}(hs:CSim rs h σ) {et:ET}{env:Env}(hE:FRel et env) {l:List VResult}{v:Value}(hr:Ng et h l=some v):Xk env σ l=some v:=by
 unfold Ng at hr;split at hr
 ·exact Gi hs hE hr
 ·rename_i aF;split at hr
  ·rename_i vs cj;unfold Xk;split
   ·rename_i r;exact absurd rfl (aF r)
   ·rw[Ms hs hE _ _ cj];exact hr
  ·cases hr
variable {A:Type}{R:AnsOps A}{G:A→Prop}
theorem Nc (hG:Good R G) {rl:List VResult}{k:Value→CH→A}{rs:Uk}{h:CH}{σ:Heap}{K:Value→Heap→Prop}{m:Nat}(hk:Q2t G rs h k K):Q0g G rs h m (Q17 R.fail rl k) (Q6w σ rl K):=by
 intro e dg h' bj σ' ae hn hr aZ bK _ hg;have fin:G (match Ng dg h' rl with|some v=>k v h'|none=>R.fail)→Z5 (Xk ae σ' rl) fun v=>∃ v' aJ,DropTo σ v σ' v' aJ∧K v' aJ:=by
  intro hg;split at hg
  ·rename_i v hv;rw[Mr aZ bK hv];exact⟨v,σ',.refl _ _ _,hk v h' bj σ' hn hr aZ hg⟩
  ·exact(hG.fail hg).elim
 cases e with
 |normal=>exact fin hg
 |ret=>exact fin hg
 |_=>exact(hG.fail hg).elim
noncomputable def CH.toHeap (rs:Uk) (h:CH):Heap:=⟨fun i=>(h.get i).map (EB.to (rs i)),h.n,fun i hi=>by rw[CH.get_ge hi];rfl⟩
theorem DE {rs:Uk}{h:CH}(hr:h.n≤1000000001):CSim rs h (h.toHeap rs):=⟨rfl,hr,fun _=>rfl⟩
theorem CSim.eq {rs:Uk}{h:CH}{σ:Heap}(hs:CSim rs h σ):σ=h.toHeap rs:=Heap.ext' (fun j=>hs.get j) hs.n.symm
def Fg (x:Value×CH) (a:Option (Value×CH)):Prop:=∃ y,a=some y∧y.1=x.1∧y.2.n=x.2.n∧∀ i,y.2.get i=x.2.get i
theorem Ok {h h':CH}(hs:h.same h'=true):h.n=h'.n∧∀ i,h.get i=h'.get i:=by
 simp only[CH.same,Bool.and_eq_true,List.all_eq_true,List.mem_range,Nat.beq_eq] at hs;refine⟨hs.1,fun i=>?_⟩;rcases Nat.lt_or_ge i h.n with hi|hi
 ·have:=hs.2 i hi;split at this
  ·rename_i h1 h2;rw[h1,h2]
  ·rename_i a b h1 h2;rw[h1,h2,EB.beq_eq this]
  ·cases this
 ·rw[CH.get_ge hi,CH.get_ge (by rw[←hs.1];exact hi)]
theorem SG (x:Value×CH):Good joinOps (Fg x):=by
 refine⟨fun ⟨y,h,_⟩=>(by cases h),fun a b h=>?_⟩;obtain⟨y,h1,h2,h3,h4⟩:=h;cases a with
 |none=>cases h1
 |some xa =>
  cases b with
  |none=>cases h1
  |some xb =>
   simp only[joinOps] at h1;split at h1
   ·rename_i hc;obtain rfl:=osj h1;have e1:=M_ _ _ _ hc.1;obtain⟨e2,e3⟩:=Ok hc.2;exact⟨⟨xa,rfl,h2,h3,h4⟩,xb,rfl,by rw[←e1];exact h2,by rw[←e2];exact h3,fun i=>by rw[←e3 i];exact h4 i⟩
   ·cases h1
theorem FU {b:EB}{q:Env×Loop}(h:b.plainE=true):(b.to q).plain=true∧∀ q',b.to q'=b.to q:=by cases b<;>first|exact⟨h,fun _=>rfl⟩|cases h
def gcP (n0:Nat) (refs:List Nat) (i:Nat):Nat:=if i<n0 then i else refs.getD (i-n0) 0
def RExt (n0:Nat) (a b:List Nat):Prop:=(∃ t,b=a++t∧∀ x∈t,n0≤x)∧(a.Nodup→b.Nodup)
theorem RExt.refl (n0:Nat) (a:List Nat):RExt n0 a a:=⟨⟨[],by simp,fun x hx=>by cases hx⟩,id⟩
theorem RExt.trans {n0:Nat}{a b c:List Nat}(h:RExt n0 a b) (k:RExt n0 b c):RExt n0 a c:=by obtain⟨⟨t,rfl,ht⟩,h2⟩:=h;obtain⟨⟨u,rfl,hu⟩,k2⟩:=k;exact⟨⟨t++u,by simp,fun x hx=>(List.mem_append.1 hx).elim (ht x) (hu x)⟩,fun h=>k2 (h2 h)⟩
def Sub (a b:List Nat):Prop:=∃ t,b=a++t
theorem Sub.trans {a b c:List Nat}(h:Sub a b) (k:Sub b c):Sub a c:=by obtain⟨t,rfl⟩:=h;obtain⟨u,rfl⟩:=k;exact⟨t++u,by simp⟩
theorem RExt.sub {n0:Nat}{a b:List Nat}(h:RExt n0 a b):Sub a b:=by obtain⟨⟨t,h,_⟩,_⟩:=h;exact⟨t,h⟩
theorem S9 (n0:Nat) (refs:List Nat) (i:Nat):RExt n0 refs (gcI n0 refs i).2∧∀ (all:List Nat),Sub (gcI n0 refs i).2 all→(gcI n0 refs i).1<n0+all.length∧gcP n0 all (gcI n0 refs i).1=i:=by
 unfold gcI;split
 ·rename_i hi;exact⟨RExt.refl _ _,fun all _=>⟨by simp only;omega,by simp[gcP,hi]⟩⟩
 ·rename_i hi;split
  ·rename_i hc;have hm:i∈refs:=by simpa using hc
   have ah:=List.idxOf_lt_length_of_mem hm;refine⟨RExt.refl _ _,fun all ⟨t,ht⟩=>?_⟩;simp only at ht;have bM:refs.idxOf i<all.length:=by rw[ht,List.length_append];omega
   refine⟨by simp only;omega,?_⟩;simp only[gcP,if_neg (show ¬ n0+refs.idxOf i<n0 by omega),show n0+refs.idxOf i-n0=refs.idxOf i by omega,List.getD_eq_getElem?_getD];rw[ht,List.getElem?_append_left ah,List.getElem?_eq_getElem ah];simp
  ·rename_i hc;have hm:i∉refs:=by simpa using hc
   refine⟨⟨⟨[i],rfl,fun x hx=>by simp at hx;omega⟩,fun h1=>List.nodup_append.2 ⟨h1,by simp,fun a ha b hb=>by simp at hb;subst hb;rintro rfl;exact hm ha⟩⟩,fun all ⟨t,ht⟩=>?_⟩;simp only at ht;have ah:refs.length<all.length:=by rw[ht];simp
   refine⟨by simp only;omega,?_⟩;simp only[gcP,if_neg (show ¬ n0+refs.length<n0 by omega),show n0+refs.length-n0=refs.length by omega];simp[ht,List.getD_eq_getElem?_getD]
def Q56 (n0:Nat) (refs eL:List Nat) (v' v:Value):Prop:=RExt n0 refs eL∧∀ (all:List Nat),Sub eL all→Ren (n0+all.length) (gcP n0 all) v' v
def Q7v (n0:Nat) (refs eL:List Nat) (v' v:List Value):Prop:=RExt n0 refs eL∧∀ (all:List Nat),Sub eL all→LRen (n0+all.length) (gcP n0 all) v' v
theorem Ke {n0:Nat}{g:List Nat→Value→Option (Value×List Nat)}(hg:∀ refs v p,g refs v=some p→Q56 n0 refs p.2 p.1 v):∀ (vs:List Value) (refs:List Nat) (p:List Value×List Nat),Ox g vs refs=some p→Q7v n0 refs p.2 p.1 vs
 |[],refs,p,h=>by obtain rfl:=osj h;exact⟨RExt.refl _ _,fun all _=>⟨rfl,fun i a b ha=>by simp at ha⟩⟩
 |v::vs,refs,p,h=>by
  simp only[Ox] at h;split at h
  ·cases h
  ·rename_i p1 h1;split at h
   ·cases h
   ·rename_i p2 h2;obtain rfl:=osj h;obtain⟨a1,a2⟩:=hg _ _ _ h1;obtain⟨b1,b2⟩:=Ke hg vs _ _ h2;refine⟨a1.trans b1,fun all hall=>?_⟩;have c1:=a2 all (b1.sub.trans hall);have c2:=b2 all hall;refine⟨by simp[c2.1],fun i a b ha hb=>?_⟩;cases i with
    |zero=>simp at ha hb;subst ha;subst hb;exact c1
    |succ i=>exact c2.2 i a b (by simpa using ha) (by simpa using hb)
theorem LRen.agg {n:Nat}{π:Nat→Nat}{cK:List Value}{cs:Array Value}(h:LRen n π cK cs.toList):Ren n π (.agg cK.toArray) (.agg cs) :=
 .agg _ _ (by simpa using h.1) fun i h1 h2=>h.2 i _ _ (by simp) (by simp)
theorem LRen.tuple {n:Nat}{π:Nat→Nat}{cK:List Value}{cs:Array Value}(h:LRen n π cK cs.toList):Ren n π (.tuple cK.toArray) (.tuple cs) :=
 .tuple _ _ (by simpa using h.1) fun i h1 h2=>h.2 i _ _ (by simp) (by simp)
theorem Hn (n0:Nat):∀ (f:Nat) (refs:List Nat) (v:Value) (p:Value×List Nat),gcX n0 f refs v=some p→Q56 n0 refs p.2 p.1 v:=by
 intro f;induction f with
 |zero=>intro refs v p h;cases h
 |succ f ih =>
  intro refs v p h;unfold gcX at h;split at h
  ·rename_i i o;obtain rfl:=osj h;obtain⟨h1,h2⟩:=S9 n0 refs i;refine⟨h1,fun all hall=>?_⟩;obtain⟨k1,k2⟩:=h2 all hall;have:=Ren.ptr (n:=n0+all.length) (π:=gcP n0 all) (gcI n0 refs i).1 o k1
   rwa [k2] at this
  ·rename_i i o l c;obtain rfl:=osj h;obtain⟨h1,h2⟩:=S9 n0 refs i;refine⟨h1,fun all hall=>?_⟩;obtain⟨k1,k2⟩:=h2 all hall;have:=Ren.sl (n:=n0+all.length) (π:=gcP n0 all) (gcI n0 refs i).1 o l c k1
   rwa [k2] at this
  ·rename_i i;obtain rfl:=osj h;obtain⟨h1,h2⟩:=S9 n0 refs i;refine⟨h1,fun all hall=>?_⟩;obtain⟨k1,k2⟩:=h2 all hall;have:=Ren.map (n:=n0+all.length) (π:=gcP n0 all) (gcI n0 refs i).1 k1
   rwa [k2] at this
  ·obtain rfl:=osj h;exact⟨RExt.refl _ _,fun all _=>.poison _⟩
  ·split at h
   ·rename_i q hq;obtain rfl:=osj h;obtain⟨h1,h2⟩:=ih _ _ _ hq;exact⟨h1,fun all hall=>.iface _ _ _ (h2 all hall)⟩
   ·cases h
  ·split at h
   ·rename_i q hq;obtain rfl:=osj h;obtain⟨h1,h2⟩:=Ke ih _ _ _ hq;exact⟨h1,fun all hall=>(h2 all hall).agg⟩
   ·cases h
  ·split at h
   ·rename_i q hq;obtain rfl:=osj h;obtain⟨h1,h2⟩:=Ke ih _ _ _ hq;exact⟨h1,fun all hall=>(h2 all hall).tuple⟩
   ·cases h
  ·split at h
   ·rename_i q hq;split at h
    ·rename_i q2 sI;obtain rfl:=osj h;obtain⟨h1,h2⟩:=Ke ih _ _ _ hq;obtain⟨h3,h4⟩:=Ke ih _ _ _ sI;refine⟨h1.trans h3,fun all hall=>?_⟩;have c1:=h2 all (h3.sub.trans hall);have c2:=h4 all hall;exact .func _ _ _ _ _ (by simpa using c1.1) (by simpa using c2.1) (fun i h1 h2=>c1.2 i _ _ (by simp) (by simp)) (fun i h1 h2=>c2.2 i _ _ (by simp) (by simp))
    ·cases h
   ·cases h
  ·split at h
   ·rename_i hp;obtain rfl:=osj h;exact⟨RExt.refl _ _,fun all _=>.plain _ hp⟩
   ·cases h
theorem LC (n0:Nat):∀ (es:List JA) (refs:List Nat) (p:List JA×List Nat),Q6u n0 es refs=some p→RExt n0 refs p.2∧∀ (all:List Nat),Sub p.2 all →
  p.1.length=es.length∧∀ (k:Nat) (a b:JA),p.1[k]?=some a→es[k]?=some b→a.1=b.1∧a.2.2=b.2.2∧Ren (n0+all.length) (gcP n0 all) a.2.1 b.2.1
 |[],refs,p,h=>by obtain rfl:=osj h;exact⟨RExt.refl _ _,fun all _=>⟨rfl,fun i a b ha=>by simp at ha⟩⟩
 |e::es,refs,p,h=>by
  simp only[Q6u] at h;split at h
  ·cases h
  ·rename_i p1 h1;split at h
   ·cases h
   ·rename_i p2 h2;obtain rfl:=osj h;obtain⟨a1,a2⟩:=Hn n0 _ _ _ _ h1;obtain⟨b1,b2⟩:=LC n0 es _ _ h2;refine⟨a1.trans b1,fun all hall=>?_⟩;have c1:=a2 all (b1.sub.trans hall);obtain⟨c2,c3⟩:=b2 all hall;refine⟨by simp[c2],fun i a b ha hb=>?_⟩;cases i with
    |zero=>simp at ha hb;subst ha;subst hb;exact⟨rfl,rfl,c1⟩
    |succ i=>exact c3 i a b (by simpa using ha) (by simpa using hb)
theorem OI {n0:Nat}{refs:List Nat}{b:EB}{p:EB×List Nat}(h:gcB n0 refs b=some p):RExt n0 refs p.2∧∀ (all:List Nat),Sub p.2 all→∀ q q',BRen (n0+all.length) (gcP n0 all) (p.1.to q') (b.to q):=by
 unfold gcB at h;split at h
 ·split at h
  ·rename_i q hq;obtain rfl:=osj h;obtain⟨h1,h2⟩:=Ke (Hn n0 8) _ _ _ hq;exact⟨h1,fun all hall _ _=>⟨rfl,rfl,rfl,h2 all hall⟩⟩
  ·cases h
 ·split at h
  ·rename_i q hq;obtain rfl:=osj h;obtain⟨h1,h2⟩:=LC n0 _ _ _ hq;exact⟨h1,fun all hall _ _=>⟨rfl,rfl,(h2 all hall).1,(h2 all hall).2⟩⟩
  ·cases h
 ·cases h
theorem EZ {h':CH}{n0:Nat}:∀ (f k:Nat) (refs:List Nat) (acc:CH) (r:CH×List Nat),OJ h' n0 f k refs acc=some r→acc.n=n0+k→acc.n≤1000000001 →
  RExt n0 refs r.2∧r.1.n=n0+r.2.length∧r.1.n≤1000000001∧(∀ i,i<acc.n→r.1.get i=acc.get i) ∧
  ∀ j,k≤j→j<r.2.length→∃ b b',h'.get (r.2.getD j 0)=some b∧r.1.get (n0+j)=some b'∧∀ q q',BRen (n0+r.2.length) (gcP n0 r.2) (b'.to q') (b.to q):=by
 intro f;induction f with
 |zero=>intro k refs acc r h;cases h
 |succ f ih =>
  intro k refs acc r h hn hs;simp only[OJ] at h;split at h
  ·split at h
   ·rename_i hk;obtain rfl:=osj h;exact⟨RExt.refl _ _,by rw[hn,hk],hs,fun _ _=>rfl,fun j h1 h2=>by simp only at h2;omega⟩
   ·cases h
  ·rename_i hk;split at h
   ·cases h
   ·rename_i b hb;split at h
    ·cases h
    ·rename_i p hp;split at h
     ·rename_i aT;have aT:acc.n≤1000000000:=Nat.le_of_ble_eq_true aT;obtain⟨a1,a2⟩:=OI hp;have ib:(acc.push p.1).n=acc.n+1:=rfl;obtain⟨b1,b2,b3,b4,b5⟩:=ih (k+1) p.2 (acc.push p.1) r h (by rw[ib];omega) (by rw[ib];omega);refine⟨a1.trans b1,b2,b3,fun i hi=>?_,fun j pn eE=>?_⟩
      ·rw[b4 i (by rw[ib];omega),CH.get_push hs,if_neg (by omega)]
      ·by_cases dR:j=k
       ·subst dR;have aM:j<refs.length:=by omega
        obtain⟨t,ht⟩:=(a1.trans b1).sub;have hg:r.2.getD j 0=refs.getD j 0:=by rw[ht,List.getD_eq_getElem?_getD,List.getD_eq_getElem?_getD,List.getElem?_append_left aM]
        refine⟨b,p.1,by rw[hg];exact hb,?_,a2 r.2 b1.sub⟩;rw[←hn,b4 _ (by rw[ib];omega),CH.get_push hs,if_pos rfl]
       ·exact b5 j (by omega) eE
     ·cases h
theorem Bc {rs bj:Uk}{h h':CH}{σ σ':Heap}(hs:CSim rs h σ) (aZ:CSim bj h' σ') (hr:∀ i,i<h.n→bj i=rs i) {v:Value}{y x:Value×CH}(hg:Lf h h' v=some y) (h1:y.1=x.1) (h2:y.2.n=x.2.n) (h3:∀ i,y.2.get i=x.2.get i) :
  DropTo σ v σ' x.1 (x.2.toHeap rs):=by
 unfold Lf at hg;split at hg
 ·cases hg
 ·rename_i p hp;split at hg
  ·cases hg
  ·rename_i q hq;obtain rfl:=osj hg;simp only at h1 h2 h3;obtain⟨f1,f2⟩:=Hn h.n 8 [] v p hp;unfold Q16 at hq;split at hq
   ·rename_i du;simp only[CH.keepOk,Bool.and_eq_true,List.all_eq_true,List.mem_range] at du;obtain⟨hle,du⟩:=du;have hle:h.n≤h'.n:=Nat.le_of_ble_eq_true hle;have nR:=hs.sm;obtain⟨g0,g1,g2,g3,g4⟩:=EZ _ 0 p.2 ⟨h'.t,h.n⟩ q hq rfl nR;have hall:=f1.trans g0;have iJ:q.2.Nodup:=hall.2 List.nodup_nil;have a_:∀ x∈q.2,h.n≤x:=by
     obtain⟨⟨t,ht,hx⟩,_⟩:=hall;simpa [ht] using hx
    have hold:∀ i,i<h.n→q.1.get i=h'.get i:=fun i hi=>by rw[g3 i hi,CH.get_lt (h:=⟨h'.t,h.n⟩) hi,CH.get_lt (by omega)]
    have iL:(x.2.toHeap rs).n=h.n+q.2.length:=by show x.2.n=_;rw[←h2,g1]
    have qG:∀ i,(x.2.toHeap rs).get i=(q.1.get i).map (EB.to (rs i)):=fun i=>by show (x.2.get i).map _=_;rw[←h3 i]
    rw[←h1];refine DropTo.rename (gcP h.n q.2) (by rw[iL,←hs.n];omega) (fun i hi=>?_) (fun i jy iH=>?_) (fun i j jy iH pn eE he=>?_) (by rw[iL];exact f2 q.2 g0.sub)
    ·rw[←hs.n] at hi;refine⟨by simp[gcP,hi],by rw[qG,hold i hi,aZ.get,hr i hi],?_⟩;have:=du i hi;rw[aZ.get,hs.get];split at this
     ·rename_i e1 e2;rw[e1,e2];exact .inl rfl
     ·rename_i a b e1 e2;rw[e1,e2];rw[Bool.or_eq_true] at this;rcases this with hb|hb
      ·exact .inr ⟨_,rfl,(FU hb).1⟩
      ·rw[EB.beq_eq hb,hr i hi];exact .inl rfl
     ·cases this
    ·rw[←hs.n] at jy;rw[iL] at iH;obtain⟨b,b',e1,e2,e3⟩:=g4 (i-h.n) (by omega) (by omega);have fU:gcP h.n q.2 i=q.2.getD (i-h.n) 0:=by simp[gcP,Nat.not_lt.2 jy]
     have aK:q.2.getD (i-h.n) 0∈q.2:=by
      have:i-h.n<q.2.length:=by omega
      simp[List.getD_eq_getElem?_getD,this]
     rw[show h.n+(i-h.n)=i by omega] at e2;rw[fU];refine⟨by rw[←hs.n];exact a_ _ aK,b'.to (rs i),b.to (bj (q.2.getD (i-h.n) 0)),by rw[qG,e2];rfl,by rw[aZ.get,e1];rfl,by rw[iL];exact e3 _ _⟩
    ·rw[←hs.n] at jy pn;rw[iL] at iH eE;simp only[gcP,Nat.not_lt.2 jy,Nat.not_lt.2 pn,if_false] at he;have ie:i-h.n<q.2.length:=by omega
     have lk:j-h.n<q.2.length:=by omega
     simp only[List.getD_eq_getElem?_getD,List.getElem?_eq_getElem ie,List.getElem?_eq_getElem lk,Option.getD_some] at he;have:=(List.getElem_inj (h₀:=ie) (h₁:=lk) iJ).1 he;omega
   ·cases hq
theorem Hv {a m d:Nat}{g:Value→Option Value}(hg:∀ v u,g v=some u→Sh a m d v u):∀ (vs us:List Value),Q6r g vs=some us→vs.length=us.length∧∀ (i:Nat) (v u:Value),vs[i]?=some v→us[i]?=some u→Sh a m d v u
 |[],us,h=>by obtain rfl:=osj h;exact⟨rfl,fun i v u h=>by simp at h⟩
 |v::vs,us,h=>by
  simp only[Q6r] at h;split at h
  ·cases h
  ·rename_i u hu;split at h
   ·cases h
   ·rename_i ll dS;obtain rfl:=osj h;obtain⟨h1,h2⟩:=Hv hg vs ll dS;refine⟨by simp[h1],fun i v' u' fD cr=>?_⟩;cases i with
    |zero=>simp at fD cr;subst fD;subst cr;exact hg _ _ hu
    |succ i=>exact h2 i v' u' (by simpa using fD) (by simpa using cr)
theorem OG (a m d:Nat):∀ (f:Nat) (v u:Value),shX a m d f v=some u→Sh a m d v u:=by
 intro f;induction f with
 |zero=>intro v u h;cases h
 |succ f ih =>
  intro v u h;unfold shX at h;split at h
  ·split at h
   ·rename_i hc;obtain rfl:=osj h;exact .ptr _ _ hc.1 hc.2
   ·cases h
  ·split at h
   ·rename_i hc;obtain rfl:=osj h;exact .sl _ _ _ _ hc.1 hc.2
   ·cases h
  ·split at h
   ·rename_i p hp;obtain rfl:=osj h;obtain⟨h1,h2⟩:=Hv ih _ _ hp;exact .agg _ _ (by simpa using h1) fun i k1 k2=>h2 i _ _ (by simp) (by simp)
   ·cases h
  ·split at h
   ·rename_i p hp;obtain rfl:=osj h;obtain⟨h1,h2⟩:=Hv ih _ _ hp;exact .tuple _ _ (by simpa using h1) fun i k1 k2=>h2 i _ _ (by simp) (by simp)
   ·cases h
  ·split at h
   ·rename_i hc;obtain rfl:=osj h;exact .plain _ hc
   ·cases h
theorem Ib {rs:Uk}{h:CH}{σ:Heap}(hs:CSim rs h σ) {i:Nat}{b:PB}(hb:Q7r h i b=true):∃ wr,σ.get i=some (b.blk wr):=by
 unfold Q7r at hb;split at hb
 ·rename_i c e w t hg;simp only[Bool.and_eq_true,decide_eq_true_eq,beq_iff_eq] at hb;obtain⟨rfl,rfl,h3⟩:=hb;obtain rfl:=VS (M_ 20) _ _ h3;exact⟨w,hs.cells hg⟩
 ·cases hb
theorem Re {rs:Uk}{h:CH}{σ:Heap}(hs:CSim rs h σ):∀ (l:List Nat) (m:List PB),Ih h l m=true→l.length=m.length∧∀ i b,m[i]?=some b→∃ wr,σ.get (l.getD i 0)=some (b.blk wr)
 |[],[],_=>⟨rfl,fun i b h=>by simp at h⟩
 |j::l,b::m,hb=>by
  simp only[Ih,Bool.and_eq_true] at hb;obtain⟨h1,h2⟩:=Re hs l m hb.2;refine⟨by simp[h1],fun i b' bU=>?_⟩;cases i with
  |zero=>simp at bU;subst bU;simpa using Ib hs hb.1
  |succ i=>simpa using h2 i b' (by simpa using bU)
 |[],_::_,h=>by cases h
 |_::_,[],h=>by cases h
theorem Bd {rs:Uk}:∀ (fr:List PB) {h:CH}{σ:Heap},CSim rs h σ→h.n+fr.length≤1000000000→CSim rs (Nm fr h) (W5 σ fr)∧(Nm fr h).n=h.n+fr.length
 |[],h,σ,hs,_=>by
  have:W5 σ []=σ:=Heap.ext' (fun j=>by
   show (if j<σ.n then σ.get j else _)=_;split
   ·rfl
   ·rename_i hj;rw[σ.wf j (by omega)];simp) rfl
  rw[this];exact⟨hs,rfl⟩
 |b::l,h,σ,hs,hr=>by
  have hr:h.n+(l.length+1)≤1000000000:=hr;have hn:=hs.n;have h1:CSim rs (h.push (.cells b.c b.esz true b.tight)) (σ.push (b.blk true)):=hs.push (Nat.ble_eq_true_of_le (by omega)) rfl;obtain⟨h2,h3⟩:=Bd l h1 (by show h.n+1+_≤_;omega);refine⟨?_,by rw[show Nm (b::l) h=Nm l (h.push (.cells b.c b.esz true b.tight)) from rfl,h3];show h.n+1+l.length=h.n+(l.length+1);omega⟩;have:W5 σ (b::l)=W5 (σ.push (b.blk true)) l:=Heap.ext' (fun j=>by
   show (if j<σ.n then σ.get j else _)=(if j<σ.n+1 then (σ.push (b.blk true)).get j else _);rcases Nat.lt_trichotomy j σ.n with hj|hj|hj
   ·rw[if_pos hj,if_pos (by omega),Heap.get_push_lt _ _ hj]
   ·subst hj;rw[if_neg (by omega),if_pos (by omega),Heap.get_push_self];simp
   ·rw[if_neg (by omega),if_neg (by omega)];rw[show j-σ.n=(j-(σ.push (b.blk true)).n)+1 by simp;omega];rfl) (by simp[W5];omega)
  rw[this];exact h2
theorem HD {h:CH}{args:List Value}{refs:List Nat}:∀ (ms:List Memo) (m:Memo),AU h args refs ms=some m→m∈ms∧args=m.args∧Ih h refs m.bl=true
 |[],m,h=>by cases h
 |m0::ms,m,h=>by
  simp only[AU] at h;split at h
  ·rename_i hc;obtain rfl:=osj h;rw[Bool.and_eq_true] at hc;exact⟨List.mem_cons_self,VS (M_ 20) _ _ hc.1,hc.2⟩
  ·obtain⟨h1,h2⟩:=HD ms m h;exact⟨List.mem_cons_of_mem _ h1,h2⟩
theorem TL {f:FuncId}{args:List Value}{ms:List Memo}(hm:∀ m∈ms,FA P f m) {rs:Uk}{h:CH}{σ:Heap}(hs:CSim rs h σ) {p:Value×CH}(hp:Sn h args ms=some p)
  {K:Value→Heap→Prop}(hK:∀ σ',h.n≤p.2.n→CSim rs p.2 σ'→K p.1 σ'):VCalled P f args σ K:=by
 unfold Sn at hp;split at hp
 ·cases hp
 ·rename_i q hq;split at hp
  ·cases hp
  ·rename_i m oD;obtain⟨h1,h2,h3⟩:=HD ms m oD;obtain⟨k1,k2,k3⟩:=hm m h1;obtain⟨l1,l2⟩:=Re hs _ _ h3;split at hp
   ·cases hp
   ·rename_i hr;have hr:=Nat.le_of_ble_eq_true hr;split at hp
    ·rename_i v hv;obtain rfl:=osj hp;obtain⟨s1,s2⟩:=Bd m.fr hs hr;have hx:=(Ke (Hn 0 8) _ _ _ hq).2 q.2 ⟨[],by simp⟩;rw[h2,l1] at hx;refine VCalled.localize (π:=gcP 0 q.2) k1 k2 k3 (fun i b hb=>?_) (by simpa using hx) ?_ (hK _ (by rw[s2];omega) s1)
     ·have:=l2 i b hb;simpa [gcP] using this
     ·have:=OG _ _ _ _ _ _ hv
      rwa [hs.n] at this
    ·cases hp
theorem Py (hm:P.follows .mixedOrders=true) (hT:TabOk P T) (cD:Sd P ev) (hG:Good R G) {ys:Ys}{f:FuncId}{args:List Value}{h:CH}{k:Value→CH→A}{rs:Uk}{σ:Heap}{K:Value→Heap→Prop}
  (hY:YOk P ys rs h.n) (hs:CSim rs h σ) (he:G (CV T ev R ys f args h k)) (hk:Q2t G rs h k K):VCalled P f args σ K:=by
 unfold CV at he;split at he
 ·rename_i vc rl nt hf;have hF:=hT.code f vc rl nt hf;split at he
  ·rename_i hb;exact hF.calls hm C9 (cD R G hG ys vc none _ _ h _ rs σ _ hY hs (ET.of_rel (Nat.le_of_ble_eq_true hb)) he (Nc hG hk))
  ·exact(hG.fail he).elim
 ·rename_i vc rl nt hf;have hF:=hT.codeJ f vc rl nt hf;split at he
  ·rename_i hb;split at he
   ·rename_i x hx;split at he
    ·rename_i hc;have aT:x.2.n≤1000000000:=Nat.le_of_ble_eq_true hc.1;have hK:=hk x.1 x.2 rs _ (Nat.le_of_ble_eq_true hc.2) (fun _ _=>rfl) (DE (by omega)) he;refine hF.calls hm C9 (cD joinOps (Fg x) (SG x) ys vc none _ _ h _ rs σ _ hY hs (ET.of_rel (Nat.le_of_ble_eq_true hb)) (show Fg x _ from ⟨x,hx,rfl,rfl,fun _=>rfl⟩) ?_);intro e dg h' bj σ' ae hn hr aZ bK _ hg;have fin:Fg x (match Ng dg h' rl with|some v=>Lf h h' v|none=>none)→Z5 (Xk ae σ' rl) fun v=>∃ v' aJ,DropTo σ v σ' v' aJ∧K v' aJ:=by
      rintro⟨y,hy,h1,h2,h3⟩;split at hy
      ·rename_i v hv;rw[Mr aZ bK hv];exact⟨_,_,Bc hs aZ hr hy h1 h2 h3,hK⟩
      ·cases hy
     cases e with
     |normal=>exact fin hg
     |ret=>exact fin hg
     |_=>obtain⟨y,hy,_⟩:=hg;cases hy
    ·exact(hG.fail he).elim
   ·exact(hG.fail he).elim
  ·exact(hG.fail he).elim
 ·rename_i vc rl nt ms hf;obtain⟨hF,hM⟩:=hT.codeM f vc rl nt ms hf;split at he
  ·rename_i p hp;exact TL hM hs hp fun σ' hn aZ=>hk _ _ rs σ' hn (fun _ _=>rfl) aZ he
  ·split at he
   ·rename_i hb;exact hF.calls hm C9 (cD R G hG ys vc none _ _ h _ rs σ _ hY hs (ET.of_rel (Nat.le_of_ble_eq_true hb)) he (Nc hG hk))
   ·exact(hG.fail he).elim
 ·rename_i hf;split at he
  ·rename_i v;exact hT.same f hf v σ K (hk v h rs σ (Nat.le_refl _) (fun _ _=>rfl) hs he)
  ·exact(hG.fail he).elim
 ·exact(hG.fail he).elim
theorem Si (hm:P.follows .mixedOrders=true) (cD:Sd P ev) (hG:Good R G) {ys:Ys}{f:FuncId}{vc:VCode}{rl:List VResult}{nt:Nat}(hf:T f=some (.code vc rl nt)) (hF:Fun P f vc rl nt) {args:List Value}{h:CH}{k:Value→CH→A}{rs:Uk}{σ:Heap}{K:Value→Heap→Prop}
  (hY:YOk P ys rs h.n) (hs:CSim rs h σ) (he:G (CV T ev R ys f args h k)) (hk:Q2t G rs h k K):VCallsTo P f args σ K:=by
 unfold CV at he;rw[hf] at he;simp only at he;split at he
 ·rename_i hb;exact hF.callsTo hm C9 (cD R G hG ys vc none _ _ h _ rs σ _ hY hs (ET.of_rel (Nat.le_of_ble_eq_true hb)) he (Nc hG hk))
 ·exact(hG.fail he).elim
theorem LN (cD:Sd P ev) (hG:Good R G) {ys:Ys}{i:Nat}{args:List Value}{h:CH}{k:Value→CH→A}{rs:Uk}{σ:Heap}{K:Value→Heap→Prop}
  (hY:YOk P ys rs h.n) (hs:CSim rs h σ) (he:G (I0 ev R ys i args h k)) (hk:Q2t G rs h k K):HI P i args σ K:=by
 unfold I0 at he;split at he
 ·rename_i c hc;obtain⟨aK,j8,ai⟩:=hY i c hc;split at he
  ·rename_i hg;split at he
   ·rename_i hlen;refine ai args σ K ⟨hs.lp hg,hlen,?_⟩;refine cD R G hG ys c.a (some i) _ _ h _ rs σ _ hY hs (R9 c.ps args j8) he ?_;intro e jz h1 eM σ1 bg fH eX kn eT _ hg1;cases e with
    |normal =>
     simp only[Q0t] at hg1;split at hg1
     ·rename_i gh;have e1:eM i=rs i:=eX i aK;have mw:=kn.lp gh;rw[e1] at mw;refine⟨mw,?_⟩;have jy:=kn.lt gh;refine cD R G hG ys c.b (some i) jz bg _ _ eM _ _ (hY.mono (n':=(h1.upd i (.lp .busy none)).n) fH eX) (kn.upd jy (b:=.lp .busy none) (by rw[EB.to,e1])) eT hg1 ?_;intro e2 eZ h2 dD σ2 aP dZ dm dE e9 _ cM;have kp:h1.n≤h2.n:=dZ;have ln:dD i=rs i:=(dm i jy).trans e1;unfold I_ at cM;split at cM
      ·rename_i my;have iH:=dE.lt my;have mz:=dE.lp my;rw[ln] at mz;refine⟨mz,?_⟩;have dw:∀ j,j<h.n→dD j=rs j:=fun j hj=>(dm j (Nat.lt_of_lt_of_le hj fH)).trans (eX j hj);cases e2 with
       |normal=>exact hk _ (h2.upd i (.lp .ready none)) dD _ (Nat.le_trans fH kp) dw (dE.upd iH (b:=.lp .ready none) (by simp only[EB.to,ln])) cM
       |ret=>exact hk _ (h2.upd i (.lp .done (some .ret))) dD _ (Nat.le_trans fH kp) dw (dE.upd iH (b:=.lp .done (some .ret)) (by simp only[EB.to,ln])) cM
       |exit id=>exact hk _ (h2.upd i (.lp .done (some (.exit id)))) dD _ (Nat.le_trans fH kp) dw (dE.upd iH (b:=.lp .done (some (.exit id))) (by simp only[EB.to,ln])) cM
       |_=>exact(hG.fail cM).elim
      ·exact(hG.fail cM).elim
     ·exact(hG.fail hg1).elim
    |_=>exact(hG.fail hg1).elim
   ·exact(hG.fail he).elim
  ·exact(hG.fail he).elim
 ·exact(hG.fail he).elim
theorem Bj (hG:Good R G) {i m since clock:Nat}{seen:List Nat}{h:CH}{k:Value→CH→A}:∀ (es:List JA),
  (∀ e∈es,seen.contains e.2.2=true)∧M9 R i m since clock seen h k es=none ∨
  ∃ a,M9 R i m since clock seen h k es=some a∧(G a→∀ e∈es,seen.contains e.2.2=false→G (k (.tuple #[.bool true,e.1,e.2.1]) (h.upd i (.iter m since (seen++[e.2.2]) clock))))
 |[]=>.inl ⟨fun _ h=>(by cases h),rfl⟩
 |e::es=>by
  have ih:=Bj hG (i:=i) (m:=m) (since:=since) (clock:=clock) (seen:=seen) (h:=h) (k:=k) es;by_cases hc:seen.contains e.2.2=true
  ·have he:M9 R i m since clock seen h k (e::es)=M9 R i m since clock seen h k es:=by rw[M9,if_pos hc]
   rw[he];rcases ih with⟨h1,h2⟩|⟨a,h1,h2⟩
   ·exact .inl ⟨fun x hx=>by rcases List.mem_cons.1 hx with rfl|hx;exact hc;exact h1 x hx,h2⟩
   ·refine .inr ⟨a,h1,fun ku x hx bz=>?_⟩;rcases List.mem_cons.1 hx with rfl|hx
    ·rw[hc] at bz;cases bz
    ·exact h2 ku x hx bz
  ·rcases ih with⟨h1,h2⟩|⟨a,h1,h2⟩
   ·refine .inr ⟨k (.tuple #[.bool true,e.1,e.2.1]) (h.upd i (.iter m since (seen++[e.2.2]) clock)),by rw[M9,if_neg hc,h2],fun ku x hx bz=>?_⟩;rcases List.mem_cons.1 hx with rfl|hx
    ·exact ku
    ·rw[h1 x hx] at bz;cases bz
   ·refine .inr ⟨R.both (k (.tuple #[.bool true,e.1,e.2.1]) (h.upd i (.iter m since (seen++[e.2.2]) clock))) a,by rw[M9,if_neg hc,h1],fun ku x hx bz=>?_⟩;obtain⟨g1,g2⟩:=hG.both _ _ ku;rcases List.mem_cons.1 hx with rfl|hx
    ·exact g1
    ·exact h2 g2 x hx bz
theorem Cs (hG:Good R G) {x:Value}{h:CH}{k:Value→CH→A}{rs:Uk}{σ:Heap}{K:Value→Heap→Prop}(hs:CSim rs h σ) (he:G (Q1k R x h k)) (hk:Q2t G rs h k K):A4 x σ K:=by
 unfold Q1k at he;unfold A4;split at he
 ·rename_i i;split at he
  ·rename_i m since seen last hg;have hi:=hs.lt hg;simp only[hs.iter hg];split at he
   ·rename_i es clock wr fX;obtain⟨k1,_⟩:=hs.mapAt fX;simp only[k1];split at he
    ·rename_i hc;refine⟨hc.1,hc.2,?_⟩;rcases Bj hG (i:=i) (m:=m) (since:=since) (clock:=clock) (seen:=seen) (h:=h) (k:=k) es with⟨h1,h2⟩|⟨a,h1,h2⟩
     ·rw[h2] at he;simp only at he;split at he
      ·exact⟨fun _=>hk _ _ rs σ (Nat.le_refl _) (fun _ _=>rfl) hs he,fun e fv ky=>by rw[h1 e fv] at ky;cases ky⟩
      ·exact(hG.fail he).elim
     ·rw[h1] at he;simp only at he;have key:G a→∀ e∈es,seen.contains e.2.2=false→K (.tuple #[.bool true,e.1,e.2.1]) (σ.upd i (.obj (.iter m since (seen++[e.2.2]) clock) true)):=fun ku e fv ky =>
       hk _ (h.upd i (.iter m since (seen++[e.2.2]) clock)) rs _ (Nat.le_refl _) (fun _ _=>rfl) (hs.upd hi rfl) (h2 ku e fv ky)
      split at he
      ·obtain⟨g1,g2⟩:=hG.both _ _ he;exact⟨fun _=>hk _ _ rs σ (Nat.le_refl _) (fun _ _=>rfl) hs g1,key g2⟩
      ·rename_i hn;exact⟨fun hh=>absurd hh hn,key he⟩
    ·exact(hG.fail he).elim
   ·exact(hG.fail he).elim
  ·exact(hG.fail he).elim
 ·exact(hG.fail he).elim
theorem Rc (hm:P.follows .mixedOrders=true) (hT:TabOk P T) (cD:Sd P ev) (hG:Good R G) {ys:Ys}{o:VOp}{et:ET}{env:Env}(hE:FRel et env) {h:CH}{k:Value→CH→A}{rs:Uk}{σ:Heap}{K:Value→Heap→Prop}
  (hY:YOk P ys rs h.n) (hs:CSim rs h σ) (he:G (Q2f T ev R ys o et h k)) (hk:Q2t G rs h k K):vop (Q1 P) o env σ K:=by
 have af:=Hg hE;have other:∀ o':VOp,G (FZ R (CT o' (MM et) h) k)→Z5 (Q4 o' (Q2 env) σ) fun p=>K p.1 p.2:=by
  intro o' hg;rw[af] at hg;unfold FZ at hg;split at hg
  ·rename_i p hp;obtain⟨h1,σ',h2,h3⟩:=YD hs hp;rw[h2];exact hk _ _ rs σ' h1 (fun _ _=>rfl) h3 hg
  ·exact(hG.fail hg).elim
 cases o
 case callF f args =>
  simp only[Q2f,af] at he;exact Py hm hT cD hG hY hs he hk
 case callV f args =>
  simp only[Q2f,af] at he;simp only[vop];unfold Q0z at he;split at he
  ·rename_i g first cap hg
   simp only[hg];exact Py hm hT cD hG hY hs he hk
  ·rename_i i first cap hg
   simp only[hg];exact LN cD hG hY hs he hk
  ·exact(hG.fail he).elim
 case ext x =>
  cases x
  case nextMap x =>
   simp only[Q2f,af] at he;exact Cs hG hs he hk
  case delete a b c=>exact other (.ext (.delete a b c)) he
  case mapEntry a z b c=>exact other (.ext (.mapEntry a z b c)) he
  case entryStore a b c=>exact other (.ext (.entryStore a b c)) he
  all_goals exact other _ he
 case move a=>exact other (.move a) he
 case makeFunc a b c=>exact other (.makeFunc a b c) he
 case bad=>exact other .bad he
 all_goals exact other _ he
theorem P4 (hm:P.follows .mixedOrders=true) (hT:TabOk P T) (cD:Sd P ev) (hG:Good R G) {ys:Ys}{k:ET→CH→A}{K:Env→Heap→Prop}:∀ (ops:List VOper) (et:ET) (env:Env) (h:CH) (rs:Uk) (σ:Heap),
  YOk P ys rs h.n→CSim rs h σ→FRel et env→G (IZ T ev R ys ops et h k)→Oj G rs h (List.length env) k K→PJ (Q1 P) ops env σ K:=by
 intro ops;induction ops with
 |nil=>intro et env h rs σ hY hs hE he hk;exact hk et h rs σ env (Nat.le_refl _) (fun _ _=>rfl) hs hE rfl he
 |cons o rest ih =>
  intro et env h rs σ hY hs hE he hk
  have he:G (match O7 et o.guard with
   |none=>R.fail
   |some true=>Q2f T ev R ys o.op et h fun v h'=>IZ T ev R ys rest (et.put o.dst v) h' k
   |some false=>IZ T ev R ys rest (et.put o.dst undef) h k):=he
  rw[As hE] at he;simp only[PJ];split at he
  ·exact(hG.fail he).elim
  ·rename_i hw;rw[hw];refine⟨fun _=>?_,fun hh=>by cases hh⟩;refine Rc hm hT cD hG hE hY hs he ?_;intro v h' bj σ' hn hr aZ hg;refine ih _ _ h' bj σ' (hY.mono hn hr) aZ (hE.put _ _) hg ?_;intro eZ h2 dD σ2 aP dZ dm dE e9 hl cM;exact hk eZ h2 dD σ2 aP (Nat.le_trans hn dZ) (fun i hi=>(dm i (by omega)).trans (hr i hi)) dE e9 (by rw[hl,Zx]) cM
  ·rename_i hw;rw[hw];refine⟨fun hh=>(by cases hh),fun _=>?_⟩;refine ih _ _ h rs σ hY hs (hE.put _ _) he ?_;intro eZ h2 dD σ2 aP dZ dm dE e9 hl cM;exact hk eZ h2 dD σ2 aP dZ dm dE e9 (by rw[hl,Zx]) cM
def CSims (rs:Uk) (n:Nat):List CH→List Heap→Prop
 |[],[]=>True
 |h::hs,σ::σs=>(CSim rs h σ∧h.n≤n)∧CSims rs n hs σs
 |_,_=>False
theorem CSims.mono {rs bj:Uk}{n n':Nat}(hn:n≤n') (hr:∀ i,i<n→bj i=rs i):∀ {hs:List CH}{σs:List Heap},CSims rs n hs σs→CSims bj n' hs σs
 |[],[],_=>trivial
 |h::hs,σ::σs,⟨⟨h1,h2⟩,h3⟩=>⟨⟨h1.rs fun i hi=>hr i (by omega),by omega⟩,CSims.mono hn hr h3⟩
 |[],_::_,h=>h.elim
 |_::_,[],h=>h.elim
theorem CSims.snoc {rs:Uk}{n:Nat}{h:CH}{σ:Heap}(hs:CSim rs h σ) (hn:h.n≤n):∀ {hl:List CH}{σl:List Heap},CSims rs n hl σl→CSims rs n (hl++[h]) (σl++[σ])
 |[],[],_=>⟨⟨hs,hn⟩,trivial⟩
 |_::_,_::_,⟨h1,h2⟩=>⟨h1,CSims.snoc hs hn h2⟩
 |[],_::_,h=>h.elim
 |_::_,[],h=>h.elim
theorem Bq {rs:Uk}{h:CH}{σ:Heap}(hs:CSim rs h σ) {op:VOp}{ev:Operand→Value}{v:Value}(hr:At op ev v h=true):JY op ev v σ:=by
 unfold At at hr;split at hr
 ·rename_i q hq;obtain⟨_,σ',h2,_⟩:=YD hs hq;unfold JY;rw[h2];exact M_ _ _ _ hr
 ·cases hr
def Oi:List (Nat×(CH→Bool))→List (Nat×(Heap→Prop))→Prop
 |[],[]=>True
 |c::l,d::m=>(c.1=d.1∧∀ rs h σ,CSim rs h σ→c.2 h=true→d.2 σ)∧Oi l m
 |_,_=>False
theorem Mw {rs:Uk}{h:CH}{σ:Heap}(hs:CSim rs h σ) {r:Nat}:∀ {l:List (Nat×(CH→Bool))}{m:List (Nat×(Heap→Prop))},Oi l m→IA r h l=true→JV r σ m
 |[],[],_,_=>trivial
 |c::l,d::m,⟨⟨h1,h2⟩,h3⟩,he=>by
  simp only[IA,Bool.and_eq_true,Bool.or_eq_true,Bool.not_eq_true'] at he;refine⟨fun hr=>h2 rs h σ hs ?_,Mw hs h3 he.2⟩;rcases he.1 with h|h
  ·rw[h1,Nat.ble_eq_true_of_le hr] at h;cases h
  ·exact h
 |[],_::_,h,_=>h.elim
 |_::_,[],h,_=>h.elim
theorem CSims.mem {rs:Uk}{n:Nat}:∀ {hl:List CH}{σl:List Heap},CSims rs n hl σl→∀ (f:CH→Bool) (Q:Heap→Prop),(∀ rs h σ,CSim rs h σ→f h=true→Q σ)→∀ j,(hl.drop j).all f=true→∀ τ∈σl.drop j,Q τ
 |[],[],_,_,_,_,_,_,τ,hτ=>by simp at hτ
 |h::hl,σ::σl,⟨h1,h2⟩,f,Q,hQ,0,ha,τ,hτ=>by
  simp only[List.drop_zero,List.all_cons,Bool.and_eq_true,List.mem_cons] at ha hτ;rcases hτ with rfl|hτ
  ·exact hQ rs h τ h1.1 ha.1
  ·exact CSims.mem h2 f Q hQ 0 (by simpa using ha.2) τ (by simpa using hτ)
 |h::hl,σ::σl,⟨h1,h2⟩,f,Q,hQ,j+1,ha,τ,hτ=>CSims.mem h2 f Q hQ j (by simpa using ha) τ (by simpa using hτ)
 |[],_::_,h,_,_,_,_,_,_,_=>h.elim
 |_::_,[],h,_,_,_,_,_,_,_=>h.elim
theorem CSims.length {rs:Uk}{n:Nat}:∀ {hl:List CH}{σl:List Heap},CSims rs n hl σl→hl.length=σl.length
 |[],[],_=>rfl
 |_::_,_::_,⟨_,h⟩=>by simp[CSims.length h]
 |[],_::_,h=>h.elim
 |_::_,[],h=>h.elim
theorem Bm (hm:P.follows .mixedOrders=true) (hT:TabOk P T) (cD:Sd P ev) (hG:Good R G) {ys:Ys}{k:ET→CH→A}{K:Env→Heap→Prop}:∀ (ops:List DOper) (et:ET) (env:Env) (hl:List CH) (h:CH) (pe:List (Nat×(CH→Bool))) (rs:Uk) (σl:List Heap) (σ:Heap) (pv:List (Nat×(Heap→Prop))),
  YOk P ys rs h.n→CSim rs h σ→FRel et env→CSims rs h.n hl σl→Oi pe pv→G (M5 T ev R ys ops et hl h pe k)→Oj G rs h (List.length env) k K→Zy (Q1 P) ops env σl σ pv K:=by
 intro ops;induction ops with
 |nil=>intro et env hl h pe rs σl σ pv hY hs hE kz hp he hk;exact hk et h rs σ env (Nat.le_refl _) (fun _ _=>rfl) hs hE rfl he
 |cons o rest ih =>
  intro et env hl h pe rs σl σ pv hY hs hE kz er he hk;have af:=Hg hE;simp only[M5,As hE,af] at he;simp only[Zy];have hlen:=kz.length;split at he
  ·exact(hG.fail he).elim
  ·rename_i hw;rw[hw];refine⟨fun _=>?_,fun hh=>by cases hh⟩;split at he
   ·rename_i aq;rw[if_pos aq];split at he
    ·rename_i p hp;split at he
     ·rename_i kA;obtain⟨mA,po⟩:=kA;simp only[CH.newOk,Bool.and_eq_true,List.all_eq_true] at mA;obtain⟨n1,n2,n3⟩:=mA;have n1:h.n≤p.2.n:=Nat.le_of_ble_eq_true n1;have n2:p.2.n≤1000000000:=Nat.le_of_ble_eq_true n2;have kB:CSim rs p.2 (p.2.toHeap rs):=DE (by omega);refine .inl ⟨p.1,p.2.toHeap rs,?_,?_,?_⟩
      ·refine Rc hm hT cD (Q1y p) hE hY hs hp ?_;intro v h' bj σ' hn hr aZ hg;have hg:(v,h')=p:=osj hg;subst hg;refine⟨rfl,?_⟩;have:CSim rs h' σ':=by
        refine⟨aZ.n,aZ.sm,fun i=>?_⟩;rw[aZ.get];cases gh:h'.get i with
        |none=>rfl
        |some b =>
         rcases Nat.lt_or_ge i h.n with hi|hi
         ·rw[hr i hi]
         ·have aK:=aZ.lt gh;have:=n3 i (List.mem_range'_1.2 ⟨hi,by simp at n1 ⊢;omega⟩);simp only[gh] at this;cases b<;>first|rfl|cases this
       exact this.eq
      ·rw[←hlen];exact Mw kB er po
      ·refine ih _ _ _ p.2 pe rs _ _ pv (hY.mono n1 (fun _ _=>rfl)) kB (hE.put _ _) ((kz.mono n1 (fun _ _=>rfl)).snoc kB (Nat.le_refl _)) er he ?_;intro eZ h2 dD σ2 aP dZ dm dE e9 cg cM;exact hk eZ h2 dD σ2 aP (Nat.le_trans n1 dZ) (fun i hi=>dm i (by omega)) dE e9 (by rw[cg,Zx]) cM
     ·exact(hG.fail he).elim
    ·exact(hG.fail he).elim
   ·rename_i aq;rw[if_neg aq];have done:∀ (u:Value) (nS:List (Nat×(CH→Bool))) (nT:List (Nat×(Heap→Prop))),Oi nS nT→G (M5 T ev R ys rest (et.put o.dst u) hl h nS k)→Zy (Q1 P) rest (X3 env o.dst u) σl σ nT K:=by
     intro u nS nT bp hg;refine ih _ _ hl h nS rs σl σ nT hY hs (hE.put _ _) kz bp hg ?_;intro eZ h2 dD σ2 aP dZ dm dE e9 cg cM;exact hk eZ h2 dD σ2 aP dZ dm dE e9 (by rw[cg,Zx]) cM
    split at he
    ·rename_i aV;rw[if_pos aV];split at he
     ·rename_i p hp;split at he
      ·rename_i hall;obtain⟨_,σ',h2,_⟩:=YD hs hp;rw[h2];refine⟨kz.mem _ _ (fun rs h σ hc hf=>Bq hc hf) _ hall,?_⟩;refine done _ _ _ ?_ he;rw[←hlen];split
       ·exact⟨⟨rfl,fun rs h σ hc hf=>Bq hc hf⟩,er⟩
       ·exact er
      ·exact(hG.fail he).elim
     ·exact(hG.fail he).elim
    ·rename_i aV;rw[if_neg aV];split at he
     ·rename_i p hp;obtain⟨_,σ',h2,_⟩:=YD hs hp;rw[h2];exact done _ _ _ er he
     ·exact(hG.fail he).elim
  ·rename_i hw;rw[hw];refine⟨fun hh=>(by cases hh),fun _=>?_⟩;split at he
   ·rename_i aq;rw[if_pos aq];split at he
    ·rename_i po;refine⟨by rw[←hlen];exact Mw hs er po,?_⟩;refine ih _ _ _ h pe rs _ σ pv hY hs (hE.put _ _) (kz.snoc hs (Nat.le_refl _)) er he ?_;intro eZ h2 dD σ2 aP dZ dm dE e9 cg cM;exact hk eZ h2 dD σ2 aP dZ dm dE e9 (by rw[cg,Zx]) cM
    ·exact(hG.fail he).elim
   ·rename_i aq;rw[if_neg aq];refine ih _ _ _ h pe rs _ σ pv hY hs (hE.put _ _) kz er he ?_;intro eZ h2 dD σ2 aP dZ dm dE e9 cg cM;exact hk eZ h2 dD σ2 aP dZ dm dE e9 (by rw[cg,Zx]) cM
theorem ET.list_eq {e:ET}{env:Env}(h:FRel e env):e.list=env:=by
 apply List.ext_getElem?;intro i;unfold ET.list;rw[List.getElem?_map];rcases Nat.lt_or_ge i e.m with hi|hi
 ·rw[List.getElem?_range hi];have:=h.get i;rw[h.m] at hi;rw[List.getD_eq_getElem?_getD,List.getElem?_eq_getElem hi] at this;rw[List.getElem?_eq_getElem hi,Option.map_some,←this];rfl
 ·rw[List.getElem?_eq_none (by simpa using hi),List.getElem?_eq_none (by rw[←h.m];exact hi)];rfl
theorem S6 {ρ:Plc}{n:Nat}{vs:Array Value}{cs:List Value}(h:VRel ρ n (.tuple vs) (.tuple cs.toArray)):LRel ρ n vs.toList cs:=by
 obtain⟨ds,he,hl⟩:=h.tuple_inv;have:cs.toArray=ds:=by injection he
 subst this;simpa using hl
theorem LK (hm:P.follows .mixedOrders=true) (hT:TabOk P T) (cD:Sd P ev) {ys:Ys}{x:Value×CH}{vs:Array Value}(iN:x.1=.tuple vs) {K:Env→Heap→Prop}{et:ET}{env:Env}{h:CH}{rs:Uk}{σ:Heap}(hY:YOk P ys rs h.n) (hs:CSim rs h σ) (hE:FRel et env)
  (hk:K vs.toList (x.2.toHeap rs)):∀ (alts:List (List DOper)),Fg x (Av T ev ys et h alts)→∀ ops∈alts,Zy (Q1 P) ops env [σ] σ [] fun bg σ1=>∃ aP σ2,DropE σ bg σ1 aP σ2∧K aP σ2:=by
 have one:∀ a:List DOper,Fg x (Q2e T ev ys et h a)→Zy (Q1 P) a env [σ] σ [] fun bg σ1=>∃ aP σ2,DropE σ bg σ1 aP σ2∧K aP σ2:=by intro a ha;refine Bm hm hT cD (SG x) a et env [h] h [] rs [σ] σ [] hY hs hE ⟨⟨hs,Nat.le_refl _⟩,trivial⟩ trivial ha ?_;intro dg h' bj σ' ae hn hr aZ bK hl hg;obtain⟨y,hy,h1,h2,h3⟩:=hg;unfold Q53 at hy;have hd:=Bc hs aZ hr hy h1 h2 h3;rw[ET.list_eq bK,iN] at hd;refine⟨vs.toList,x.2.toHeap rs,?_,hk⟩;intro ρ0 w0 ρ w cs fp oV hH hL;obtain⟨ρ',d1,d2,d3⟩:=hd ρ0 w0 ρ w (.tuple cs.toArray) fp oV hH (VRel.tuple_of hL);exact⟨ρ',S6 d1,d2,d3⟩
 intro alts;induction alts with
 |nil=>rintro⟨y,hy,_⟩;cases hy
 |cons a l ih =>
  intro he ops ho;cases l with
  |nil =>obtain rfl:=List.mem_singleton.1 ho;exact one _ he
  |cons b r =>
   obtain⟨g1,g2⟩:=(SG x).both _ _ he;rcases List.mem_cons.1 ho with rfl|ho
   ·exact one _ g1
   ·exact ih g2 ops ho
theorem C2 (hm:P.follows .mixedOrders=true) (hT:TabOk P T) (cD:Sd P ev) (hG:Good R G) {ys:Ys}{k:ET→CH→A}{K:Env→Heap→Prop}:∀ (aN:List DSeg) (et:ET) (env:Env) (h:CH) (rs:Uk) (σ:Heap),
  YOk P ys rs h.n→CSim rs h σ→FRel et env→G (Pc T ev R ys aN et h k)→Oj G rs h (List.length env) k K→NB (Q1 P) aN env σ K:=by
 intro aN;induction aN with
 |nil=>intro et env h rs σ hY hs hE he hk;exact hk et h rs σ env (Nat.le_refl _) (fun _ _=>rfl) hs hE rfl he
 |cons x rest ih =>
  intro et env h rs σ hY hs hE he hk;have next:Oj G rs h (List.length env) (fun et h=>Pc T ev R ys rest et h k) (fun env σ=>NB (Q1 P) rest env σ K):=by intro jz h1 eM σ1 bg fH eX kn eT dU hg1;refine ih jz bg h1 eM σ1 (hY.mono fH eX) kn eT hg1 ?_;intro eZ h2 dD σ2 aP dZ dm dE e9 cg cM;exact hk eZ h2 dD σ2 aP (Nat.le_trans fH dZ) (fun i hi=>(dm i (by omega)).trans (eX i hi)) dE e9 (cg.trans dU) cM
  cases x with
  |one o=>exact P4 hm hT cD hG [o] et env h rs σ hY hs hE he next
  |alts l =>
   have many:G (match Av T ev ys et h l with
     |some x=>(match x.1 with
      |.tuple vs=>if x.2.room=true∧Nat.ble h.n x.2.n=true∧vs.toList.length=et.m then Pc T ev R ys rest (ET.of vs.toList 0) x.2 k else R.fail
      |_=>R.fail)
     |none=>R.fail)→NB (Q1 P) (.alts l::rest) env σ K:=by
    intro he;split at he
    ·rename_i x hx;split at he
     ·rename_i vs iN;split at he
      ·rename_i hc;obtain⟨c1,c2,c3⟩:=hc;have aT:x.2.n≤1000000000:=Nat.le_of_ble_eq_true c1;have sJ:FRel (ET.of vs.toList 0) vs.toList:=by
        have:=ET.of_rel (args:=vs.toList) (nt:=0) (by show vs.toList.length+(0-vs.toList.length)≤_;have:=hE.sm;omega);simpa using this
       exact LK hm hT cD iN hY hs hE (next _ x.2 rs _ _ (Nat.le_of_ble_eq_true c2) (fun _ _=>rfl) (DE (by omega)) sJ (by rw[c3,hE.m]) he) l ⟨x,hx,rfl,rfl,fun _=>rfl⟩
      ·exact(hG.fail he).elim
     ·exact(hG.fail he).elim
    ·exact(hG.fail he).elim
   match l,he with
   |[],he=>exact many he
   |[a],he =>intro ops ho;obtain rfl:=List.mem_singleton.1 ho;refine Bm hm hT cD hG ops et env [h] h [] rs [σ] σ [] hY hs hE ⟨⟨hs,Nat.le_refl _⟩,trivial⟩ trivial he ?_;intro dg h' bj σ' ae hn hr aZ bK hl hg;exact⟨ae,σ',.refl _ _ _,next dg h' bj σ' ae hn hr aZ bK hl hg⟩
   |a::b::r,he=>exact many he
def Lb (P:Program) (T:Tab) (ev:Q2x) (c:VCode):Prop:=∀ {A:Type}(R:AnsOps A) (G:A→Prop),Good R G→∀ (ys:Ys) (ro:Option Nat) (et:ET) (env:Env) (h:CH) (k:Exit→ET→CH→A) (rs:Uk) (σ:Heap) (Q:Exit→Env→Heap→Prop),
 YOk P ys rs h.n→CSim rs h σ→FRel et env→G (LP T ev R ys c ro et h k)→Q0g G rs h (List.length env) k Q→vwp (Q1 P) c ro Q env σ
theorem Ly (hm:P.follows .mixedOrders=true) (hT:TabOk P T) (cD:Sd P ev) (hG:Good R G) {ys:Ys}{g:Operand}{ps:List Nat}{a b:VCode}{ro:Option Nat}{et:ET}{env:Env}{h:CH}{k:Exit→ET→CH→A}{rs:Uk}{σ:Heap}{Q:Exit→Env→Heap→Prop}
  (hY:YOk P ys rs h.n) (hs:CSim rs h σ) (hE:FRel et env) (he:G (FR T ev R ys (MM et g) ps a b ro et h k)) (hk:Q0g G rs h (List.length env) k Q):vwp (Q1 P) (.rangeF g ps a b) ro Q env σ:=by
 rw[Hg hE] at he;unfold FR at he;simp only[vwp,Cg];split at he
 ·rename_i f first cap hg
  simp only[hg];split at he
  ·rename_i vc rl nt hf;have hF:=hT.code f vc rl nt hf;split at he
   ·rename_i kA;obtain⟨aK,aT⟩:=kA;have l9:(Q1 P).it f=some fun i Y args σ K=>KZ P i Y→VCallsTo P f args σ K:=by
     simp only[Q1];rw[if_pos hF.enterable]
    rw[l9];refine⟨?_,fun r sK=>?_⟩
    ·cases ro with
     |none=>trivial
     |some i =>
      simp only[Q19] at aK;split at aK
      ·rename_i st pend gh;exact⟨_,_,_,_,hs.lp gh⟩
      ·cases aK
    ·let eM:Uk:=fun i=>if i=h.n then (env,r) else rs i
     have ep:∀ i,i<h.n→eM i=rs i:=fun i hi=>by simp only[eM];rw[if_neg (by omega)]
     have kn:CSim eM (h.push (.lp .ready none)) (σ.push (.obj (.lp env r .ready none) true)) :=
      (hs.rs ep).push aT (by simp[EB.to,eM])
     have sL:YOk P ((h.n,⟨ps,a,b,et⟩)::ys) eM (h.push (.lp .ready none)).n:=by
      intro i c hc;simp only[Ys.find] at hc;split at hc
      ·rename_i dO;have dO:=Nat.eq_of_beq_eq_true dO;subst dO;obtain rfl:=osj hc;refine⟨Nat.lt_succ_self _,by simp only[eM,if_true];exact hE,?_⟩;rw[hs.n] at *
       simpa [eM,hs.n] using sK
      ·obtain⟨h1,h2,h3⟩:=hY i c hc;rw[ep i h1];exact⟨Nat.lt_succ_of_lt h1,h2,h3⟩
     rw[←hs.n];refine Si hm cD hG hf hF sL kn he ?_;intro v h' bj σ' hn hr aZ dh;have lf:h.n+1≤h'.n:=hn;unfold Q3e at dh;unfold Q0a;split at dh
     ·rename_i st pend gh;have hi:=aZ.lt gh;simp only[aZ.lp gh];split at dh
      ·rename_i cm;refine⟨(by rintro rfl;cases cm),?_⟩;have dw:∀ j,j<h.n→bj j=rs j:=fun j hj=>(hr j (Nat.lt_succ_of_lt hj)).trans (ep j hj);have aM:=aZ.kill hi;split at dh
       ·exact hk _ _ _ bj _ _ (by show h.n≤h'.n;omega) dw aM hE rfl dh
       ·exact hk _ _ _ bj _ _ (by show h.n≤h'.n;omega) dw aM hE rfl dh
       ·exact hk _ _ _ bj _ _ (by show h.n≤h'.n;omega) dw aM hE rfl dh
       ·exact(hG.fail dh).elim
      ·exact(hG.fail dh).elim
     ·exact(hG.fail dh).elim
   ·exact(hG.fail he).elim
  ·exact(hG.fail he).elim
 ·exact(hG.fail he).elim
theorem Ce (hm:P.follows .mixedOrders=true) (hT:TabOk P T) (cD:Sd P ev)
  (mB:∀ b,Lb P T ev b→Lb P T ev (.loop b)):∀ (c:VCode),Lb P T ev c:=by
 intro c;induction c with
 |skip=>intro A R G hG ys ro et env h k rs σ Q hY hs hE he hk;exact hk _ _ _ rs σ _ (Nat.le_refl _) (fun _ _=>rfl) hs hE rfl he
 |region ops =>intro A R G hG ys ro et env h k rs σ Q hY hs hE he hk;exact P4 hm hT cD hG ops et env h rs σ hY hs hE he fun dg h' bj σ' ae h1 h2 h3 h4 h5 h6=>hk _ _ _ _ _ _ h1 h2 h3 h4 h5 h6
 |regionD aN =>intro A R G hG ys ro et env h k rs σ Q hY hs hE he hk;exact C2 hm hT cD hG aN et env h rs σ hY hs hE he fun dg h' bj σ' ae h1 h2 h3 h4 h5 h6=>hk _ _ _ _ _ _ h1 h2 h3 h4 h5 h6
 |rangeF g ps a b eK ef =>intro A R G hG ys ro et env h k rs σ Q hY hs hE he hk;exact Ly hm hT cD hG hY hs hE he hk
 |seq a b eK ef =>
  intro A R G hG ys ro et env h k rs σ Q hY hs hE he hk;simp only[vwp];refine eK R G hG ys ro et env h _ rs σ _ hY hs hE he ?_;intro e dg h' bj σ' ae hn hr aZ bK hl hg;cases e with
  |normal =>refine ef R G hG ys ro dg ae h' k bj σ' Q (hY.mono hn hr) aZ bK hg ?_;intro e2 eZ h2 dD σ2 aP dZ dm dE e9 cg cM;exact hk e2 eZ h2 dD σ2 aP (Nat.le_trans hn dZ) (fun i hi=>(dm i (by omega)).trans (hr i hi)) dE e9 (cg.trans hl) cM
  |_=>exact hk _ dg h' bj σ' ae hn hr aZ bK hl hg
 |cond c a b eK ef =>
  intro A R G hG ys ro et env h k rs σ Q hY hs hE he hk;have he:G (Q2b R (MM et c) (LP T ev R ys a ro et h k) (LP T ev R ys b ro et h k)):=he;rw[Hg hE] at he;unfold Q2b at he;simp only[vwp];split at he
  ·rename_i hc;rw[hc];exact⟨fun _=>eK R G hG ys ro et env h k rs σ Q hY hs hE he hk,fun hh=>by cases hh⟩
  ·rename_i hc;rw[hc];exact⟨fun hh=>(by cases hh),fun _=>ef R G hG ys ro et env h k rs σ Q hY hs hE he hk⟩
  ·exact(hG.fail he).elim
 |block id b ih =>
  intro A R G hG ys ro et env h k rs σ Q hY hs hE he hk;simp only[vwp];refine ih R G hG ys ro et env h _ rs σ _ hY hs hE he ?_;intro e dg h' bj σ' ae hn hr aZ bK hl hg;cases e with
  |exit gj =>
   simp only[IV] at hg;simp only[Ac];split at hg
   ·rename_i a7;rw[if_pos a7];exact hk _ dg h' bj σ' ae hn hr aZ bK hl hg
   ·rename_i a7;rw[if_neg a7];exact hk _ dg h' bj σ' ae hn hr aZ bK hl hg
  |_=>exact hk _ dg h' bj σ' ae hn hr aZ bK hl hg
 |loop b ih =>intro A R G hG ys ro et env h k rs σ Q hY hs hE he hk;exact mB b ih R G hG ys ro et env h k rs σ Q hY hs hE he hk
 |exit id=>intro A R G hG ys ro et env h k rs σ Q hY hs hE he hk;exact hk _ _ _ rs σ _ (Nat.le_refl _) (fun _ _=>rfl) hs hE rfl he
 |ret=>intro A R G hG ys ro et env h k rs σ Q hY hs hE he hk;exact hk _ _ _ rs σ _ (Nat.le_refl _) (fun _ _=>rfl) hs hE rfl he
 |bad=>intro A R G hG ys ro et env h k rs σ Q hY hs hE he hk;exact(hG.fail he).elim
theorem Rw {v:Value}(h:EA v=true):QO v=true∨∃ vs,v=.tuple vs∧vs.toList.all QO=true:=by unfold EA at h;split at h<;>first|exact .inl rfl|exact .inr ⟨_,rfl,h⟩|cases h
theorem OA {ρ:Plc}{n:Nat}{v c:Value}(h:EA v=true) (hv:VRel ρ n v c):c=v:=by
 rcases Rw h with hp|⟨vs,rfl,hall⟩
 ·exact KG hp hv
 ·obtain⟨ds,rfl,hl⟩:=hv.tuple_inv;have hall:∀ x∈vs.toList,QO x=true:=List.all_eq_true.1 hall;have:ds.toList=vs.toList:=by
   apply List.ext_getElem?;intro i;rcases Nat.lt_or_ge i vs.toList.length with hi|hi
   ·have ck:i<ds.toList.length:=by rw[←hl.1];exact hi
    rw[List.getElem?_eq_getElem hi,List.getElem?_eq_getElem ck];rw[KG (hall _ (List.getElem_mem hi)) (hl.2 i _ _ (List.getElem?_eq_getElem hi) (List.getElem?_eq_getElem ck))]
   ·rw[List.getElem?_eq_none hi,List.getElem?_eq_none (by rw[←hl.1];exact hi)]
  rw[Rh this]
theorem Fu {ρ:Plc}{n:Nat}{v:Value}(h:EA v=true):VRel ρ n v v:=by
 rcases Rw h with hp|⟨vs,rfl,hall⟩
 ·exact XY hp
 ·exact .tuple _ _ rfl fun i h1 _=>XY (List.all_eq_true.1 hall _ (by simp))
theorem DT (m:Nat) (env:Env) (h:List.length env=m):H9 (List.range m) env=env:=by
 apply List.ext_getElem?;intro i;simp only[H9,List.getElem?_map];rcases Nat.lt_or_ge i m with hi|hi
 ·rw[List.getElem?_range hi];simp[List.getD_eq_getElem?_getD,h,hi]
 ·rw[List.getElem?_eq_none (by simpa using hi),List.getElem?_eq_none (by omega)];rfl
theorem R6:∀ (l:List Nat) (vs base:List Value) (i:Nat),l.Nodup→vs.length=l.length→(∀ x∈l,x<base.length)→(Xp l vs base)[i]?=if i∈l then vs[l.idxOf i]? else base[i]?
 |[],[],base,i,_,_,_=>by simp[Xp]
 |[],_::_,_,_,_,h,_=>by simp at h
 |_::_,[],_,_,_,h,_=>by simp at h
 |x::l,v::vs,base,i,hn,h,hb=>by
  obtain⟨h1,h2⟩:=List.nodup_cons.1 hn;simp only[Xp];rw[R6 l vs _ i h2 (by simpa using h) (fun y hy=>by rw[List.length_set];exact hb y (by simp[hy]))];by_cases lq:i=x
  ·subst lq;rw[if_neg h1,if_pos (by simp),List.getElem?_set_self (hb i (by simp))];simp
  ·by_cases gA:i∈l
   ·have e:(x::l).idxOf i=l.idxOf i+1:=by rw[List.idxOf_cons,show (x==i)=false from by simpa using Ne.symm lq];rfl
    rw[if_pos gA,if_pos (by simp[gA]),e];rfl
   ·rw[if_neg gA,if_neg (by simp[lq,gA]),List.getElem?_set_ne (Ne.symm lq)]
theorem LL (m:Nat) (vs:List Value) (h:vs.length=m):Xp (List.range m) vs (List.replicate m poison)=vs:=by
 apply List.ext_getElem?;intro i;rw[R6 _ _ _ _ List.nodup_range (by simpa using h) (fun x hx=>by simpa using hx)];split
 ·rename_i hi;have hi:=List.mem_range.1 hi;have:(List.range m).idxOf i=i:=by
   have h1:(List.range m).idxOf i<(List.range m).length:=List.idxOf_lt_length_of_mem (List.mem_range.2 hi);have h2:=List.getElem_idxOf h1;rw[List.getElem_range] at h2;exact h2
  rw[this]
 ·rename_i hi;have hi:m≤i:=by simpa using hi
  rw[List.getElem?_eq_none (by simpa using hi),List.getElem?_eq_none (by omega)]
theorem EX (hm:P.follows .mixedOrders=true) (hT:TabOk P T):∀ (n:Nat) (c:VCode),Lb P T (SY T n) c:=by
 intro n;induction n using Nat.strongRecOn with
 |ind n nP =>
  have cD:Sd P (SY T n):=by
   cases n with
   |zero=>intro A R G hG ys c ro et env h k rs σ Q hY hs hE he hk;exact(hG.fail he).elim
   |succ n=>intro A R G hG ys c ro et env h k rs σ Q hY hs hE he hk;exact nP n (Nat.lt_succ_self _) c R G hG ys ro et env h k rs σ Q hY hs hE he hk
  refine Ce hm hT cD fun b ef=>?_;intro A R G hG ys ro et env h k rs σ Q hY hs hE he hk;have mC:∀ j,j≤n→Lb P T (SY T j) b:=fun j hj=>by
   rcases Nat.lt_or_ge j n with h'|h'
   ·exact nP j h' b
   ·obtain rfl:j=n:=by omega
    exact ef
  simp only[vwp];refine⟨List.range (List.length env),fun j vs σ1=>j≤n∧∃ jz h1 eM,h.n≤h1.n∧(∀ i,i<h.n→eM i=rs i)∧CSim eM h1 σ1∧FRel jz vs∧List.length vs=List.length env∧G (LP T (SY T j) R ys (.loop b) ro jz h1 k),n,?_,?_⟩
  ·rw[DT _ _ rfl];exact⟨Nat.le_refl _,et,h,rs,Nat.le_refl _,fun _ _=>rfl,hs,hE,rfl,he⟩
  ·rintro j vs σ1 ⟨hj,jz,h1,eM,g1,g2,g3,gE,g4,g5⟩;rw[LL _ _ g4];refine mC j hj R G hG ys ro jz vs h1 _ eM σ1 _ (hY.mono g1 g2) g3 gE g5 ?_;intro e dg h' bj σ' ae hn hr aZ bK hl hg;cases e with
   |normal =>
    cases j with
    |zero=>exact(hG.fail hg).elim
    |succ j =>
     refine⟨j,Nat.lt_succ_self _,by omega,dg,h',bj,Nat.le_trans g1 hn,fun i hi=>(hr i (by omega)).trans (g2 i hi),aZ,?_,?_,?_⟩
     ·rw[DT _ _ (hl.trans g4)];exact bK
     ·rw[DT _ _ (hl.trans g4)];exact hl.trans g4
     ·exact hg
   |_=>exact hk _ dg h' bj σ' ae (Nat.le_trans g1 hn) (fun i hi=>(hr i (by omega)).trans (g2 i hi)) aZ bK (hl.trans g4) hg
theorem Cv (hm:P.follows .mixedOrders=true) (hT:TabOk P T) (n:Nat):Sd P (SY T n):=by
 cases n with
 |zero=>intro A R G hG ys c ro et env h k rs σ Q hY hs hE he hk;exact(hG.fail he).elim
 |succ n=>intro A R G hG ys c ro et env h k rs σ Q hY hs hE he hk;exact EX hm hT n c R G hG ys ro et env h k rs σ Q hY hs hE he hk
theorem HRel.forget {ρ:Plc}{σ:Heap}{w:World}(hH:HRel ρ σ w):HRel (fun _=>none) Heap.empty w :=
 ⟨⟨fun i b h=>(by cases h),fun _ _=>rfl,fun i p h=>(by cases h),fun i j p q b _ h=>(by cases h)⟩,fun g cs hg=>⟨(hH.tab g cs hg).1,fun ⟨_,_,_,h,_⟩=>by cases h⟩⟩
theorem L_ {f:FuncId}{args:List Value}(ha:args.all QO=true) {v:Value}(hv:EA v=true) (he:Xg P f) (h0:VCallsTo P f args Heap.empty (fun u _=>u=v)) {σ:Heap}{K:Value→Heap→Prop}(hK:K v σ):VCalled P f args σ K:=by
 refine VCallsTo.called he ?_;intro ρ w aw hH hL;refine (h0 (fun _=>none) w aw hH.forget ?_).mono ?_
 ·refine⟨hL.1,fun i a c i_ hc=>?_⟩;have hp:=List.all_eq_true.1 ha a (List.mem_of_getElem? i_);have:=KG hp (hL.2 i a c i_ hc);subst this;exact XY hp
 ·rintro e w' ⟨c,rfl,u,ρ',σ',rfl,dH,fL,hE⟩;refine⟨c,rfl,u,ρ,σ,hK,?_,?_,?_⟩
  ·have:c=u:=OA hv dH;subst this;exact Fu hv
  ·exact hH.world hE.size (fun i p hp=>hE.keep _ (hH.lt i p hp) (fun ⟨_,_,_,h,_⟩=>by cases h)) fun g cs hg=>hE.keep _ (hH.tab.lt hg) (fun ⟨_,_,_,h,_⟩=>by cases h)
  ·exact⟨hE.os,hE.tape,hE.output,hE.size,fun B hB _=>hE.keep B hB (fun ⟨_,_,_,h,_⟩=>by cases h),fun _ _ h=>h,Nat.le_refl _,fun _ _ _ h=>h⟩
theorem Oo (hm:P.follows .mixedOrders=true) (hT:TabOk P T) (n:Nat) {f:FuncId}{vc:VCode}{rl:List VResult}{nt:Nat}(hF:Fun P f vc rl nt) (args:List Value) (ha:args.all QO=true) (v:Value) (hv:EA v=true) (p:Value→Bool) (hp:∀ u,p u=true→u=v)
  (dz:Nat.ble (ET.of args nt).m 1000000=true) (he:SY T n VI [] vc none (ET.of args nt) CH.empty (Q17 false rl fun v _=>p v)=true) {σ:Heap}{K:Value→Heap→Prop}(hK:K v σ):VCalled P f args σ K:=by
 refine L_ ha hv hF.enterable ?_ hK;refine hF.callsTo hm C9 ?_
 exact Cv hm hT n VI (·=true) E5 [] vc none _ _ CH.empty _ (fun _=>([],default)) Heap.empty _ (fun i c h=>by cases h) ⟨rfl,by decide,fun i=>rfl⟩ (ET.of_rel (Nat.le_of_ble_eq_true dz)) he
  (Nc (R:=VI) E5 fun v' h' bj σ' _ _ _ hg=>hp v' hg)
end
end Go.V
namespace Go.V
open Go
def Q1q (P:Program) (f:FuncId):Option FEnt→Prop
 |none=>True
 |some (.code vc rs nt)=>Fun P f vc rs nt
 |some (.codeJ vc rs nt)=>Fun P f vc rs nt
 |some (.codeM vc rs nt ms)=>Fun P f vc rs nt∧∀ m∈ms,FA P f m
 |some .same=>∀ (v:Value) (σ:Heap) (K:Value→Heap→Prop),K v σ→VCalled P f [v] σ K
def EntsOk (P:Program):Nat→List (Option FEnt)→Prop
 |_,[]=>True
 |i,e::l=>Q1q P i e∧EntsOk P (i+1) l
theorem EntsOk.get {P:Program}:∀ {l:List (Option FEnt)}{i j:Nat}{e:FEnt},EntsOk P i l→l[j]?=some (some e)→Q1q P (i+j) (some e)
 |[],_,_,_,_,h=>by simp at h
 |x::l,i,0,e,h,hj=>by simp at hj;subst hj;exact h.1
 |x::l,i,j+1,e,h,hj=>by have:=EntsOk.get (l:=l) (i:=i+1) (j:=j) h.2 (by simpa using hj);rw[Nat.add_assoc,Nat.add_comm 1 j] at this;exact this
theorem Q0i {P:Program}{l:List (Option FEnt)}(h:EntsOk P 0 l):TabOk P (fun f=>(l[f]?).join):=by
 have key:∀ f e,(l[f]?).join=some e→Q1q P f (some e):=fun f e he=>by
  have:=EntsOk.get (j:=f) (e:=e) h (by
   cases hl:l[f]? with
   |none=>rw[hl] at he;cases he
   |some x=>rw[hl] at he;simp at he;rw[he])
  simpa using this
 exact⟨fun f vc rs nt he=>key f _ he,fun f vc rs nt he=>key f _ he,fun f vc rs nt ms he=>key f _ he,fun f he=>key f _ he⟩
def isTrue:Value→Bool
 |.bool true=>true
 |_=>false
theorem Io {v:Value}(h:isTrue v=true):v=.bool true:=by
 unfold isTrue at h;split at h
 ·rfl
 ·cases h
theorem AS {P:Program}(hm:P.follows .mixedOrders=true) {T:Tab}(hT:TabOk P T) (n:Nat) {f:FuncId}{vc:VCode}{rl:List VResult}{nt:Nat}(hF:Fun P f vc rl nt) (dz:Nat.ble (ET.of [] nt).m 1000000=true)
  (he:SY T n VI [] vc none (ET.of [] nt) CH.empty (Q17 false rl fun v _=>isTrue v)=true) {σ:Heap}{K:Value→Heap→Prop}(hK:K (.bool true) σ):VCalled P f [] σ K :=
 Oo hm hT n hF [] rfl (.bool true) rfl isTrue (fun _ h=>Io h) dz he hK
end Go.V
namespace Go.Proofs.Tryz
open Go Go.V Go.Proofs
theorem mixed:Tryz.prog.follows .mixedOrders=true:=by kernel_rfl
noncomputable def cof (fn:Func):VCode:=match fn.body.bind (comp Tryz.prog) with|some c=>c|none=>.bad
theorem Q3 {fn:Func}(h:(fn.body.bind (comp Tryz.prog)).isSome=true):fn.body.bind (comp Tryz.prog)=some (cof fn):=by
 unfold cof;cases h2:fn.body.bind (comp Tryz.prog) with
 |none=>rw[h2] at h;cases h
 |some c=>rfl
noncomputable def c2:VCode:=cof Tryz.f2
theorem Z0y:Fun Tryz.prog 2 c2 [] 1:=⟨Tryz.f2,Tryz.func2,Q3 (by kernel_rfl),by kernel_rfl,rfl,rfl⟩
noncomputable def c3:VCode:=cof Tryz.f3
theorem fun3:Fun Tryz.prog 3 c3 [.tmp 6] 203:=⟨Tryz.f3,Tryz.func3,Q3 (by kernel_rfl),by kernel_rfl,rfl,rfl⟩
noncomputable def c4:VCode:=cof Tryz.f4
theorem Z19:Fun Tryz.prog 4 c4 [.tmp 2] 186:=⟨Tryz.f4,Tryz.func4,Q3 (by kernel_rfl),by kernel_rfl,rfl,rfl⟩
noncomputable def c5:VCode:=cof Tryz.f5
theorem Z08:Fun Tryz.prog 5 c5 [.tmp 2,.tmp 3] 54:=⟨Tryz.f5,Tryz.func5,Q3 (by kernel_rfl),by kernel_rfl,rfl,rfl⟩
noncomputable def c6:VCode:=cof Tryz.f6
theorem Z04:Fun Tryz.prog 6 c6 [.cell 2 true 4,.cell 3 true 2] 45:=⟨Tryz.f6,Tryz.func6,Q3 (by kernel_rfl),by kernel_rfl,rfl,rfl⟩
noncomputable def c7:VCode:=cof Tryz.f7
theorem Q99:Fun Tryz.prog 7 c7 [.tmp 4,.tmp 5] 28:=⟨Tryz.f7,Tryz.func7,Q3 (by kernel_rfl),by kernel_rfl,rfl,rfl⟩
noncomputable def c8:VCode:=cof Tryz.f8
theorem Q9x:Fun Tryz.prog 8 c8 [.tmp 4] 16:=⟨Tryz.f8,Tryz.func8,Q3 (by kernel_rfl),by kernel_rfl,rfl,rfl⟩
noncomputable def c9:VCode:=cof Tryz.f9
theorem Q9j:Fun Tryz.prog 9 c9 [.tmp 6,.tmp 7] 29:=⟨Tryz.f9,Tryz.func9,Q3 (by kernel_rfl),by kernel_rfl,rfl,rfl⟩
noncomputable def c10:VCode:=cof Tryz.f10
theorem Q3t:Fun Tryz.prog 10 c10 [.tmp 2] 6:=⟨Tryz.f10,Tryz.func10,Q3 (by kernel_rfl),by kernel_rfl,rfl,rfl⟩
noncomputable def c11:VCode:=cof Tryz.f11
theorem Q54:Fun Tryz.prog 11 c11 [.tmp 0] 34:=⟨Tryz.f11,Tryz.func11,Q3 (by kernel_rfl),by kernel_rfl,rfl,rfl⟩
noncomputable def c12:VCode:=cof Tryz.f12
theorem Q5u:Fun Tryz.prog 12 c12 [.tmp 0] 42:=⟨Tryz.f12,Tryz.func12,Q3 (by kernel_rfl),by kernel_rfl,rfl,rfl⟩
noncomputable def c13:VCode:=cof Tryz.f13
theorem Q5e:Fun Tryz.prog 13 c13 [.cell 6 true 2,.tmp 7,.tmp 8] 37:=⟨Tryz.f13,Tryz.func13,Q3 (by kernel_rfl),by kernel_rfl,rfl,rfl⟩
noncomputable def c14:VCode:=cof Tryz.f14
theorem Q4f:Fun Tryz.prog 14 c14 [.cell 4 true 2] 8:=⟨Tryz.f14,Tryz.func14,Q3 (by kernel_rfl),by kernel_rfl,rfl,rfl⟩
noncomputable def c15:VCode:=cof Tryz.f15
theorem Q7n:Fun Tryz.prog 15 c15 [.tmp 4,.tmp 5] 15:=⟨Tryz.f15,Tryz.func15,Q3 (by kernel_rfl),by kernel_rfl,rfl,rfl⟩
noncomputable def c16:VCode:=cof Tryz.f16
theorem Q83:Fun Tryz.prog 16 c16 [.tmp 4,.tmp 5,.tmp 6] 73:=⟨Tryz.f16,Tryz.func16,Q3 (by kernel_rfl),by kernel_rfl,rfl,rfl⟩
noncomputable def c17:VCode:=cof Tryz.f17
theorem Q8f:Fun Tryz.prog 17 c17 [.tmp 6,.tmp 7,.tmp 8] 60:=⟨Tryz.f17,Tryz.func17,Q3 (by kernel_rfl),by kernel_rfl,rfl,rfl⟩
noncomputable def c18:VCode:=cof Tryz.f18
theorem Q8s:Fun Tryz.prog 18 c18 [.tmp 6,.tmp 7] 93:=⟨Tryz.f18,Tryz.func18,Q3 (by kernel_rfl),by kernel_rfl,rfl,rfl⟩
noncomputable def c19:VCode:=cof Tryz.f19
theorem Q81:Fun Tryz.prog 19 c19 [.tmp 0] 48:=⟨Tryz.f19,Tryz.func19,Q3 (by kernel_rfl),by kernel_rfl,rfl,rfl⟩
noncomputable def c20:VCode:=cof Tryz.f20
theorem Q4d:Fun Tryz.prog 20 c20 [.tmp 2] 29:=⟨Tryz.f20,Tryz.func20,Q3 (by kernel_rfl),by kernel_rfl,rfl,rfl⟩
noncomputable def c21:VCode:=cof Tryz.f21
theorem Q49:Fun Tryz.prog 21 c21 [.tmp 2] 5:=⟨Tryz.f21,Tryz.func21,Q3 (by kernel_rfl),by kernel_rfl,rfl,rfl⟩
noncomputable def c22:VCode:=cof Tryz.f22
theorem Q5q:Fun Tryz.prog 22 c22 [.cell 2 true 2] 41:=⟨Tryz.f22,Tryz.func22,Q3 (by kernel_rfl),by kernel_rfl,rfl,rfl⟩
noncomputable def c23:VCode:=cof Tryz.f23
theorem Q4j:Fun Tryz.prog 23 c23 [.cell 4 true 2,.tmp 5] 21:=⟨Tryz.f23,Tryz.func23,Q3 (by kernel_rfl),by kernel_rfl,rfl,rfl⟩
noncomputable def c24:VCode:=cof Tryz.f24
theorem Q6l:Fun Tryz.prog 24 c24 [.tmp 2] 13:=⟨Tryz.f24,Tryz.func24,Q3 (by kernel_rfl),by kernel_rfl,rfl,rfl⟩
noncomputable def c25:VCode:=cof Tryz.f25
theorem Q6q:Fun Tryz.prog 25 c25 [.tmp 4,.tmp 5] 62:=⟨Tryz.f25,Tryz.func25,Q3 (by kernel_rfl),by kernel_rfl,rfl,rfl⟩
noncomputable def c26:VCode:=cof Tryz.f26
theorem Q7y:Fun Tryz.prog 26 c26 [.cell 2 true 2,.tmp 3] 14:=⟨Tryz.f26,Tryz.func26,Q3 (by kernel_rfl),by kernel_rfl,rfl,rfl⟩
noncomputable def c27:VCode:=cof Tryz.f27
theorem Q89:Fun Tryz.prog 27 c27 [.tmp 4,.tmp 5] 18:=⟨Tryz.f27,Tryz.func27,Q3 (by kernel_rfl),by kernel_rfl,rfl,rfl⟩
noncomputable def c28:VCode:=cof Tryz.f28
theorem Q7j:Fun Tryz.prog 28 c28 [.tmp 4] 26:=⟨Tryz.f28,Tryz.func28,Q3 (by kernel_rfl),by kernel_rfl,rfl,rfl⟩
noncomputable def c29:VCode:=cof Tryz.f29
theorem Q6n:Fun Tryz.prog 29 c29 [.cell 6 true 3,.tmp 7] 33:=⟨Tryz.f29,Tryz.func29,Q3 (by kernel_rfl),by kernel_rfl,rfl,rfl⟩
noncomputable def c30:VCode:=cof Tryz.f30
theorem Q42:Fun Tryz.prog 30 c30 [.tmp 2,.tmp 3] 41:=⟨Tryz.f30,Tryz.func30,Q3 (by kernel_rfl),by kernel_rfl,rfl,rfl⟩
noncomputable def c31:VCode:=cof Tryz.f31
theorem Q92:Fun Tryz.prog 31 c31 [.tmp 4,.tmp 5,.tmp 6] 29:=⟨Tryz.f31,Tryz.func31,Q3 (by kernel_rfl),by kernel_rfl,rfl,rfl⟩
noncomputable def c32:VCode:=cof Tryz.f32
theorem Q7k:Fun Tryz.prog 32 c32 [.tmp 4] 63:=⟨Tryz.f32,Tryz.func32,Q3 (by kernel_rfl),by kernel_rfl,rfl,rfl⟩
noncomputable def c33:VCode:=cof Tryz.f33
theorem Q62:Fun Tryz.prog 33 c33 [.tmp 2] 15:=⟨Tryz.f33,Tryz.func33,Q3 (by kernel_rfl),by kernel_rfl,rfl,rfl⟩
noncomputable def c34:VCode:=cof Tryz.f34
theorem Q8w:Fun Tryz.prog 34 c34 [.tmp 6] 21:=⟨Tryz.f34,Tryz.func34,Q3 (by kernel_rfl),by kernel_rfl,rfl,rfl⟩
noncomputable def c35:VCode:=cof Tryz.f35
theorem Q7i:Fun Tryz.prog 35 c35 [.cell 6 true 3,.tmp 7] 58:=⟨Tryz.f35,Tryz.func35,Q3 (by kernel_rfl),by kernel_rfl,rfl,rfl⟩
noncomputable def c36:VCode:=cof Tryz.f36
theorem Q79:Fun Tryz.prog 36 c36 [.tmp 2] 70:=⟨Tryz.f36,Tryz.func36,Q3 (by kernel_rfl),by kernel_rfl,rfl,rfl⟩
noncomputable def c37:VCode:=cof Tryz.f37
theorem Q8y:Fun Tryz.prog 37 c37 [.tmp 6] 11:=⟨Tryz.f37,Tryz.func37,Q3 (by kernel_rfl),by kernel_rfl,rfl,rfl⟩
noncomputable def c38:VCode:=cof Tryz.f38
theorem Q96:Fun Tryz.prog 38 c38 [.tmp 6,.tmp 7] 130:=⟨Tryz.f38,Tryz.func38,Q3 (by kernel_rfl),by kernel_rfl,rfl,rfl⟩
noncomputable def c39:VCode:=cof Tryz.f39
theorem Q7h:Fun Tryz.prog 39 c39 [.tmp 8,.tmp 9,.tmp 10] 47:=⟨Tryz.f39,Tryz.func39,Q3 (by kernel_rfl),by kernel_rfl,rfl,rfl⟩
noncomputable def c40:VCode:=cof Tryz.f40
theorem Q4l:Fun Tryz.prog 40 c40 [.tmp 2] 10:=⟨Tryz.f40,Tryz.func40,Q3 (by kernel_rfl),by kernel_rfl,rfl,rfl⟩
noncomputable def c41:VCode:=cof Tryz.f41
theorem Q48:Fun Tryz.prog 41 c41 [.tmp 2] 5:=⟨Tryz.f41,Tryz.func41,Q3 (by kernel_rfl),by kernel_rfl,rfl,rfl⟩
noncomputable def c42:VCode:=cof Tryz.f42
theorem Q3w:Fun Tryz.prog 42 c42 [.tmp 6] 11:=⟨Tryz.f42,Tryz.func42,Q3 (by kernel_rfl),by kernel_rfl,rfl,rfl⟩
noncomputable def c43:VCode:=cof Tryz.f43
theorem Q4k:Fun Tryz.prog 43 c43 [.tmp 4] 9:=⟨Tryz.f43,Tryz.func43,Q3 (by kernel_rfl),by kernel_rfl,rfl,rfl⟩
noncomputable def c44:VCode:=cof Tryz.f44
theorem Q5w:Fun Tryz.prog 44 c44 [.cell 2 true 2] 29:=⟨Tryz.f44,Tryz.func44,Q3 (by kernel_rfl),by kernel_rfl,rfl,rfl⟩
noncomputable def c45:VCode:=cof Tryz.f45
theorem Q5m:Fun Tryz.prog 45 c45 [.tmp 2] 10:=⟨Tryz.f45,Tryz.func45,Q3 (by kernel_rfl),by kernel_rfl,rfl,rfl⟩
noncomputable def c46:VCode:=cof Tryz.f46
theorem Q4s:Fun Tryz.prog 46 c46 [.tmp 6] 11:=⟨Tryz.f46,Tryz.func46,Q3 (by kernel_rfl),by kernel_rfl,rfl,rfl⟩
noncomputable def c47:VCode:=cof Tryz.f47
theorem Q45:Fun Tryz.prog 47 c47 [.tmp 4] 24:=⟨Tryz.f47,Tryz.func47,Q3 (by kernel_rfl),by kernel_rfl,rfl,rfl⟩
noncomputable def c48:VCode:=cof Tryz.f48
theorem Q4b:Fun Tryz.prog 48 c48 [.tmp 4] 38:=⟨Tryz.f48,Tryz.func48,Q3 (by kernel_rfl),by kernel_rfl,rfl,rfl⟩
noncomputable def c49:VCode:=cof Tryz.f49
theorem Q65:Fun Tryz.prog 49 c49 [.tmp 2] 18:=⟨Tryz.f49,Tryz.func49,Q3 (by kernel_rfl),by kernel_rfl,rfl,rfl⟩
noncomputable def c50:VCode:=cof Tryz.f50
theorem Q69:Fun Tryz.prog 50 c50 [.tmp 4] 20:=⟨Tryz.f50,Tryz.func50,Q3 (by kernel_rfl),by kernel_rfl,rfl,rfl⟩
noncomputable def c51:VCode:=cof Tryz.f51
theorem Q5a:Fun Tryz.prog 51 c51 [.tmp 4] 36:=⟨Tryz.f51,Tryz.func51,Q3 (by kernel_rfl),by kernel_rfl,rfl,rfl⟩
noncomputable def c52:VCode:=cof Tryz.f52
theorem Q3h:Fun Tryz.prog 52 c52 [.tmp 2] 15:=⟨Tryz.f52,Tryz.func52,Q3 (by kernel_rfl),by kernel_rfl,rfl,rfl⟩
noncomputable def c53:VCode:=cof Tryz.f53
theorem Q6j:Fun Tryz.prog 53 c53 [.tmp 4] 9:=⟨Tryz.f53,Tryz.func53,Q3 (by kernel_rfl),by kernel_rfl,rfl,rfl⟩
noncomputable def c54:VCode:=cof Tryz.f54
theorem Q3a:Fun Tryz.prog 54 c54 [.cell 6 true 2] 44:=⟨Tryz.f54,Tryz.func54,Q3 (by kernel_rfl),by kernel_rfl,rfl,rfl⟩
noncomputable def c55:VCode:=cof Tryz.f55
theorem Q8q:Fun Tryz.prog 55 c55 [.tmp 2] 16:=⟨Tryz.f55,Tryz.func55,Q3 (by kernel_rfl),by kernel_rfl,rfl,rfl⟩
noncomputable def c56:VCode:=cof Tryz.f56
theorem Q7g:Fun Tryz.prog 56 c56 [.tmp 2,.tmp 3] 64:=⟨Tryz.f56,Tryz.func56,Q3 (by kernel_rfl),by kernel_rfl,rfl,rfl⟩
noncomputable def c57:VCode:=cof Tryz.f57
theorem Q3y:Fun Tryz.prog 57 c57 [.tmp 2] 8:=⟨Tryz.f57,Tryz.func57,Q3 (by kernel_rfl),by kernel_rfl,rfl,rfl⟩
noncomputable def c58:VCode:=cof Tryz.f58
theorem Q95:Fun Tryz.prog 58 c58 [.tmp 3] 18:=⟨Tryz.f58,Tryz.func58,Q3 (by kernel_rfl),by kernel_rfl,rfl,rfl⟩
noncomputable def c59:VCode:=cof Tryz.f59
theorem Q8n:Fun Tryz.prog 59 c59 [.tmp 4] 9:=⟨Tryz.f59,Tryz.func59,Q3 (by kernel_rfl),by kernel_rfl,rfl,rfl⟩
noncomputable def c60:VCode:=cof Tryz.f60
theorem Q77:Fun Tryz.prog 60 c60 [.tmp 6] 53:=⟨Tryz.f60,Tryz.func60,Q3 (by kernel_rfl),by kernel_rfl,rfl,rfl⟩
noncomputable def c61:VCode:=cof Tryz.f61
theorem Q4g:Fun Tryz.prog 61 c61 [.tmp 4] 9:=⟨Tryz.f61,Tryz.func61,Q3 (by kernel_rfl),by kernel_rfl,rfl,rfl⟩
noncomputable def c62:VCode:=cof Tryz.f62
theorem Q8m:Fun Tryz.prog 62 c62 [.tmp 4] 13:=⟨Tryz.f62,Tryz.func62,Q3 (by kernel_rfl),by kernel_rfl,rfl,rfl⟩
noncomputable def c63:VCode:=cof Tryz.f63
theorem Q7p:Fun Tryz.prog 63 c63 [.cell 4 true 3,.tmp 5] 60:=⟨Tryz.f63,Tryz.func63,Q3 (by kernel_rfl),by kernel_rfl,rfl,rfl⟩
noncomputable def c64:VCode:=cof Tryz.f64
theorem Q7x:Fun Tryz.prog 64 c64 [.tmp 2] 17:=⟨Tryz.f64,Tryz.func64,Q3 (by kernel_rfl),by kernel_rfl,rfl,rfl⟩
noncomputable def c65:VCode:=cof Tryz.f65
theorem Q8r:Fun Tryz.prog 65 c65 [.tmp 4] 10:=⟨Tryz.f65,Tryz.func65,Q3 (by kernel_rfl),by kernel_rfl,rfl,rfl⟩
noncomputable def c66:VCode:=cof Tryz.f66
theorem Q7b:Fun Tryz.prog 66 c66 [.tmp 6,.tmp 7] 54:=⟨Tryz.f66,Tryz.func66,Q3 (by kernel_rfl),by kernel_rfl,rfl,rfl⟩
noncomputable def c67:VCode:=cof Tryz.f67
theorem Q78:Fun Tryz.prog 67 c67 [.cell 6 true 3,.tmp 7,.tmp 8] 60:=⟨Tryz.f67,Tryz.func67,Q3 (by kernel_rfl),by kernel_rfl,rfl,rfl⟩
noncomputable def c68:VCode:=cof Tryz.f68
theorem Q8c:Fun Tryz.prog 68 c68 [.tmp 2] 9:=⟨Tryz.f68,Tryz.func68,Q3 (by kernel_rfl),by kernel_rfl,rfl,rfl⟩
noncomputable def c69:VCode:=cof Tryz.f69
theorem Q5c:Fun Tryz.prog 69 c69 [.tmp 4] 13:=⟨Tryz.f69,Tryz.func69,Q3 (by kernel_rfl),by kernel_rfl,rfl,rfl⟩
noncomputable def c70:VCode:=cof Tryz.f70
theorem Q52:Fun Tryz.prog 70 c70 [.tmp 4] 19:=⟨Tryz.f70,Tryz.func70,Q3 (by kernel_rfl),by kernel_rfl,rfl,rfl⟩
noncomputable def c71:VCode:=cof Tryz.f71
theorem Q38:Fun Tryz.prog 71 c71 [.tmp 4] 9:=⟨Tryz.f71,Tryz.func71,Q3 (by kernel_rfl),by kernel_rfl,rfl,rfl⟩
noncomputable def c72:VCode:=cof Tryz.f72
theorem Q3v:Fun Tryz.prog 72 c72 [.tmp 2] 6:=⟨Tryz.f72,Tryz.func72,Q3 (by kernel_rfl),by kernel_rfl,rfl,rfl⟩
noncomputable def c73:VCode:=cof Tryz.f73
theorem Q4m:Fun Tryz.prog 73 c73 [.tmp 2] 32:=⟨Tryz.f73,Tryz.func73,Q3 (by kernel_rfl),by kernel_rfl,rfl,rfl⟩
noncomputable def c74:VCode:=cof Tryz.f74
theorem Q4a:Fun Tryz.prog 74 c74 [.tmp 4] 13:=⟨Tryz.f74,Tryz.func74,Q3 (by kernel_rfl),by kernel_rfl,rfl,rfl⟩
noncomputable def c75:VCode:=cof Tryz.f75
theorem Q4p:Fun Tryz.prog 75 c75 [.tmp 3] 11:=⟨Tryz.f75,Tryz.func75,Q3 (by kernel_rfl),by kernel_rfl,rfl,rfl⟩
noncomputable def c76:VCode:=cof Tryz.f76
theorem Q3q:Fun Tryz.prog 76 c76 [.cell 2 true 2] 61:=⟨Tryz.f76,Tryz.func76,Q3 (by kernel_rfl),by kernel_rfl,rfl,rfl⟩
noncomputable def c77:VCode:=cof Tryz.f77
theorem Q36:Fun Tryz.prog 77 c77 [.tmp 2] 6:=⟨Tryz.f77,Tryz.func77,Q3 (by kernel_rfl),by kernel_rfl,rfl,rfl⟩
noncomputable def c78:VCode:=cof Tryz.f78
theorem Q61:Fun Tryz.prog 78 c78 [.tmp 4] 19:=⟨Tryz.f78,Tryz.func78,Q3 (by kernel_rfl),by kernel_rfl,rfl,rfl⟩
noncomputable def c79:VCode:=cof Tryz.f79
theorem Q3f:Fun Tryz.prog 79 c79 [.cell 4 true 2] 17:=⟨Tryz.f79,Tryz.func79,Q3 (by kernel_rfl),by kernel_rfl,rfl,rfl⟩
noncomputable def c80:VCode:=cof Tryz.f80
theorem Q6f:Fun Tryz.prog 80 c80 [.cell 4 true 2] 16:=⟨Tryz.f80,Tryz.func80,Q3 (by kernel_rfl),by kernel_rfl,rfl,rfl⟩
noncomputable def c81:VCode:=cof Tryz.f81
theorem Q68:Fun Tryz.prog 81 c81 [.cell 0 true 2] 2:=⟨Tryz.f81,Tryz.func81,Q3 (by kernel_rfl),by kernel_rfl,rfl,rfl⟩
noncomputable def c82:VCode:=cof Tryz.f82
theorem Q7t:Fun Tryz.prog 82 c82 [] 9:=⟨Tryz.f82,Tryz.func82,Q3 (by kernel_rfl),by kernel_rfl,rfl,rfl⟩
noncomputable def c83:VCode:=cof Tryz.f83
theorem Q88:Fun Tryz.prog 83 c83 [.tmp 5] 36:=⟨Tryz.f83,Tryz.func83,Q3 (by kernel_rfl),by kernel_rfl,rfl,rfl⟩
noncomputable def c84:VCode:=cof Tryz.f84
theorem Q7w:Fun Tryz.prog 84 c84 [] 11:=⟨Tryz.f84,Tryz.func84,Q3 (by kernel_rfl),by kernel_rfl,rfl,rfl⟩
noncomputable def c85:VCode:=cof Tryz.f85
theorem Q94:Fun Tryz.prog 85 c85 [] 14:=⟨Tryz.f85,Tryz.func85,Q3 (by kernel_rfl),by kernel_rfl,rfl,rfl⟩
noncomputable def c86:VCode:=cof Tryz.f86
theorem Q8g:Fun Tryz.prog 86 c86 [.tmp 2] 14:=⟨Tryz.f86,Tryz.func86,Q3 (by kernel_rfl),by kernel_rfl,rfl,rfl⟩
noncomputable def c87:VCode:=cof Tryz.f87
theorem Q4u:Fun Tryz.prog 87 c87 [.tmp 2] 14:=⟨Tryz.f87,Tryz.func87,Q3 (by kernel_rfl),by kernel_rfl,rfl,rfl⟩
noncomputable def c88:VCode:=cof Tryz.f88
theorem Q90:Fun Tryz.prog 88 c88 [.tmp 4] 19:=⟨Tryz.f88,Tryz.func88,Q3 (by kernel_rfl),by kernel_rfl,rfl,rfl⟩
noncomputable def c89:VCode:=cof Tryz.f89
theorem Q5l:Fun Tryz.prog 89 c89 [.tmp 4] 19:=⟨Tryz.f89,Tryz.func89,Q3 (by kernel_rfl),by kernel_rfl,rfl,rfl⟩
noncomputable def c90:VCode:=cof Tryz.f90
theorem Q8l:Fun Tryz.prog 90 c90 [.tmp 2] 19:=⟨Tryz.f90,Tryz.func90,Q3 (by kernel_rfl),by kernel_rfl,rfl,rfl⟩
noncomputable def c91:VCode:=cof Tryz.f91
theorem Q76:Fun Tryz.prog 91 c91 [.tmp 2] 23:=⟨Tryz.f91,Tryz.func91,Q3 (by kernel_rfl),by kernel_rfl,rfl,rfl⟩
noncomputable def c92:VCode:=cof Tryz.f92
theorem Q85:Fun Tryz.prog 92 c92 [.cell 4 true 2] 16:=⟨Tryz.f92,Tryz.func92,Q3 (by kernel_rfl),by kernel_rfl,rfl,rfl⟩
noncomputable def c93:VCode:=cof Tryz.f93
theorem Q7u:Fun Tryz.prog 93 c93 [.tmp 2] 26:=⟨Tryz.f93,Tryz.func93,Q3 (by kernel_rfl),by kernel_rfl,rfl,rfl⟩
noncomputable def c94:VCode:=cof Tryz.f94
theorem Q8t:Fun Tryz.prog 94 c94 [.cell 4 true 2] 16:=⟨Tryz.f94,Tryz.func94,Q3 (by kernel_rfl),by kernel_rfl,rfl,rfl⟩
noncomputable def c95:VCode:=cof Tryz.f95
theorem Q84:Fun Tryz.prog 95 c95 [.tmp 4] 15:=⟨Tryz.f95,Tryz.func95,Q3 (by kernel_rfl),by kernel_rfl,rfl,rfl⟩
noncomputable def c96:VCode:=cof Tryz.f96
theorem Q80:Fun Tryz.prog 96 c96 [.tmp 4,.tmp 5] 40:=⟨Tryz.f96,Tryz.func96,Q3 (by kernel_rfl),by kernel_rfl,rfl,rfl⟩
noncomputable def c97:VCode:=cof Tryz.f97
theorem Q5r:Fun Tryz.prog 97 c97 [.tmp 4] 19:=⟨Tryz.f97,Tryz.func97,Q3 (by kernel_rfl),by kernel_rfl,rfl,rfl⟩
noncomputable def c98:VCode:=cof Tryz.f98
theorem Q74:Fun Tryz.prog 98 c98 [] 63:=⟨Tryz.f98,Tryz.func98,Q3 (by kernel_rfl),by kernel_rfl,rfl,rfl⟩
noncomputable def c99:VCode:=cof Tryz.f99
theorem Q93:Fun Tryz.prog 99 c99 [] 134:=⟨Tryz.f99,Tryz.func99,Q3 (by kernel_rfl),by kernel_rfl,rfl,rfl⟩
noncomputable def Q9s:VCode:=cof Tryz.f100
theorem Q4e:Fun Tryz.prog 100 Q9s [.tmp 2] 8:=⟨Tryz.f100,Tryz.func100,Q3 (by kernel_rfl),by kernel_rfl,rfl,rfl⟩
noncomputable def Z0j:VCode:=cof Tryz.f101
theorem Q32:Fun Tryz.prog 101 Z0j [] 148:=⟨Tryz.f101,Tryz.func101,Q3 (by kernel_rfl),by kernel_rfl,rfl,rfl⟩
noncomputable def Z0w:VCode:=cof Tryz.f102
theorem Q3m:Fun Tryz.prog 102 Z0w [.tmp 4] 9:=⟨Tryz.f102,Tryz.func102,Q3 (by kernel_rfl),by kernel_rfl,rfl,rfl⟩
noncomputable def Q9a:VCode:=cof Tryz.f103
theorem Q2z:Fun Tryz.prog 103 Q9a [.tmp 2] 6:=⟨Tryz.f103,Tryz.func103,Q3 (by kernel_rfl),by kernel_rfl,rfl,rfl⟩
noncomputable def Z0b:VCode:=cof Tryz.f104
theorem Q5s:Fun Tryz.prog 104 Z0b [.tmp 2] 26:=⟨Tryz.f104,Tryz.func104,Q3 (by kernel_rfl),by kernel_rfl,rfl,rfl⟩
noncomputable def Q9q:VCode:=cof Tryz.f105
theorem Q5b:Fun Tryz.prog 105 Q9q [.cell 4 true 2] 16:=⟨Tryz.f105,Tryz.func105,Q3 (by kernel_rfl),by kernel_rfl,rfl,rfl⟩
noncomputable def Z0l:VCode:=cof Tryz.f106
theorem Q6b:Fun Tryz.prog 106 Z0l [] 53:=⟨Tryz.f106,Tryz.func106,Q3 (by kernel_rfl),by kernel_rfl,rfl,rfl⟩
noncomputable def Q9t:VCode:=cof Tryz.f107
theorem Q5t:Fun Tryz.prog 107 Q9t [] 220:=⟨Tryz.f107,Tryz.func107,Q3 (by kernel_rfl),by kernel_rfl,rfl,rfl⟩
noncomputable def Z0i:VCode:=cof Tryz.f108
theorem Q3u:Fun Tryz.prog 108 Z0i [] 49:=⟨Tryz.f108,Tryz.func108,Q3 (by kernel_rfl),by kernel_rfl,rfl,rfl⟩
noncomputable def Q9l:VCode:=cof Tryz.f109
theorem Q4t:Fun Tryz.prog 109 Q9l [] 56:=⟨Tryz.f109,Tryz.func109,Q3 (by kernel_rfl),by kernel_rfl,rfl,rfl⟩
noncomputable def Q98:VCode:=cof Tryz.f110
theorem Q55:Fun Tryz.prog 110 Q98 [] 65:=⟨Tryz.f110,Tryz.func110,Q3 (by kernel_rfl),by kernel_rfl,rfl,rfl⟩
noncomputable def Q9p:VCode:=cof Tryz.f111
theorem Q3b:Fun Tryz.prog 111 Q9p [.tmp 6,.tmp 7] 57:=⟨Tryz.f111,Tryz.func111,Q3 (by kernel_rfl),by kernel_rfl,rfl,rfl⟩
noncomputable def Z02:VCode:=cof Tryz.f112
theorem Q4n:Fun Tryz.prog 112 Z02 [] 32:=⟨Tryz.f112,Tryz.func112,Q3 (by kernel_rfl),by kernel_rfl,rfl,rfl⟩
noncomputable def Q9c:VCode:=cof Tryz.f113
theorem Q5x:Fun Tryz.prog 113 Q9c [.tmp 6] 133:=⟨Tryz.f113,Tryz.func113,Q3 (by kernel_rfl),by kernel_rfl,rfl,rfl⟩
noncomputable def Z0c:VCode:=cof Tryz.f114
theorem Q3s:Fun Tryz.prog 114 Z0c [.tmp 4] 17:=⟨Tryz.f114,Tryz.func114,Q3 (by kernel_rfl),by kernel_rfl,rfl,rfl⟩
noncomputable def Q9u:VCode:=cof Tryz.f115
theorem Q37:Fun Tryz.prog 115 Q9u [.tmp 8] 84:=⟨Tryz.f115,Tryz.func115,Q3 (by kernel_rfl),by kernel_rfl,rfl,rfl⟩
noncomputable def Q9i:VCode:=cof Tryz.f116
theorem Q4z:Fun Tryz.prog 116 Q9i [.tmp 8,.tmp 9] 168:=⟨Tryz.f116,Tryz.func116,Q3 (by kernel_rfl),by kernel_rfl,rfl,rfl⟩
noncomputable def Z0h:VCode:=cof Tryz.f117
theorem Q6h:Fun Tryz.prog 117 Z0h [.tmp 2] 19:=⟨Tryz.f117,Tryz.func117,Q3 (by kernel_rfl),by kernel_rfl,rfl,rfl⟩
noncomputable def Q9v:VCode:=cof Tryz.f118
theorem Q3j:Fun Tryz.prog 118 Q9v [.tmp 2] 25:=⟨Tryz.f118,Tryz.func118,Q3 (by kernel_rfl),by kernel_rfl,rfl,rfl⟩
noncomputable def Z0k:VCode:=cof Tryz.f119
theorem Q44:Fun Tryz.prog 119 Z0k [] 53:=⟨Tryz.f119,Tryz.func119,Q3 (by kernel_rfl),by kernel_rfl,rfl,rfl⟩
noncomputable def Q9e:VCode:=cof Tryz.f120
theorem Q6o:Fun Tryz.prog 120 Q9e [] 60:=⟨Tryz.f120,Tryz.func120,Q3 (by kernel_rfl),by kernel_rfl,rfl,rfl⟩
noncomputable def Q9m:VCode:=cof Tryz.f121
theorem Q67:Fun Tryz.prog 121 Q9m [] 67:=⟨Tryz.f121,Tryz.func121,Q3 (by kernel_rfl),by kernel_rfl,rfl,rfl⟩
noncomputable def Z0u:VCode:=cof Tryz.f122
theorem Q3l:Fun Tryz.prog 122 Z0u [.tmp 8,.tmp 9] 63:=⟨Tryz.f122,Tryz.func122,Q3 (by kernel_rfl),by kernel_rfl,rfl,rfl⟩
noncomputable def Z0d:VCode:=cof Tryz.f123
theorem Q3r:Fun Tryz.prog 123 Z0d [] 34:=⟨Tryz.f123,Tryz.func123,Q3 (by kernel_rfl),by kernel_rfl,rfl,rfl⟩
noncomputable def Z0q:VCode:=cof Tryz.f124
theorem Q40:Fun Tryz.prog 124 Z0q [.tmp 8] 141:=⟨Tryz.f124,Tryz.func124,Q3 (by kernel_rfl),by kernel_rfl,rfl,rfl⟩
noncomputable def Z0s:VCode:=cof Tryz.f125
theorem Q50:Fun Tryz.prog 125 Z0s [.tmp 10] 90:=⟨Tryz.f125,Tryz.func125,Q3 (by kernel_rfl),by kernel_rfl,rfl,rfl⟩
noncomputable def Q9o:VCode:=cof Tryz.f126
theorem Q6m:Fun Tryz.prog 126 Q9o [.tmp 10,.tmp 11] 178:=⟨Tryz.f126,Tryz.func126,Q3 (by kernel_rfl),by kernel_rfl,rfl,rfl⟩
noncomputable def Z0x:VCode:=cof Tryz.f127
theorem Q6g:Fun Tryz.prog 127 Z0x [.tmp 4] 19:=⟨Tryz.f127,Tryz.func127,Q3 (by kernel_rfl),by kernel_rfl,rfl,rfl⟩
noncomputable def Z07:VCode:=cof Tryz.f128
theorem Q6e:Fun Tryz.prog 128 Z07 [] 58:=⟨Tryz.f128,Tryz.func128,Q3 (by kernel_rfl),by kernel_rfl,rfl,rfl⟩
noncomputable def Q9d:VCode:=cof Tryz.f129
theorem Q5h:Fun Tryz.prog 129 Q9d [] 76:=⟨Tryz.f129,Tryz.func129,Q3 (by kernel_rfl),by kernel_rfl,rfl,rfl⟩
noncomputable def Z09:VCode:=cof Tryz.f130
theorem Q4o:Fun Tryz.prog 130 Z09 [.tmp 2] 7:=⟨Tryz.f130,Tryz.func130,Q3 (by kernel_rfl),by kernel_rfl,rfl,rfl⟩
noncomputable def Z01:VCode:=cof Tryz.f131
theorem Q39:Fun Tryz.prog 131 Z01 [.tmp 2] 33:=⟨Tryz.f131,Tryz.func131,Q3 (by kernel_rfl),by kernel_rfl,rfl,rfl⟩
noncomputable def Z05:VCode:=cof Tryz.f132
theorem Q63:Fun Tryz.prog 132 Z05 [.tmp 6] 15:=⟨Tryz.f132,Tryz.func132,Q3 (by kernel_rfl),by kernel_rfl,rfl,rfl⟩
noncomputable def Z0v:VCode:=cof Tryz.f133
theorem Q5v:Fun Tryz.prog 133 Z0v [.tmp 10] 36:=⟨Tryz.f133,Tryz.func133,Q3 (by kernel_rfl),by kernel_rfl,rfl,rfl⟩
noncomputable def Q9w:VCode:=cof Tryz.f134
theorem Q6i:Fun Tryz.prog 134 Q9w [] 82:=⟨Tryz.f134,Tryz.func134,Q3 (by kernel_rfl),by kernel_rfl,rfl,rfl⟩
noncomputable def Z0r:VCode:=cof Tryz.f135
theorem Q6c:Fun Tryz.prog 135 Z0r [.tmp 8] 18:=⟨Tryz.f135,Tryz.func135,Q3 (by kernel_rfl),by kernel_rfl,rfl,rfl⟩
noncomputable def Z0p:VCode:=cof Tryz.f136
theorem Q60:Fun Tryz.prog 136 Z0p [.tmp 12] 41:=⟨Tryz.f136,Tryz.func136,Q3 (by kernel_rfl),by kernel_rfl,rfl,rfl⟩
noncomputable def Z0n:VCode:=cof Tryz.f137
theorem Q6p:Fun Tryz.prog 137 Z0n [] 38:=⟨Tryz.f137,Tryz.func137,Q3 (by kernel_rfl),by kernel_rfl,rfl,rfl⟩
noncomputable def Q9n:VCode:=cof Tryz.f138
theorem Q31:Fun Tryz.prog 138 Q9n [.tmp 8,.tmp 9] 28:=⟨Tryz.f138,Tryz.func138,Q3 (by kernel_rfl),by kernel_rfl,rfl,rfl⟩
noncomputable def Q9k:VCode:=cof Tryz.f139
theorem Q5n:Fun Tryz.prog 139 Q9k [.tmp 10,.tmp 11] 32:=⟨Tryz.f139,Tryz.func139,Q3 (by kernel_rfl),by kernel_rfl,rfl,rfl⟩
end Go.Proofs.Tryz
namespace Go.V
open Go
inductive Kind where
 |i (k:IntKind)
 |bo
 |st
 |list (k:Kind)
 |pair (a b:Kind)
 deriving DecidableEq,Inhabited
abbrev Kind.T:Kind→Type
 |.i _=>Int
 |.bo=>Bool
 |.st=>List UInt8
 |.list k=>List k.T
 |.pair a b=>a.T×b.T
def Kind.size:Kind→Nat
 |.pair a b=>a.size+b.size
 |_=>1
def Kind.dflt:(k:Kind)→k.T
 |.i _=>(0:Int)
 |.bo=>false
 |.st=>([]:List UInt8)
 |.list _=>[]
 |.pair a b=>(a.dflt,b.dflt)
def Kind.one:Kind→Bool
 |.pair _ _=>false
 |_=>true
theorem Kind.size_pos:∀ k:Kind,0<k.size
 |.pair a b=>by have:=a.size_pos;simp only[Kind.size];omega
 |.i _|.bo|.st|.list _=>by simp[Kind.size]
theorem Kind.one_size:∀ {k:Kind},k.one=true→k.size=1
 |.pair _ _,h=>by cases h
 |.i _,_|.bo,_|.st,_|.list _,_=>rfl
def Kind.prim:Kind→Bool
 |.i _|.bo|.st=>true
 |_=>false
def Kind.keyk:Kind→Bool
 |.pair a b=>a.keyk&&b.keyk
 |k=>k.prim
abbrev AT:List Kind→Type
 |[]=>Unit
 |[k]=>k.T
 |k::k'::ks=>k.T×AT (k'::ks)
structure Gd where
 id:Nat
 want:Bool
 c:Bool
inductive DW where
 |out
 |el (i:Int) (off sz:Nat)
 |row (k:Kind) (x:List k.T) (i:Int)
 |rowp (k:Kind) (x:List k.T) (i j:Int) (off:Nat)
 |inn (k:Kind) (x:List k.T)
 |inp (k:Kind) (l:List k.T) (j:Int) (off:Nat)
 |dat
 |obx (c:Bool)
 |yv
inductive SV where
 |dd (o:Nat) (w:DW)
 |any
 |val (k:Kind) (x:k.T)
 |bid (n:Nat) (c:Bool)
 |grd (gs:List Gd) (v:SV)
 |nilS
 |nilP
 |nilM
 |nilF
 |lst (o:Nat)
 |sub (o:Nat) (lo n sz:Nat)
 |elp (o:Nat) (i:Int) (off sz:Nat)
 |rop (k:Kind) (l:List k.T) (i:Int) (off:Nat)
 |box (o:Nat) (off:Nat)
 |cp (l:List SV) (off:Nat)
 |map (o:Nat)
 |agg (l:List SV)
 |tup (l:List SV)
 |fn (f:Nat) (first cY:List SV)
 |pf (ks:List Kind) (r:Kind) (cE:AT ks→Prop) (p:AT ks→r.T)
structure LpD where
 i:Nat
 vals:List Value
 r:Loop
inductive LpS where
 |busy
 |rdy
 |ret
 |exit (id:Nat)
def LpS.st:LpS→LoopState
 |.busy=>.busy
 |.rdy=>.ready
 |.ret=>.done
 |.exit _=>.done
def LpS.pend:LpS→Option Code
 |.busy=>none
 |.rdy=>none
 |.ret=>some .ret
 |.exit id=>some (.exit id)
def LpS.live:LpS→Bool
 |.busy=>false
 |_=>true
inductive OB where
 |dead
 |lst (ty:Nat) (k:Kind) (xs:List k.T) (nl:Bool)
 |cells (l:List SV) (u:Option Nat)
 |map (kk vk:Kind) (m:List (kk.T×vk.T))
 |stk (l:List SV) (vals:List Value)
 |deep (ty:Nat) (q:Option Nat) (k:Kind) (xs:List k.T) (nl:Bool) (hole:Option Nat)
 |iter (kk vk:Kind) (m:List (kk.T×vk.T)) (dn:List Nat)
 |mapE (kk vk:Kind) (m:List (kk.T×vk.T)) (key:kk.T) (n:Int)
 |lpf (l:List SV) (q:LpD) (s:LpS)
instance:Inhabited SV:=⟨.any⟩
instance:Inhabited OB:=⟨.dead⟩
inductive Rows {α:Type}(R:α→List Value→Prop):List α→List Value→Prop
 |nil:Rows R [] []
 |cons {x:α}{xs:List α}{c cs:List Value}(h:R x c) (t:Rows R xs cs):Rows R (x::xs) (c++cs)
def SlRel (h:Heap) (sz:Nat) {α:Type}(R:α→List Value→Prop) (l:List α) (v:Value):Prop :=
 (l=[]∧v=.slice none 0 0)∨∃ i o cap c e wr t,v=.slice (some ⟨i,o,none⟩) l.length cap∧l.length≤cap∧h.get i=some (.cells c e wr t)∧e.sz=sz∧o+l.length*sz≤c.length∧Rows R l ((c.drop o).take (l.length*sz))
def KC (h:Heap):(k:Kind)→k.T→List Value→Prop
 |.i ik,x,cs=>cs=[.int ik x]
 |.bo,x,cs=>cs=[.bool x]
 |.st,x,cs=>cs=[.string ⟨x.toArray⟩]
 |.list k,l,cs=>∃ v,cs=[v]∧SlRel h k.size (fun x c=>KC h k x c) l v
 |.pair a b,x,cs=>∃ c1 c2,cs=c1++c2∧KC h a x.1 c1∧KC h b x.2 c2
theorem Rows.length {α:Type}{R:α→List Value→Prop}{n:Nat}(hR:∀ x c,R x c→c.length=n) {xs:List α}{cs:List Value}(h:Rows R xs cs):cs.length=xs.length*n:=by
 induction h with
 |nil=>simp
 |cons h _ ih=>simp only[List.length_append,hR _ _ h,ih,List.length_cons,Nat.add_mul,Nat.one_mul];omega
theorem Rows.mono {α:Type}{R R':α→List Value→Prop}(hR:∀ x c,R x c→R' x c) {xs:List α}{cs:List Value}(h:Rows R xs cs):Rows R' xs cs:=by
 induction h with
 |nil=>exact .nil
 |cons h _ ih=>exact .cons (hR _ _ h) ih
theorem Rows.append {α:Type}{R:α→List Value→Prop}{xs ys:List α}{cs ds:List Value}(h:Rows R xs cs) (h':Rows R ys ds):Rows R (xs++ys) (cs++ds):=by
 induction h with
 |nil=>exact h'
 |cons h _ ih=>rw[List.append_assoc];exact .cons h ih
theorem Rows.at {α:Type}{R:α→List Value→Prop}{n:Nat}(hR:∀ x c,R x c→c.length=n) {xs:List α}{cs:List Value}(h:Rows R xs cs) {k:Nat}(hk:k<xs.length):R xs[k] ((cs.drop (k*n)).take n):=by
 induction h generalizing k with
 |nil=>simp at hk
 |@cons x xs c cs h t ih =>
  have hc:=hR _ _ h;cases k with
  |zero=>simp only[Nat.zero_mul,List.drop_zero,List.getElem_cons_zero];rw[←hc,List.take_left];exact h
  |succ k =>
   have:=ih (k:=k) (by simpa using hk);rw[List.getElem_cons_succ,Nat.add_mul,Nat.one_mul];have e:(c++cs).drop (k*n+n)=cs.drop (k*n):=by rw[List.drop_append,hc];rw[List.drop_eq_nil_of_le (by omega)];simp
   rw[e];exact this
theorem Rows.take {α:Type}{R:α→List Value→Prop}{n:Nat}(hR:∀ x c,R x c→c.length=n) {xs:List α}{cs:List Value}(h:Rows R xs cs) (k:Nat):Rows R (xs.take k) (cs.take (k*n)):=by
 induction h generalizing k with
 |nil=>simp;exact .nil
 |@cons x xs c cs h t ih =>
  have hc:=hR _ _ h;cases k with
  |zero=>simp;exact .nil
  |succ k =>have e1:c.take ((k+1)*n)=c:=List.take_of_length_le (by rw[hc,Nat.add_mul];omega);rw[List.take_succ_cons,List.take_append,hc,show (k+1)*n-n=k*n by rw[Nat.add_mul];omega,e1];exact .cons h (ih k)
theorem Rows.drop {α:Type}{R:α→List Value→Prop}{n:Nat}(hR:∀ x c,R x c→c.length=n) {xs:List α}{cs:List Value}(h:Rows R xs cs) (k:Nat):Rows R (xs.drop k) (cs.drop (k*n)):=by
 induction h generalizing k with
 |nil=>simp;exact .nil
 |@cons x xs c cs h t ih =>
  have hc:=hR _ _ h;cases k with
  |zero=>simp;exact .cons h t
  |succ k =>have e1:c.drop ((k+1)*n)=[]:=List.drop_eq_nil_of_le (by rw[hc,Nat.add_mul];omega);rw[List.drop_succ_cons,List.drop_append,hc,show (k+1)*n-n=k*n by rw[Nat.add_mul];omega,e1,List.nil_append];exact ih k
theorem Rows.set {α:Type}{R:α→List Value→Prop}{n:Nat}(hR:∀ x c,R x c→c.length=n) {xs:List α}{cs:List Value}(h:Rows R xs cs) {k:Nat}(hk:k<xs.length) {y:α}{d:List Value}(hd:R y d):Rows R (xs.set k y) (cs.take (k*n)++d++cs.drop (k*n+n)):=by
 have e:xs.set k y=xs.take k++([y]++xs.drop (k+1)):=by rw[List.set_eq_take_append_cons_drop,if_pos hk];rfl
 rw[e,List.append_assoc];have h2:=h.drop hR (k+1);rw[Nat.add_mul,Nat.one_mul] at h2;exact(h.take hR k).append ((show Rows R [y] d by simpa using Rows.cons hd .nil).append h2)
theorem Rows.replicate {α:Type}{R:α→List Value→Prop}{x:α}{c:List Value}(h:R x c):∀ n,Rows R (List.replicate n x) (List.replicate n c).flatten
 |0=>by simp;exact .nil
 |n+1=>by simp only[List.replicate_succ,List.flatten_cons];exact .cons h (Rows.replicate h n)
theorem KC.length {h:Heap}:∀ {k:Kind}{x:k.T}{cs:List Value},KC h k x cs→cs.length=k.size
 |.i _,_,_,e|.bo,_,_,e|.st,_,_,e=>by simp only[KC] at e;subst e;rfl
 |.list k,l,cs,e=>by obtain⟨v,rfl,_⟩:=e;rfl
 |.pair a b,x,cs,e=>by obtain⟨c1,c2,rfl,h1,h2⟩:=e;simp only[List.length_append,KC.length h1,KC.length h2,Kind.size]
theorem SlRel.mono {h h':Heap}(hl:h.Le h') {sz:Nat}{α:Type}{R R':α→List Value→Prop}(hR:∀ x c,R x c→R' x c) {l:List α}{v:Value}(hs:SlRel h sz R l v):SlRel h' sz R' l v:=by
 rcases hs with hs|⟨i,o,cap,c,e,wr,t,h1,h2,h3,h4,h5,h6⟩
 ·exact .inl hs
 ·exact .inr ⟨i,o,cap,c,e,wr,t,h1,h2,hl.2 _ _ h3,h4,h5,h6.mono hR⟩
theorem KC.mono {h h':Heap}(hl:h.Le h'):∀ {k:Kind}{x:k.T}{cs:List Value},KC h k x cs→KC h' k x cs
 |.i _,_,_,e|.bo,_,_,e|.st,_,_,e=>e
 |.list k,l,cs,e=>by obtain⟨v,hv,hs⟩:=e;exact⟨v,hv,hs.mono hl fun x c hx=>KC.mono (k:=k) hl hx⟩
 |.pair a b,x,cs,e=>by obtain⟨c1,c2,hc,h1,h2⟩:=e;exact⟨c1,c2,hc,KC.mono hl h1,KC.mono hl h2⟩
theorem KC.cellOk {h:Heap}:∀ {k:Kind}{x:k.T}{cs:List Value},KC h k x cs→cs.all cellOk=true
 |.i _,_,_,e|.bo,_,_,e|.st,_,_,e=>by simp only[KC] at e;subst e;rfl
 |.list k,l,cs,e=>by obtain⟨v,rfl,hs⟩:=e;rcases hs with⟨_,rfl⟩|⟨i,o,cap,c,e,wr,t,rfl,_⟩<;>rfl
 |.pair a b,x,cs,e=>by obtain⟨c1,c2,rfl,h1,h2⟩:=e;rw[List.all_append,KC.cellOk h1,KC.cellOk h2];rfl
def US:(k:Kind)→k.T→List SV
 |.pair a b,x=>US a x.1++US b x.2
 |.i k,x=>[.val (.i k) x]
 |.bo,x=>[.val .bo x]
 |.st,x=>[.val .st x]
 |.list k,x=>[.val (.list k) x]
def Iz:(k:Kind)→k.T→SV
 |.pair a b,x=>.agg (US (.pair a b) x)
 |.i k,x=>.val (.i k) x
 |.bo,x=>.val .bo x
 |.st,x=>.val .st x
 |.list k,x=>.val (.list k) x
inductive RowsO {α:Type}(R:α→List Value→List Nat→Prop):List α→List Value→List Nat→Prop
 |nil:RowsO R [] [] []
 |cons {x:α}{xs:List α}{c cs:List Value}{is js:List Nat}(h:R x c is) (t:RowsO R xs cs js):RowsO R (x::xs) (c++cs) (is++js)
def KO (H:Heap):(q:Option Nat)→(k:Kind)→k.T→List Value→List Nat→Prop
 |_,.i ik,x,cs,is=>cs=[.int ik x]∧is=[]
 |_,.bo,x,cs,is=>cs=[.bool x]∧is=[]
 |_,.st,x,cs,is=>cs=[.string ⟨x.toArray⟩]∧is=[]
 |q,.list k,l,cs,is=>(l=[]∧cs=[.slice none 0 0]∧is=[])∨∃ i cap c e t js,cs=[.slice (some ⟨i,0,none⟩) l.length cap]∧is=i::js∧l.length≤cap∧H.get i=some (.cells c e true t)∧e.sz=k.size∧(∀ ty,q=some ty→e.ty=ty)∧cap*k.size≤c.length ∧
   RowsO (fun x c is=>KO H none k x c is) l (c.take (l.length*k.size)) js
 |_,.pair a b,x,cs,is=>∃ c1 c2 i1 i2,cs=c1++c2∧is=i1++i2∧KO H none a x.1 c1 i1∧KO H none b x.2 c2 i2
def Z11 (i:Nat):Blk→Value
 |.cells c e _ t=>.tuple #[.int .i64 (i:Nat),.agg c.toArray,.int .i64 (e.sz:Nat),.int .i64 (e.ty:Nat),.bool t]
 |_=>.bool true
def Q97:Value→Option (Nat×Blk)
 |.tuple ⟨[.int _ i,.agg c,.int _ sz,.int _ ty,.bool t]⟩=>some (i.toNat,.cells c.toList ⟨sz.toNat,ty.toNat⟩ true t)
 |_=>none
def Q5f:List Value→List (Nat×Blk)
 |[]=>[]
 |v::vs=>match Q97 v with|some p=>p::Q5f vs|none=>Q5f vs
def S3:List (Nat×Blk)→Nat→Option Blk
 |[],_=>none
 |(j,b)::r,i=>if i=j then some b else S3 r i
def Q2v:List (Nat×Blk)→Nat
 |[]=>0
 |(j,_)::r=>max (j+1) (Q2v r)
theorem Lc:∀ (l:List (Nat×Blk)) (i:Nat),Q2v l≤i→S3 l i=none
 |[],_,_=>rfl
 |(j,b)::r,i,h=>by
  simp only[Q2v] at h;have:¬ i=j:=by omega
  simp only[S3,if_neg this];exact Lc r i (by omega)
def Q1t (l:List (Nat×Blk)):Heap:=⟨S3 l,Q2v l,fun i h=>Lc l i h⟩
def phd:Value→Value
 |.tuple ⟨v::_⟩=>v
 |v=>v
def Xf:Value→Heap
 |.tuple ⟨_::vs⟩=>Q1t (Q5f vs)
 |_=>Q1t []
def DR (p:Value):DW→Value→Prop
 |.out,v=>v=phd p∧∃ a n c,v=.slice a n c
 |.el i off sz,v=>∃ b len cap,phd p=.slice (some ⟨b,0,none⟩) len cap∧0≤i∧i<len∧v=.pointer (some ⟨b,i.toNat*sz+off,none⟩)
 |.row k x i,v=>KC (Xf p) (.list k) x [v]∧(∀ a n c,v=.slice (some a) n c→a.off=0)∧∃ b len cap c e t,phd p=.slice (some ⟨b,0,none⟩) len cap∧0≤i∧i<len∧(Xf p).get b=some (.cells c e true t)∧c[i.toNat]?=some v
 |.rowp k x i j off,v=>∃ b len cap c e t r rl rc bw re rt,phd p=.slice (some ⟨b,0,none⟩) len cap∧0≤i∧i<len∧(Xf p).get b=some (.cells c e true t)∧c[i.toNat]?=some (.slice (some ⟨r,0,none⟩) rl rc)∧0≤j∧j<rl∧x.length=rl∧(Xf p).get r=some (.cells bw re true rt)∧rl*k.size≤bw.length∧Rows (KC (Xf p) k) x (bw.take (rl*k.size))∧v=.pointer (some ⟨r,j.toNat*k.size+off,none⟩)
 |.inn k x,v=>KC (Xf p) (.list k) x [v]
 |.inp k l j off,v=>∃ b o c e wr t,0≤j∧j<l.length∧(Xf p).get b=some (.cells c e wr t)∧v=.pointer (some ⟨b,o+j.toNat*k.size+off,none⟩)∧o+l.length*k.size≤c.length∧Rows (KC (Xf p) k) l ((c.drop o).take (l.length*k.size))
 |.dat,v=>(phd p=.slice none 0 0∧v=.pointer none)∨∃ b n cap,phd p=.slice (some ⟨b,0,none⟩) n cap∧0<n∧v=.pointer (some ⟨b,0,none⟩)
 |.yv,v=>∃ i,p=.pointer (some ⟨i,0,none⟩)∧v=.func (.yield i) #[] #[]
 |.obx c,v=>(c=false∧v=.pointer none)∨(c=true∧∃ b,phd p=.pointer (some ⟨b,0,none⟩)∧v=.pointer (some ⟨b,0,none⟩))
def KV (h:Heap) (k:Kind) (x:k.T) (v:Value):Prop:=(k.one=true∧KC h k x [v])∨(k.one=false∧∃ cs,v=.agg cs.toArray∧KC h k x cs)
theorem KV.mono {h h':Heap}(hl:h.Le h') {k:Kind}{x:k.T}{v:Value}(e:KV h k x v):KV h' k x v:=by
 rcases e with⟨ho,e⟩|⟨ho,cs,hv,e⟩
 ·exact .inl ⟨ho,e.mono hl⟩
 ·exact .inr ⟨ho,cs,hv,e.mono hl⟩
def Rp (h:Heap):(ks:List Kind)→AT ks→List Value→Prop
 |[],_,vs=>vs=[]
 |[k],x,vs=>∃ v,vs=[v]∧KV h k x v
 |k::k'::ks,x,vs=>∃ v cK,vs=v::cK∧KV h k x.1 v∧Rp h (k'::ks) x.2 cK
def gtb (tb:Nat→Option Bool):SV→Prop
 |.bid n c=>tb n=some c
 |_=>True
section
variable (P:Program)
def PfRel (B:Heap) (ks:List Kind) (r:Kind) (cE:AT ks→Prop) (p:AT ks→r.T) (v:Value):Prop :=
 ∃ g first cap,v=.func (.func g) first cap∧∀ x,cE x→∀ σ vs,B.Le σ→Rp σ ks x vs→VCalled P g (first.toList++vs++cap.toList) σ fun v' σ'=>σ'=σ∧KV σ r (p x) v'
mutual
def SR (B:Heap) (pl:Nat→Value) (tb:Nat→Option Bool):SV→Value→Prop
 |.any,_=>True
 |.val k x,v=>KC B k x [v]
 |.bid n c,v=>v=.bool c∧tb n=some c
 |.grd gs v,u=>((∀ g∈gs,tb g.id=some g.c)∧gtb tb v)∧((∀ g∈gs,g.c=g.want)→SR B pl tb v u)∧((∃ g∈gs,g.c≠g.want)→u=undef)
 |.nilS,v=>v=.slice none 0 0
 |.nilP,v=>v=.pointer none
 |.nilM,v=>v=.map none
 |.nilF,v=>v=.nilFunc
 |.lst o,v=>v=pl o∧∃ a n c,v=.slice a n c
 |.sub o lo n sz,v=>(lo=0∧n=0∧v=.slice none 0 0∧pl o=.slice none 0 0)∨∃ i len cap ao,pl o=.slice (some ⟨i,0,none⟩) len cap∧lo+n≤len∧n≤ao∧v=.slice (some ⟨i,lo*sz,none⟩) n ao
 |.elp o i off sz,v=>∃ b len cap,pl o=.slice (some ⟨b,0,none⟩) len cap∧0≤i∧i<len∧v=.pointer (some ⟨b,i.toNat*sz+off,none⟩)
 |.rop k l i off,v=>∃ b o c e wr t,0≤i∧i<l.length∧B.get b=some (.cells c e wr t)∧v=.pointer (some ⟨b,o+i.toNat*k.size+off,none⟩)∧o+l.length*k.size≤c.length∧Rows (KC B k) l ((c.drop o).take (l.length*k.size))
 |.box o off,v=>∃ b,pl o=.pointer (some ⟨b,0,none⟩)∧v=.pointer (some ⟨b,off,none⟩)
 |.cp l off,v=>∃ b c e wr t,B.get b=some (.cells c e wr t)∧v=.pointer (some ⟨b,off,none⟩)∧SRs B pl tb l c
 |.map o,v=>v=pl o∧∃ m,v=.map m
 |.agg l,v=>∃ cs,v=.agg cs.toArray∧SRs B pl tb l cs
 |.tup l,v=>∃ cs,v=.tuple cs.toArray∧SRs B pl tb l cs
 |.dd o w,v=>DR (pl o) w v
 |.fn f first cY,v=>∃ a b,v=.func (.func f) a.toArray b.toArray∧SRs B pl tb first a∧SRs B pl tb cY b
 |.pf ks r cE p,v=>PfRel P B ks r cE p v
def SRs (B:Heap) (pl:Nat→Value) (tb:Nat→Option Bool):List SV→List Value→Prop
 |[],vs=>vs=[]
 |s::ss,vs=>∃ v cK,vs=v::cK∧SR B pl tb s v∧SRs B pl tb ss cK
end
end
end Go.V
namespace Go.V
open Go
abbrev Own:=List (Nat×OB)
def Qc:Own→Nat→OB
 |[],_=>.dead
 |(k,b)::r,d=>bif Nat.beq k d then b else Qc r d
def oset:Own→Nat→OB→Own
 |[],d,b=>[(d,b)]
 |(k,c)::r,d,b=>bif Nat.beq k d then (d,b)::r else bif Nat.blt d k then (d,b)::(k,c)::r else (k,c)::oset r d b
structure St where
 env:List SV
 own:Own
 nx:Nat
mutual
def SV.kill (o:Nat):SV→SV
 |.lst o'=>bif Nat.beq o' o then .any else .lst o'
 |.sub o' lo n sz=>bif Nat.beq o' o then .any else .sub o' lo n sz
 |.elp o' i off sz=>bif Nat.beq o' o then .any else .elp o' i off sz
 |.dd o' w=>bif Nat.beq o' o then .any else .dd o' w
 |.box o' off=>bif Nat.beq o' o then .any else .box o' off
 |.map o'=>bif Nat.beq o' o then .any else .map o'
 |.grd gs v=>.grd gs (SV.kill o v)
 |.agg l=>.agg (SVs.kill o l)
 |.tup l=>.tup (SVs.kill o l)
 |.cp l off=>.cp (SVs.kill o l) off
 |.fn f a b=>.fn f (SVs.kill o a) (SVs.kill o b)
 |.any=>.any
 |.val k x=>.val k x
 |.bid n c=>.bid n c
 |.nilS=>.nilS
 |.nilP=>.nilP
 |.nilM=>.nilM
 |.nilF=>.nilF
 |.rop k l i off=>.rop k l i off
 |.pf ks r cE p=>.pf ks r cE p
def SVs.kill (o:Nat):List SV→List SV
 |[]=>[]
 |s::ss=>SV.kill o s::SVs.kill o ss
end
def OB.kill (o:Nat):OB→OB
 |.cells l u=>.cells (SVs.kill o l) u
 |.dead=>.dead
 |.lst ty k xs nl=>.lst ty k xs nl
 |.map kk vk m=>.map kk vk m
 |.stk l vals=>.stk (SVs.kill o l) vals
 |.deep ty q k xs nl h=>.deep ty q k xs nl h
 |.iter kk vk m dn=>.iter kk vk m dn
 |.mapE kk vk m key n=>.mapE kk vk m key n
 |.lpf l q s=>.lpf (SVs.kill o l) q s
def Ei (o:Nat):Own→Own
 |[]=>[]
 |(k,b)::r=>bif Nat.beq k o then Ei o r else (k,b.kill o)::Ei o r
def St.kill (s:St) (o:Nat):St:=⟨SVs.kill o s.env,Ei o s.own,s.nx⟩
def St.make (s:St) (o:Nat) (b:OB):St:=⟨(s.kill o).env,oset (s.kill o).own o b,s.nx⟩
def St.put (s:St) (d:Option Nat) (v:SV):St:=match d with
 |some d=>⟨s.env.set d v,s.own,s.nx⟩
 |none=>s
def cvp:Value→SV
 |.bool b=>.val .bo b
 |.int k x=>.val (.i k) x
 |.string s=>.val .st s.data.toList
 |.pointer none=>.nilP
 |.slice none 0 0=>.nilS
 |.map none=>.nilM
 |.nilFunc=>.nilF
 |_=>.any
def cv:Value→SV
 |.agg cs=>.agg (cs.toList.map cvp)
 |v=>cvp v
def Q1l:List Gd→List Gd→Bool
 |[],_=>true
 |_::_,[]=>false
 |a::l,b::m=>bif Nat.beq a.id b.id&&(a.want==b.want) then Q1l l m else Q1l (a::l) m
def FI (gs:List Gd):SV→SV
 |.grd g v=>bif Q1l g gs then v else .any
 |v=>v
def gev (gs:List Gd) (env:List SV):Operand→SV
 |.tmp t=>FI gs (env.getD t .any)
 |.const v=>cv v
 |.func f=>.fn f [] []
 |.global _=>.any
def MT {k:Kind}(l:List k.T) (k':Kind):Option (List k'.T):=if h:k=k' then some (h▸l) else none
def Ft {k:Kind}(x:k.T) (k':Kind):Option k'.T:=if h:k=k' then some (h▸x) else none
def asB:SV→Option Bool
 |.val .bo b=>some b
 |.bid _ c=>some c
 |_=>none
def asI:SV→Option (IntKind×Int)
 |.val (.i k) x=>some (k,x)
 |_=>none
def asS:SV→Option (List UInt8)
 |.val .st x=>some x
 |_=>none
def Kind.flat:Kind→Bool
 |.list _=>false
 |.pair a b=>a.flat&&b.flat
 |_=>true
def view (own:Own) (k:Kind):SV→Option (List k.T)
 |.nilS=>some []
 |.val (.list _k') l=>MT l k
 |.lst o=>match Qc own o with|.lst _ _k' xs _=>MT xs k|_=>none
 |.sub o lo n sz=>match Qc own o with|.lst _ k' xs _=>if sz=k'.size then (MT xs k).map fun xs=>(xs.drop lo).take n else none|_=>none
 |.dd o w=>bif k.flat then (match Qc own o with
  |.deep _ _ _ xs _ h=>(match w with
   |.out=>(match h with|none=>MT xs k|some _=>none)
   |.inn _ l=>MT l k
   |.row _ l _=>MT l k
   |_=>none)
  |_=>none) else none
 |_=>none
def Q82 (own:Own):SV→Option Nat
 |.nilS=>some 0
 |.val (.list _) l=>some l.length
 |.lst o=>match Qc own o with|.lst _ _ xs _=>some xs.length|_=>none
 |.sub _ _ n _=>some n
 |.dd o w=>(match Qc own o with
  |.deep _ _ _ xs _ h=>(match w with
   |.out=>(match h with|none=>some xs.length|some _=>none)
   |.inn _ l=>some l.length
   |.row _ l _=>some l.length
   |_=>none)
  |_=>none)
 |_=>none
def SV.solid:SV→Bool
 |.agg _|.tup _|.any|.grd _ _=>false
 |_=>true
def Mh:SV→Option (List SV)
 |.agg l=>bif l.all SV.solid then some l else none
 |.tup _=>none
 |.any=>none
 |.grd _ _=>none
 |v=>some [v]
def Rl:(k:Kind)→List SV→Option k.T
 |.i ik,[v]=>match v with|.val (.i qH) x=>if ik=qH then some x else none|_=>none
 |.bo,[v]=>asB v
 |.st,[v]=>asS v
 |.list k,[v]=>match v with|.nilS=>some []|.val (.list _k') l=>MT l k|_=>none
 |.pair a b,l=>match Rl a (l.take a.size),Rl b (l.drop a.size) with
  |some x,some y=>some (x,y)
  |_,_=>none
 |_,_=>none
def dkV (k:Kind) (v:SV):Option k.T:=bif k.one then Rl k [v] else match v with|.agg l=>Rl k l|_=>none
def Ag (k:Kind) (z:Value):List Value:=bif k.one then [z] else match z with|.agg a=>a.toList|_=>[]
def Q4q:(k:Kind)→Nat→SV→k.T→Option k.T
 |.pair a b,off,v,x=>bif Nat.blt off a.size then (Q4q a off v x.1).map fun y=>(y,x.2) else (Q4q b (off-a.size) v x.2).map fun y=>(x.1,y)
 |.i ik,_,v,_=>Rl (.i ik) [v]
 |.bo,_,v,_=>Rl .bo [v]
 |.st,_,v,_=>Rl .st [v]
 |.list k,_,v,_=>Rl (.list k) [v]
def Kr:Kind→List Value→Bool
 |.i ik,[.int k x]=>decide (ik=k)&&(x==0)
 |.bo,[.bool b]=>!b
 |.st,[.string s]=>s.data.toList.isEmpty
 |.list _,[.slice none 0 0]=>true
 |.pair a b,l=>Kr a (l.take a.size)&&Kr b (l.drop a.size)
 |_,_=>false
def InK (k:IntKind) (x:Int):Prop:=k.min≤x∧x≤k.max
def Q2o:List Gd→Prop→Prop
 |[],p=>p
 |g::gs,p=>g.c=g.want→Q2o gs p
def SM (gs:List Gd):List Prop→Prop→Prop
 |[],q=>q
 |c::cs,q=>Q2o gs c∧SM gs cs q
abbrev CSp:=(SV→List SV→Option (Prop×SV))→List SV→Option (Prop×SV×List OB)
abbrev XSp:=Nat→List SV→St→(SV→St→Prop)→Prop
abbrev ISp:=List SV→Option (Prop×Nat×Nat×(Nat→List SV))
abbrev YSp:=List SV→St→(SV→St→Prop)→Prop
abbrev Q35:=Nat→List SV→Nat×YSp→St→(St→Prop)→Prop
structure Cx where
 kt:List (Nat×Kind)
 cs:List (Nat×CSp)
 nt:Nat
 raw:List Nat
 off:Nat
 xs:List (Nat×XSp)
 it:List (Nat×ISp)
 el:List (Nat×Nat):=[]
 jn:List Nat:=[]
 nm:Bool:=false
 yl:List (Nat×YSp):=[]
 iy:List (Nat×Q35):=[]
 spl:List Nat:=[]
 xf:List (Nat×Nat):=[]
def Qu {α:Type _}:List (Nat×α)→Nat→Option α
 |[],_=>none
 |(k,x)::r,d=>bif Nat.beq k d then some x else Qu r d
mutual
def T9 (own:Own) (bx:List SV→Nat→SV):SV→SV
 |.lst o=>match Qc own o with|.lst _ k xs _=>.val (.list k) xs|_=>.any
 |.sub o lo n sz=>match Qc own o with|.lst _ k xs _=>if sz=k.size then .val (.list k) ((xs.drop lo).take n) else .any|_=>.any
 |.box o off=>match Qc own o with|.cells l _=>bx l off|_=>.any
 |.agg l=>.agg (PW own bx l)
 |.fn f a b=>.fn f (PW own bx a) (PW own bx b)
 |.bid _ c=>.val .bo c
 |.val k x=>.val k x
 |.nilS=>.nilS
 |.nilP=>.nilP
 |.nilM=>.nilM
 |.nilF=>.nilF
 |.rop k l i off=>.rop k l i off
 |.cp l off=>.cp (PW own bx l) off
 |.pf ks r cE p=>.pf ks r cE p
 |.any=>.any
 |.grd _ _=>.any
 |.elp _ _ _ _=>.any
 |.dd o w=>(match Qc own o with
  |.deep _ _ k xs _ h=>(match w with
   |.out=>(match h with|none=>.val (.list k) xs|some _=>.any)
   |.inn k x=>.val (.list k) x
   |.row k x _=>.val (.list k) x
   |_=>.any)
  |_=>.any)
 |.map _=>.any
 |.tup _=>.any
def PW (own:Own) (bx:List SV→Nat→SV):List SV→List SV
 |[]=>[]
 |s::ss=>T9 own bx s::PW own bx ss
end
def Z03 (own:Own) (l:List SV):List SV:=PW own (fun _ _=>.any) l
def Q9r (own:Own) (l:List SV):List SV:=PW own (fun c off=>.cp (Z03 own c) off) l
def Z1c (own:Own) (l:List SV):List SV:=PW own (fun c off=>.cp (Q9r own c) off) l
def R8 (own:Own) (l:List SV):List SV:=Z1c own l
def Pr:BinOp→Int→Int→Int
 |.add,a,b=>a+b
 |.sub,a,b=>a-b
 |_,a,b=>a*b
def GY (a b:Int):Int:=if b > a then b else a
def Lj (a b:Int):Int:=if b<a then b else a
def O9 (k:IntKind) (x y:Int):Int:=x*2 ^ (Nat.min y.toNat k.bits)
def Q72 (k:IntKind) (x y:Int):Int:=x.fdiv (2 ^ (Nat.min y.toNat k.bits))
def gfill (c:List SV):List (Nat×Nat×SV)→Option (List SV)
 |[]=>some c
 |(o,sz,v)::rest=>match Mh v with
  |some vs=>if vs.length=sz∧o+sz≤c.length then gfill (setS c o vs) rest else none
  |none=>none
 where setS (c:List SV) (o:Nat):List SV→List SV
 |[]=>c
 |v::vs=>setS (c.set o v) (o+1) vs
def BP (agg:Bool) (size:Nat) (l:List SV) (off:Nat):Option SV :=
 bif agg then (if off+size≤l.length then some (.agg ((l.drop off).take size)) else none) else l[off]?
def NP (o:Nat):(k:Kind)→k.T→List SV
 |.pair a b,x=>NP o a x.1++NP o b x.2
 |.list k,x=>[.dd o (.inn k x)]
 |.i k,x=>[.val (.i k) x]
 |.bo,x=>[.val .bo x]
 |.st,x=>[.val .st x]
def Q8o (o:Nat) (i:Int):(k:Kind)→k.T→List SV
 |.list k,x=>[.dd o (.row k x i)]
 |.pair a b,x=>NP o (.pair a b) x
 |.i k,x=>[.val (.i k) x]
 |.bo,x=>[.val .bo x]
 |.st,x=>[.val .st x]
def Q09 (own:Own) (agg:Bool) (size:Nat):SV→Option SV
 |.box o off=>match Qc own o with|.cells l _=>BP agg size l off|_=>none
 |.cp l off=>BP agg size l off
 |.elp o i off sz=>match Qc own o with|.lst _ k xs _=>if sz=k.size∧off+size≤sz then BP agg size (US k (xs.getD i.toNat k.dflt)) off else none|_=>none
 |.rop k l i off=>if off+size≤k.size then BP agg size (US k (l.getD i.toNat k.dflt)) off else none
 |.dd o w=>(match Qc own o with
  |.deep _ _ k xs _ h=>(match h with
   |none=>(match w with
    |.el i off sz=>if sz=k.size∧off+size≤sz then BP agg size (Q8o o i k (xs.getD i.toNat k.dflt)) off else none
    |.rowp k' x _ j off=>if off+size≤k'.size then BP agg size (NP o k' (x.getD j.toNat k'.dflt)) off else none
    |.inp k' l j off=>if off+size≤k'.size then BP agg size (NP o k' (l.getD j.toNat k'.dflt)) off else none
    |_=>none)
   |some _=>none)
  |_=>none)
 |_=>none
def W3 (ev:Operand→SV):Option Operand→Int→Option Int
 |none,d=>some d
 |some x,_=>(asI (ev x)).map (·.2)
def F8 (k:MK) (a b:SV):Option Bool:=match k with
 |.int q=>(match asI a,asI b with|some (q1,x),some (q2,y)=>if q1=q∧q2=q then some (x==y) else none|_,_=>none)
 |.bool=>(match asB a,asB b with|some x,some y=>some (x==y)|_,_=>none)
 |.string=>(match asS a,asS b with|some x,some y=>some (x==y)|_,_=>none)
 |.agg _=>none
def Pe:List MK→List SV→List SV→Option Bool
 |[],_,_=>none
 |k::ks,a::l,b::m=>(match ks with
  |[]=>(match l,m with|[],[]=>F8 k a b|_,_=>none)
  |k'::ks=>(match F8 k a b,Pe (k'::ks) l m with|some x,some y=>some (x&&y)|_,_=>none))
 |_::_,_,_=>none
def It (xs:List Int):List UInt8:=xs.map fun x=>x.toNat.toUInt8
def gq (_kt:List (Nat×Kind)) (raw:Bool) (o:VOp) (ev:Operand→SV) (own:Own):Option (List Prop×SV) :=
 match o with
 |.move x=>some ([],ev x)
 |.arith op x y=>match asI (ev x),asI (ev y) with
  |some (k,a),some (k',b)=>if k=k' then (bif raw then some ([],.val (.i k) (k.wrap (Pr op a b))) else some ([InK k (Pr op a b)],.val (.i k) (Pr op a b))) else none
  |_,_=>none
 |.div op x y=>match asI (ev x),asI (ev y) with
  |some (k,a),some (k',b)=>if k=k' then (match op with
   |.quo=>some ([b≠0,InK k (a.tdiv b)],.val (.i k) (a.tdiv b))
   |_=>some ([b≠0],.val (.i k) (a.tmod b))) else none
  |_,_=>none
 |.bits op x y=>match asI (ev x),asI (ev y) with
  |some (k,a),some (k',b)=>if k=k' then some ([],.val (.i k) (H7 op k a b)) else none
  |_,_=>none
 |.shift op x y=>match asI (ev x),asI (ev y) with
  |some (k,a),some (_,b)=>(match op with
   |.shl=>bif raw then some ([0≤b],.val (.i k) (k.wrap (O9 k a b))) else some ([0≤b,InK k (O9 k a b)],.val (.i k) (O9 k a b))
   |_=>some ([0≤b],.val (.i k) (Q72 k a b)))
  |_,_=>none
 |.cmp op x y=>match asI (ev x),asI (ev y) with
  |some (k,a),some (k',b)=>if k=k' then some ([],.val .bo (Q3o op a b)) else none
  |_,_=>none
 |.str op x y=>match asS (ev x),asS (ev y) with
  |some a,some b=>(match op with
   |.add=>some ([a.length+b.length≤4611686018427387904],.val .st (a++b))
   |.eql=>some ([],.val .bo (a==b))
   |.neq=>some ([],.val .bo (!(a==b)))
   |.lss=>some ([],.val .bo (Op.bytesLess a b))
   |_=>none)
  |_,_=>none
 |.eqB neg x y=>match asB (ev x),asB (ev y) with
  |some a,some b=>some ([],.val .bo (if neg then !(a==b) else (a==b)))
  |_,_=>none
 |.un op x=>match op with
  |.not=>match asB (ev x) with|some b=>some ([],.val .bo (!b))|none=>none
  |.neg=>match asI (ev x) with|some (k,n)=>some ([InK k (0-n)],.val (.i k) (0-n))|none=>none
  |.xor=>match asI (ev x) with|some (k,n)=>some ([],.val (.i k) (H7 .xor k (if k.signed then -1 else k.max) n))|none=>none
  |_=>none
 |.convI k x=>match asI (ev x) with
  |some (_,n)=>bif raw then some ([],.val (.i k) (k.wrap n)) else some ([InK k n],.val (.i k) n)
  |none=>none
 |.convS x=>match asS (ev x) with|some s=>some ([],.val .st s)|none=>none
 |.build z parts=>match gfill (z.map cvp) (parts.map fun p=>(p.1,p.2.1,ev p.2.2)) with|some l=>some ([],.agg l)|none=>none
 |.load agg size a=>bif Nat.blt 0 size then (Q09 own agg size (ev a)).map fun v=>([],v) else none
 |.fieldAddr off a=>match ev a with
  |.box o f=>some ([],.box o (f+off))
  |.cp l f=>some ([],.cp l (f+off))
  |.elp o i f sz=>some ([],.elp o i (f+off) sz)
  |.dd o w=>(match w with
   |.el i f sz=>some ([],.dd o (.el i (f+off) sz))
   |.rowp k x i j f=>some ([],.dd o (.rowp k x i j (f+off)))
   |.inp k l j f=>some ([],.dd o (.inp k l j (f+off)))
   |_=>none)
  |.rop k l i f=>some ([],.rop k l i (f+off))
  |_=>none
 |.field agg off size x=>match ev x with|.agg l=>(BP agg size l off).map fun v=>([],v)|_=>none
 |.indexAddr size x i=>match ev x,asI (ev i) with
  |.lst o,some (_,j)=>(match Qc own o with|.lst _ k xs _=>if k.size=size then some ([0≤j,j<xs.length],.elp o j 0 size) else none|_=>none)
  |.dd o w,some (_,j)=>(match Qc own o with
   |.deep _ _ k xs _ h=>(match w with
    |.out=>(match h with|none=>(if k.size=size then some ([0≤j,j<xs.length],.dd o (.el j 0 size)) else none)|some _=>(if k.size=size then some ([0≤j,j<xs.length],.dd o (.el j 0 size)) else none))
    |.row k x i=>if k.size=size then some ([0≤j,j<x.length],.dd o (.rowp k x i j 0)) else none
    |.inn k l=>if k.size=size then some ([0≤j,j<l.length],.dd o (.inp k l j 0)) else none
    |_=>none)
   |_=>none)
  |.sub o lo n sz,some (_,j)=>(match Qc own o with|.lst _ k _ _=>if k.size=size∧sz=size then some ([0≤j,j<n],.elp o (lo+j) 0 size) else none|_=>none)
  |.val (.list k) l,some (_,j)=>if k.size=size then some ([0≤j,j<l.length],.rop k l j 0) else none
  |_,_=>none
 |.indexStr x i=>match asS (ev x),asI (ev i) with
  |some s,some (_,j)=>some ([0≤j,j<s.length],.val (.i .u8) ((s.getD j.toNat 0).toNat:Int))
  |_,_=>none
 |.indexArr len agg size x i=>match ev x,i with
  |.agg l,.const (.int _ (Int.ofNat j))=>if j<len then (BP agg size l (j*size)).map fun v=>([],v) else none
  |_,_=>none
 |.indexAddrArr len size x i=>match ev x,i with
  |.box o f,.const (.int _ (Int.ofNat j))=>if j<len then some ([],.box o (f+j*size)) else none
  |.cp l f,.const (.int _ (Int.ofNat j))=>if j<len then some ([],.cp l (f+j*size)) else none
  |_,_=>none
 |.slice size x lo hi none=>match ev x with
  |.lst o=>(match Qc own o with
   |.lst _ k xs _=>if k.size=size then (match W3 ev lo 0,W3 ev hi xs.length with
    |some a,some b=>some ([0≤a,a≤b,b≤xs.length],.sub o a.toNat (b-a).toNat size)
    |_,_=>none) else none
   |_=>none)
  |.sub o l0 n sz=>(match Qc own o with
   |.lst _ k _ _=>if k.size=size∧sz=size then (match W3 ev lo 0,W3 ev hi n with
    |some a,some b=>some ([0≤a,a≤b,b≤n],.sub o (l0+a.toNat) (b-a).toNat size)
    |_,_=>none) else none
   |_=>none)
  |.val (.list k) l=>if k.size=size then (match W3 ev lo 0,W3 ev hi l.length with
   |some a,some b=>some ([0≤a,a≤b,b≤l.length],.val (.list k) ((l.drop a.toNat).take (b-a).toNat))
   |_,_=>none) else none
  |.dd o w=>(match Qc own o with
   |.deep _ _ _ _ _ _=>(match w with
    |.inn k l=>if k.size=size then (match W3 ev lo 0,W3 ev hi l.length with
     |some a,some b=>some ([0≤a,a≤b,b≤l.length],.dd o (.inn k ((l.drop a.toNat).take (b-a).toNat)))
     |_,_=>none) else none
    |.row k l _=>if k.size=size then (match W3 ev lo 0,W3 ev hi l.length with
     |some a,some b=>some ([0≤a,a≤b,b≤l.length],.dd o (.inn k ((l.drop a.toNat).take (b-a).toNat)))
     |_,_=>none) else none
    |_=>none)
   |_=>none)
  |.nilS=>(match W3 ev lo 0,W3 ev hi 0 with
   |some a,some b=>some ([a=0,b=0],.nilS)
   |_,_=>none)
  |_=>none
 |.sliceStr x lo hi=>match asS (ev x) with
  |some s=>(match W3 ev lo 0,W3 ev hi s.length with
   |some a,some b=>some ([0≤a,a≤b,b≤s.length],.val .st ((s.drop a.toNat).take (b-a).toNat))
   |_,_=>none)
  |none=>none
 |.len x=>match Q82 own (ev x) with|some n=>some ([],.val (.i .i64) (n:Nat))|none=>none
 |.lenStr x=>match asS (ev x) with|some s=>some ([],.val (.i .i64) (s.length:Nat))|none=>none
 |.max4 x y z w=>match asI (ev x),asI (ev y),asI (ev z),asI (ev w) with
  |some (k,a),some (k2,b),some (k3,c),some (k4,d)=>if k=k2∧k=k3∧k=k4 then some ([],.val (.i k) (GY (GY (GY a b) c) d)) else none
  |_,_,_,_=>none
 |.max x y=>match asI (ev x),asI (ev y) with
  |some (k,a),some (k',b)=>if k=k' then some ([],.val (.i k) (GY a b)) else none
  |_,_=>none
 |.min x y=>match asI (ev x),asI (ev y) with
  |some (k,a),some (k',b)=>if k=k' then some ([],.val (.i k) (Lj a b)) else none
  |_,_=>none
 |.makeFunc (.func f) first cap=>some ([],.fn f (first.map ev) (cap.map ev))
 |.extract x i=>match ev x with|.tup l=>(l[i]?).map fun v=>([],v)|_=>none
 |.nilCheck x=>match ev x with
  |.box o f=>some ([],.box o f)
  |.cp l f=>some ([],.cp l f)
  |.fn f a b=>some ([],.fn f a b)
  |_=>none
 |.ext (.eqNil 1 neg x y)=>match ev x,ev y with
  |.nilS,.nilS=>some ([],.val .bo (!neg))
  |.lst o,.nilS=>(match Qc own o with|.lst _ _ _ nl=>some ([],.val .bo (bif neg then !nl else nl))|_=>none)
  |.dd o .out,.nilS=>(match Qc own o with|.deep _ _ _ _ nl _=>some ([],.val .bo (bif neg then !nl else nl))|_=>none)
  |.val (.list _) l,.nilS=>some ([l≠[]],.val .bo neg)
  |_,_=>none
 |.ext (.eqNil 0 neg x y)=>match ev x,ev y with
  |.nilP,.nilP=>some ([],.val .bo (!neg))
  |.box _ _,.nilP=>some ([],.val .bo neg)
  |.cp _ _,.nilP=>some ([],.val .bo neg)
  |.dd _ (.obx c),.nilP=>some ([],.val .bo (bif neg then c else !c))
  |.dd o (.obx c),.box o' f=>(match Qc own o with
   |.cells _ _=>if o=o'∧f=0 then some ([c=true],.val .bo (!neg)) else none
   |_=>none)
  |_,_=>none
 |.ext (.eqAgg neg s x y)=>match ev x,ev y with
  |.agg l,.agg m=>(Pe s l m).map fun b=>([],.val .bo (bif neg then !b else b))
  |_,_=>none
 |.ext (.toUnsafe x)=>match ev x with
  |.box o f=>(match Qc own o with|.cells l _=>if f<l.length then some ([],.box o f) else none|_=>none)
  |_=>none
 |.ext (.fromUnsafe u size x)=>match ev x with
  |.box o f=>(match Qc own o with
   |.cells l (some t)=>if f=0∧t=u∧size≤l.length then some ([],.box o 0) else none
   |_=>none)
  |_=>none
 |.ext (.bytesStr x)=>match view own (.i .u8) (ev x) with
  |some xs=>some ([],.val .st (It xs))
  |none=>none
 |.ext (.sliceData x)=>match ev x with
  |.nilS=>some ([],.nilP)
  |.lst o=>(match Qc own o with|.lst _ _ xs nl=>some ([nl=false→xs≠[]],.dd o .dat)|_=>none)
  |_=>none
 |.ext (.lookup mk z ok x i)=>match ev x with
  |.map o=>(match Qc own o with
   |.map kk vk m=>if mkOk mk kk=true∧Kr vk (Ag vk z)=true then (match dkV kk (ev i) with
    |some key=>(if ok then some ([],.tup [Iz vk (aget kk m key vk.dflt),.val .bo (ahas kk m key)]) else some ([],Iz vk (aget kk m key vk.dflt)))
    |none=>none) else none
   |_=>none)
  |_=>none
 |.ext (.entry x)=>match ev x with
  |.box o f=>(match Qc own o with
   |.iter kk vk m dn=>if f=0∧kk.keyk=true∧vk.one=true then some ([dn≠[]],.tup [Iz kk (m.getD (dn.getLastD 0) (kk.dflt,vk.dflt)).1,.val vk (m.getD (dn.getLastD 0) (kk.dflt,vk.dflt)).2]) else none
   |_=>none)
  |_=>none
 |.ext (.lenMap x)=>match ev x with
  |.map o=>(match Qc own o with|.map _ _ m=>some ([],.val (.i .i64) m.length)|_=>none)
  |_=>none
 |_=>none
 where
 mkP:MK→Kind→Bool
  |.int k,.i k'=>decide (k=k')
  |.string,.st=>true
  |.bool,.bo=>true
  |_,_=>false
 mkAt:Kind→List MK→Option (List MK)
  |.pair a b,l=>(match mkAt a l with|some r=>mkAt b r|none=>none)
  |k,m::r=>bif mkP m k then some r else none
  |_,[]=>none
 mkOk (m:MK) (k:Kind):Bool:=bif k.one then mkP m k else match m with
  |.agg l=>(match mkAt k l with|some []=>true|_=>false)
  |_=>false
 keq:(k:Kind)→k.T→k.T→Bool
  |.i _,(a:Int),b=>a==b
  |.bo,(a:Bool),b=>a==b
  |.st,(a:List UInt8),b=>a==b
  |.pair k l,x,y=>keq k x.1 y.1&&keq l x.2 y.2
  |_,_,_=>false
 aget (kk:Kind) {V:Type}:List (kk.T×V)→kk.T→V→V
  |[],_,d=>d
  |(k,v)::r,key,d=>if keq kk key k then v else aget kk r key d
 ahas (kk:Kind) {V:Type}:List (kk.T×V)→kk.T→Bool
  |[],_=>false
  |(k,_)::r,key=>keq kk key k||ahas kk r key
end Go.V
namespace Go.V
open Go
def Q2p (kk:Kind) {V:Type}:List (kk.T×V)→kk.T→V→List (kk.T×V)
 |[],key,v=>[(key,v)]
 |(k,x)::r,key,v=>if gq.keq kk key k then (key,v)::r else (k,x)::Q2p kk r key v
def Q6x (kk:Kind) {V:Type}:List (kk.T×V)→kk.T→List (kk.T×V)
 |[],_=>[]
 |(k,x)::r,key=>if gq.keq kk key k then r else (k,x)::Q6x kk r key
mutual
def SV.ret (n:Nat):SV→Bool
 |.val k _=>k.flat
 |.nilS|.nilP|.nilM|.nilF=>true
 |.lst j=>Nat.blt j n
 |.box j _=>Nat.blt j n
 |.map j=>Nat.blt j n
 |.dd j w=>(match w with|.out=>Nat.blt j n|_=>false)
 |.agg l=>SVs.ret n l
 |.tup l=>SVs.ret n l
 |_=>false
def SVs.ret (n:Nat):List SV→Bool
 |[]=>true
 |s::ss=>SV.ret n s&&SVs.ret n ss
end
mutual
def V0:SV→Bool
 |.val k _=>k.one
 |.box _ _=>false
 |.map _=>false
 |.dd _ _=>false
 |.agg l=>UH l
 |.tup l=>UH l
 |_=>true
def UH:List SV→Bool
 |[]=>true
 |s::ss=>V0 s&&UH ss
end
def OB.isL:OB→Bool
 |.lst _ _ _ _=>true
 |_=>false
def OB.ret:OB→Bool
 |.lst _ k _ _=>k.flat
 |.cells l _=>SVs.ret 0 l
 |.map kk vk _=>kk.flat&&vk.flat
 |.dead=>false
 |.stk _ _=>false
 |.deep _ _ _ _ _ h=>h.isNone
 |.iter _ _ _ _=>false
 |.mapE _ _ _ _ _=>false
 |.lpf _ _ _=>false
def gap (cs:List (Nat×CSp)):Nat→SV→List SV→Option (Prop×SV)
 |0,_,_=>none
 |n+1,f,args=>match f with
  |.fn g a b=>(match Qu cs g with
   |some sp=>(match sp (gap cs n) (a++args++b) with
    |some (c,v,[])=>bif v.ret 0 then some (c,v) else none
    |_=>none)
   |none=>none)
  |.pf ks r cE p=>(match deca ks args with
   |some x=>bif r.flat then some (cE x,Iz r (p x)) else none
   |none=>none)
  |_=>none
 where
 deca:(ks:List Kind)→List SV→Option (AT ks)
  |[],[]=>some ()
  |[k],[v]=>asV k v
  |k::k'::ks,v::vs=>match asV k v,deca (k'::ks) vs with|some x,some y=>some (x,y)|_,_=>none
  |_,_=>none
 asV (k:Kind) (v:SV):Option k.T:=bif k.one then Rl k [v] else match v with|.agg l=>Rl k l|_=>none
def KX (cs:List (Nat×CSp)) (f:SV) (args:List SV):Option (Prop×SV×List OB) :=
 match f with
 |.fn g a b=>(match Qu cs g with|some sp=>sp (gap cs 3) (a++args++b)|none=>none)
 |f=>(gap cs 3 f args).map fun (c,v)=>(c,v,[])
mutual
def SV.ren (d nt:Nat):SV→SV
 |.lst j=>.lst (d+j*nt)
 |.box j off=>.box (d+j*nt) off
 |.map j=>.map (d+j*nt)
 |.dd j w=>(match w with|.out=>.dd (d+j*nt) .out|_=>.any)
 |.agg l=>.agg (SVs.ren d nt l)
 |.tup l=>.tup (SVs.ren d nt l)
 |.any=>.any
 |.val k x=>.val k x
 |.bid _ c=>.val .bo c
 |.nilS=>.nilS
 |.nilP=>.nilP
 |.nilM=>.nilM
 |.nilF=>.nilF
 |.sub _ _ _ _|.elp _ _ _ _|.grd _ _|.cp _ _|.fn _ _ _|.rop _ _ _ _|.pf _ _ _ _=>.any
def SVs.ren (d nt:Nat):List SV→List SV
 |[]=>[]
 |s::ss=>SV.ren d nt s::SVs.ren d nt ss
end
def St.makes (s:St) (d nt:Nat):Nat→List OB→St
 |_,[]=>s
 |j,b::bs=>(s.make (d+j*nt) b).makes d nt (j+1) bs
def La (k:Kind) (ev:Operand→SV):List (Nat×Operand)→List k.T→Option (List k.T)
 |[],xs=>some xs
 |(j,x)::r,xs=>match Mh (ev x) with
  |some l=>(match Rl k l with
   |some y=>if j<xs.length then La k ev r (xs.set j y) else none
   |none=>none)
  |none=>none
mutual
def nmV:SV→(SV→Prop)→Prop
 |.val k x,K=>∀ y:k.T,y=x→K (.val k y)
 |.agg l,K=>Q2u l fun l'=>K (.agg l')
 |.tup l,K=>Q2u l fun l'=>K (.tup l')
 |.any,K=>K .any
 |.dd o w,K=>K (.dd o w)
 |.bid n c,K=>K (.bid n c)
 |.grd gs v,K=>K (.grd gs v)
 |.nilS,K=>K .nilS
 |.nilP,K=>K .nilP
 |.nilM,K=>K .nilM
 |.nilF,K=>K .nilF
 |.lst o,K=>K (.lst o)
 |.sub o lo n sz,K=>K (.sub o lo n sz)
 |.elp o i off sz,K=>K (.elp o i off sz)
 |.rop k l i off,K=>K (.rop k l i off)
 |.box o off,K=>K (.box o off)
 |.cp l off,K=>K (.cp l off)
 |.map o,K=>K (.map o)
 |.fn f a b,K=>K (.fn f a b)
 |.pf ks r cE p,K=>K (.pf ks r cE p)
def Q2u:List SV→(List SV→Prop)→Prop
 |[],K=>K []
 |v::r,K=>nmV v fun v'=>Q2u r fun r'=>K (v'::r')
end
def Z0e (o:VOp) (ev:Operand→SV):Bool:=match o with
 |.load _ _ a=>(match ev a with|.elp _ _ _ _=>true|.rop _ _ _ _=>true|.dd _ _=>true|_=>false)
 |.cmp ..|.str ..|.eqB ..|.un ..|.pick ..|.indexStr ..|.bits ..|.shift ..|.div ..|.sliceStr ..|.max ..|.max4 ..|.min ..=>true
 |.ext (.lookup ..)|.ext (.eqNil ..)|.ext (.eqAgg ..)|.ext (.entry ..)=>true
 |_=>false
def gnm (C:Cx) (o:VOp) (ev:Operand→SV) (v:SV) (K:SV→Prop):Prop:=bif C.nm&&Z0e o ev then nmV v K else K v
def AR (C:Cx) (d:Nat) (f:SV) (args:List SV) (s:St) (K:SV→St→Prop):Prop :=
 match KX C.cs ((R8 s.own [f]).getD 0 .any) (R8 s.own args) with
 |some (c,v,bs)=>bif v.ret bs.length&&(bs.all OB.ret&&Nat.blt 0 C.nt) then c∧K (v.ren d C.nt) (s.makes d C.nt 0 bs) else False
 |none=>False
def Rg (C:Cx) (d:Nat) (f:SV) (args:List SV) (s:St) (K:SV→St→Prop):Prop :=
 match f with
 |.fn g a b=>(match Qu C.xs g with
  |some x=>x d (a++(args++b)) s K
  |none=>AR C d (.fn g a b) args s K)
 |.dd o .yv=>(match Qu C.yl o with
  |some y=>y args s K
  |none=>False)
 |f=>AR C d f args s K
def gn (C:Cx) (d:Nat) (o:VOp) (ev:Operand→SV) (s:St) (K:SV→St→Prop):Prop :=
 match o with
 |.alloc t z=>K (.box d 0) (s.make d (.cells (z.map cvp) (some t)))
 |.box t x=>match Mh (ev x) with
  |some l=>K (.box d 0) (s.make d (.cells (SVs.kill d l) (some t)))
  |none=>False
 |.buildSlice e z n parts=>match Qu C.kt e.ty with
  |some k=>if k.size=e.sz∧Kr k z=true then (match La k ev parts (List.replicate n k.dflt) with
   |some xs=>K (.lst d) (s.make d (.lst e.ty k xs false))
   |none=>False) else False
  |none=>False
 |.makeSlice e bytes z l c=>match Qu C.kt e.ty,asI (ev l),asI (ev c) with
  |some k,some (_,a),some (_,b)=>if k.size=e.sz∧Kr k z=true then
    SM [] [0≤a,a≤b,b*bytes≤70368744177664,b≤70368744177664] (K (.lst d) (s.make d (.lst e.ty k (List.replicate a.toNat k.dflt) false))) else False
  |_,_,_=>False
 |.append e bytes x y=>match Qu C.kt e.ty with
  |some k=>(match view s.own k (ev y) with
   |some ys=>(match ev x with
    |.nilS=>if k.size=e.sz then SM [] [ys.length*bytes≤70368744177664] (K (.lst d) (s.make d (.lst e.ty k ys ys.isEmpty))) else False
    |.lst o=>(match Qc s.own o with
     |.lst ty _k' xs nl=>if ty=e.ty∧k.size=e.sz then (match MT xs k with
      |some xs=>SM [] [(xs.length+ys.length)*bytes≤70368744177664] (K (.lst o) (s.make o (.lst ty k (xs++ys) (ys.isEmpty&&nl))))
      |none=>False) else False
     |_=>False)
    |_=>False)
   |none=>False)
  |none=>False
 |.store size a v=>match ev a,Mh (ev v) with
  |.box o off,some vs=>(match Qc s.own o with
   |.cells l u=>if vs.length=size∧off+size≤l.length then K .any ⟨s.env,oset s.own o (.cells (gfill.setS l off vs) u),s.nx⟩ else False
   |_=>False)
  |.elp o i off sz,some vs=>(match Qc s.own o with
   |.lst ty k xs nl=>(if off=0∧size=k.size∧sz=k.size then (match Rl k vs with
     |some x=>K .any ⟨s.env,oset s.own o (.lst ty k (xs.set i.toNat x) nl),s.nx⟩
     |none=>False)
    else if size=1∧vs.length=1∧sz=k.size∧off<k.size then (match Q4q k off (vs.getD 0 .any) (xs.getD i.toNat k.dflt) with
     |some x=>K .any ⟨s.env,oset s.own o (.lst ty k (xs.set i.toNat x) nl),s.nx⟩
     |none=>False) else False)
   |_=>False)
  |_,_=>False
 |.callF f args=>Rg C d (.fn f [] []) (args.map ev) s K
 |.callV f args=>Rg C d (ev f) (args.map ev) s K
 |.ext (.mapUpdate mk m k v)=>match ev m with
  |.map o=>(match Qc s.own o with
   |.map kk vk l=>if gq.mkOk mk kk=true then (match dkV kk (ev k),dkV vk (ev v) with
    |some key,some x=>K .any ⟨s.env,oset s.own o (.map kk vk (Q2p kk l key x)),s.nx⟩
    |_,_=>False) else False
   |_=>False)
  |_=>False
 |.ext (.delete mk m k)=>match ev m with
  |.map o=>(match Qc s.own o with
   |.map kk vk l=>if gq.mkOk mk kk=true then (match dkV kk (ev k) with
    |some key=>K .any ⟨s.env,oset s.own o (.map kk vk (Q6x kk l key)),s.nx⟩
    |none=>False) else False
   |_=>False)
  |_=>False
 |.ext (.mapEntry mk z m k)=>match ev m with
  |.map o=>(match Qc s.own o with
   |.map kk vk l=>if gq.mkOk mk kk=true∧Kr vk (Ag vk z)=true then (match dkV kk (ev k) with
    |some key=>∀ n:Int,K (.tup [Iz vk (gq.aget kk l key vk.dflt),.val (.i .i64) n]) ⟨s.env,oset s.own o (.mapE kk vk (Q2p kk l key (gq.aget kk l key vk.dflt)) key n),s.nx⟩
    |none=>False) else False
   |_=>False)
  |_=>False
 |.ext (.entryStore m st v)=>match ev m with
  |.map o=>(match Qc s.own o with
   |.mapE kk vk l key n=>(match asI (ev st),dkV vk (ev v) with
    |some (.i64,n'),some x=>n'=n∧K .any ⟨s.env,oset s.own o (.map kk vk (Q2p kk l key x)),s.nx⟩
    |_,_=>False)
   |_=>False)
  |_=>False
 |.ext (.rangeMap x)=>match ev x with
  |.map o=>(match Qc s.own o with
   |.map kk vk m=>if kk.keyk=true∧vk.one=true then K (.box d 0) (St.make ⟨s.env,oset s.own o .dead,s.nx⟩ d (.iter kk vk m [])) else False
   |_=>False)
  |_=>False
 |.ext (.nextMap x)=>match ev x with
  |.box o f=>(match Qc s.own o with
   |.iter kk vk m dn=>if f=0∧kk.keyk=true then ((∀ r:Nat,r<m.length→r∈dn)→K (.tup [.val .bo false]) s)∧∀ r:Nat,r<m.length→r∉dn→K (.tup [.val .bo true,.any,.any]) ⟨s.env,oset s.own o (.iter kk vk m (dn++[r])),s.nx⟩ else False
   |_=>False)
  |_=>False
 |.ext (.unsafeStr e x n)=>match ev x,asI (ev n) with
  |.nilP,some (.i64,k)=>SM [] [k=0] (K (.val .st []) s)
  |.dd o .dat,some (.i64,k)=>(match Qc s.own o with
   |.lst ty (.i .u8) xs _=>if ty=e then SM [] [k=xs.length,xs.length≤4611686018427387904] (K (.val .st (It xs)) (s.make o .dead)) else False
   |_=>False)
  |_,_=>False
 |.ext (.strBytes e x)=>match asS (ev x) with
  |some xs=>SM [] [xs.length≤4611686018427387904] (K (.lst d) (s.make d (.lst e (.i .u8) (xs.map fun b=>(b.toNat:Int)) false)))
  |none=>False
 |.ext (.copy size a b)=>match ev a with
  |.lst o=>(match Qc s.own o with
   |.lst ty k xs nl=>if k.size=size then (match view s.own k (ev b) with
    |some ys=>K (.val (.i .i64) (Nat.min ys.length xs.length:Nat)) ⟨s.env,oset s.own o (.lst ty k (ys.take xs.length++xs.drop ys.length) nl),s.nx⟩
    |none=>False) else False
   |_=>False)
  |.sub o lo n sz=>(match Qc s.own o with
   |.lst ty k xs nl=>if k.size=size∧sz=size then (match view s.own k (ev b) with
    |some ys=>K (.val (.i .i64) (Nat.min ys.length n:Nat)) ⟨s.env,oset s.own o (.lst ty k (xs.take lo++(ys.take n++xs.drop (lo+Nat.min ys.length n))) nl),s.nx⟩
    |none=>False) else False
   |_=>False)
  |_=>False
 |_=>False
def gnd (_:Cx) (_:Nat) (_:VOp) (_:Operand→SV) (_:St) (_:SV→St→Prop):Prop:=False
def SV.thing:SV→List Nat
 |.lst o=>[o]
 |.dd o _=>[o]
 |_=>[]
def Q57 (l:List SV):List Nat:=l.flatMap SV.thing
def Ck (d:Nat) (o:VOp) (ev:Operand→SV):List Nat:=d::(match o with
 |.buildSlice _ _ _ parts=>parts.flatMap fun p=>(match Mh (ev p.2) with|some l=>Q57 l|none=>[])
 |.append _ _ x y=>SV.thing (ev x)++SV.thing (ev y)
 |.store _ a v=>SV.thing (ev a)++(match Mh (ev v) with|some l=>Q57 l|none=>[])
 |_=>[])
def Li (C:Cx) (d:Nat) (o:VOp) (ev:Operand→SV):Bool :=
 match o with
 |.buildSlice e _ _ _=>(match Qu C.kt e.ty with|some k=>!k.flat&&!(C.raw.contains d)|none=>false)
 |.makeSlice e _ _ _ _=>(match Qu C.kt e.ty with|some k=>!k.flat&&!(C.raw.contains d)|none=>false)
 |.append _ _ x y=>(match ev x with
  |.dd _ _=>true
  |_=>(match ev y with|.dd _ .out=>true|_=>false))
 |.store _ a _=>(match ev a with|.dd _ _=>true|_=>false)
 |_=>false
mutual
def SV.frz (o:Nat) (k:Kind) (xs:List k.T):SV→SV
 |.lst o'=>bif Nat.beq o' o then .val (.list k) xs else .lst o'
 |.sub o' lo n sz=>bif Nat.beq o' o then .any else .sub o' lo n sz
 |.elp o' i off sz=>bif Nat.beq o' o then .any else .elp o' i off sz
 |.dd o' w=>bif Nat.beq o' o then .any else .dd o' w
 |.box o' off=>bif Nat.beq o' o then .any else .box o' off
 |.map o'=>bif Nat.beq o' o then .any else .map o'
 |.grd gs v=>.grd gs (SV.frz o k xs v)
 |.agg l=>.agg (SVs.frz o k xs l)
 |.tup l=>.tup (SVs.frz o k xs l)
 |.cp l off=>.cp (SVs.frz o k xs l) off
 |.fn f a b=>.fn f (SVs.frz o k xs a) (SVs.frz o k xs b)
 |.any=>.any
 |.val k x=>.val k x
 |.bid n c=>.bid n c
 |.nilS=>.nilS
 |.nilP=>.nilP
 |.nilM=>.nilM
 |.nilF=>.nilF
 |.rop k l i off=>.rop k l i off
 |.pf ks r cE p=>.pf ks r cE p
def SVs.frz (o:Nat) (k:Kind) (xs:List k.T):List SV→List SV
 |[]=>[]
 |s::ss=>SV.frz o k xs s::SVs.frz o k xs ss
end
def OB.frz (o:Nat) (k:Kind) (xs:List k.T):OB→OB
 |.cells l u=>.cells (SVs.frz o k xs l) u
 |.dead=>.dead
 |.lst ty k xs nl=>.lst ty k xs nl
 |.map kk vk m=>.map kk vk m
 |.stk l vals=>.stk (SVs.frz o k xs l) vals
 |.lpf l q s=>.lpf (SVs.frz o k xs l) q s
 |.deep ty q k xs nl h=>.deep ty q k xs nl h
 |.iter kk vk m dn=>.iter kk vk m dn
 |.mapE kk vk m key n=>.mapE kk vk m key n
def Q05 (o:Nat) (k:Kind) (xs:List k.T):Own→Own
 |[]=>[]
 |(j,b)::r=>bif Nat.beq j o then Q05 o k xs r else (j,b.frz o k xs)::Q05 o k xs r
def St.frz (s:St) (o:Nat):St:=match Qc s.own o with
 |.lst _ k xs _=>⟨SVs.frz o k xs s.env,Q05 o k xs s.own,s.nx⟩
 |_=>s
def St.frzs (s:St):List Nat→St
 |[]=>s
 |o::r=>(s.frz o).frzs r
def Dv:List SV→List Nat
 |[]=>[]
 |s::r=>(match s with|.lst o=>o::Dv r|_=>Dv r)
def Q1r (C:Cx) (d:Nat) (o:VOp) (ev:Operand→SV) (own:Own):List Nat:=match o with
 |.store _ a v=>(match ev a with
  |.elp q _ _ _=>(match Qc own q with
   |.lst _ k _ _=>bif k.flat then [] else (match Mh (ev v) with|some l=>Dv l|none=>[])
   |_=>[])
  |_=>[])
 |.buildSlice e _ _ parts=>(match Qu C.kt e.ty with
  |some k=>bif k.flat||!(C.raw.contains d) then [] else parts.flatMap fun p=>(match Mh (ev p.2) with|some l=>Dv l|none=>[])
  |none=>[])
 |.move x=>bif C.raw.contains (2000000+d) then Dv [ev x] else []
 |_=>[]
def Bi (s:St) (j:Nat) (want:Bool):Option (List Gd×St) :=
 match s.env.getD j .any with
 |.val .bo c=>some ([⟨s.nx,want,c⟩],⟨s.env.set j (.bid s.nx c),s.own,s.nx+1⟩)
 |.bid n c=>some ([⟨n,want,c⟩],s)
 |.grd gs (.val .bo c)=>some (gs++[⟨s.nx,want,c⟩],⟨s.env.set j (.grd gs (.bid s.nx c)),s.own,s.nx+1⟩)
 |.grd gs (.bid n c)=>some (gs++[⟨n,want,c⟩],s)
 |_=>none
def gqc (C:Cx) (raw:Bool) (o:VOp) (ev:Operand→SV) (own:Own):Option (List Prop×SV) :=
 match o with
 |.callF f args=>match KX C.cs (.fn f [] []) (R8 own (args.map ev)) with
  |some (c,v,[])=>bif v.ret 0 then some ([c],v) else none
  |_=>none
 |.callV f args=>match KX C.cs ((R8 own [ev f]).getD 0 .any) (R8 own (args.map ev)) with
  |some (c,v,[])=>bif v.ret 0 then some ([c],v) else none
  |_=>none
 |o=>gq C.kt raw o ev own
def AQ (nt:Nat):Option (Prop×SV×List OB)→Option (Prop×SV)
 |some (c,v,bs)=>(match v,bs with
  |.lst 0,[.lst _ k xs _]=>bif k.flat&&Nat.blt 0 nt then some (c,.val (.list k) xs) else none
  |_,_=>none)
 |none=>none
def RH (C:Cx) (o:VOp) (ev:Operand→SV) (own:Own):Option (Prop×SV) :=
 match o with
 |.callF f args=>AQ C.nt (KX C.cs (.fn f [] []) (R8 own (args.map ev)))
 |.callV f args=>AQ C.nt (KX C.cs ((R8 own [ev f]).getD 0 .any) (R8 own (args.map ev)))
 |.buildSlice e z n parts=>(match Qu C.kt e.ty with
  |some k=>if k.size=e.sz∧Kr k z=true∧k.flat=true then (match La k ev parts (List.replicate n k.dflt) with
   |some xs=>some (True,.val (.list k) xs)
   |none=>none) else none
  |none=>none)
 |_=>none
def Lm (env:List SV) (x:Operand):Option Bool:=match x with
 |.tmp j=>(match env.getD j .any with
  |.grd gs v=>(match gs with
   |[]=>(match v with
    |.val k x=>(match k,x with|.bo,b=>some b|_,_=>none)
    |_=>none)
   |_=>none)
  |_=>none)
 |_=>none
def Ii (env:List SV) (g:Option (Nat×Bool)):Option Bool:=match g with
 |none=>none
 |some (j,want)=>(match Lm env (.tmp j) with
  |some b=>some (b==want)
  |none=>none)
def Q0u (gs:List Gd) (env:List SV) (c a b:Operand):Option SV :=
 match gev gs env c with
 |.bid n t =>
  match a,b with
  |.const (.bool true),b=>(asB (gev (gs++[⟨n,false,t⟩]) env b)).map fun y=>.val .bo (t||y)
  |a,.const (.bool false)=>(asB (gev (gs++[⟨n,true,t⟩]) env a)).map fun x=>.val .bo (t&&x)
  |a,b=>match gev (gs++[⟨n,true,t⟩]) env a,gev (gs++[⟨n,false,t⟩]) env b with
   |.val (.i k) x,.val (.i k') y=>if k=k' then some (.val (.i k) (if t then x else y)) else none
   |.val .bo x,.val .bo y=>some (.val .bo (if t then x else y))
   |_,_=>none
 |_=>none
def Ef (gs:List Gd) (env:List SV) (c a b:Operand):Option SV:=match Lm env c with
 |some t=>some (bif t then gev gs env a else gev gs env b)
 |none=>Q0u gs env c a b
def I6:VOp→Bool
 |.alloc ..|.box ..|.buildSlice ..|.makeSlice ..|.append ..|.store ..|.callF ..|.callV ..=>false
 |.ext (.makeMap)|.ext (.mapUpdate ..)|.ext (.delete ..)|.ext (.mapEntry ..)|.ext (.entryStore ..)|.ext (.copy ..)|.ext (.clear ..)|.ext (.unsafeStr ..)|.ext (.strBytes ..)|.ext (.rangeMap _)|.ext (.nextMap _)=>false
 |_=>true
def G_:SV→SV
 |.bid _ c=>.val .bo c
 |v=>v
def Q4v (o:VOp):Option (Nat×Nat×(Nat→VOp)):=match o with
 |.indexAddrArr len size x (.tmp t)=>some (len,t,fun n=>.indexAddrArr len size x (.const (.int .i64 (Int.ofNat n))))
 |.indexArr len agg size x (.tmp t)=>some (len,t,fun n=>.indexArr len agg size x (.const (.int .i64 (Int.ofNat n))))
 |_=>none
def FW (j:Int) (f:Nat→Prop):Nat→Nat→Prop
 |0,_=>True
 |n+1,i=>(j=(i:Int)→f i)∧FW j f n (i+1)
def Q9y (C:Cx) (o:VOper) (s:St) (K:St→Prop):Prop :=
 (match o.op with
 |.pick c a b=>match Ef [] s.env c a b with
  |some v=>gnm C (.pick c a b) (gev [] s.env) v fun v=>K (s.put o.dst v)
  |none=>False
 |op=>bif I6 op then (match gq C.kt (C.raw.contains (o.dst.getD 0)) op (gev [] s.env) s.own with
   |some (cs,v)=>SM [] cs (gnm C op (gev [] s.env) v fun v=>K (s.put o.dst v))
   |none=>False)
  else (match op with
   |.ext .makeMap=>(match Qu C.kt (1000000+o.dst.getD 0) with
    |some (.pair kk vk)=>K ((s.make (C.off+o.dst.getD 0) (.map kk vk [])).put o.dst (.map (C.off+o.dst.getD 0)))
    |_=>False)
   |op=>bif Li C (o.dst.getD 0) op (gev [] s.env) then gnd C (C.off+o.dst.getD 0) op (gev [] s.env) s fun v s'=>K (s'.put o.dst v) else gn C (C.off+o.dst.getD 0) op (gev [] s.env) s fun v s'=>K (s'.put o.dst v)))
def Z06 (C:Cx) (o:VOper) (s:St) (K:St→Prop):Prop :=
 match Q4v o.op with
 |some (len,i,f)=>(match asI (gev [] s.env (.tmp i)) with
  |some (_,j)=>0≤j∧j<(len:Int)∧FW j (fun n=>match gq C.kt (C.raw.contains (o.dst.getD 0)) (f n) (gev [] s.env) s.own with
   |some (cs,v)=>SM [] cs (gnm C (f n) (gev [] s.env) v fun v=>K (s.put o.dst v))
   |none=>False) len 0
  |none=>False)
 |none=>Q9y C o s K
def Q6y (C:Cx) (o:VOper) (s:St) (K:St→Prop):Prop :=
 match o.guard with
 |none=>Z06 C o (s.frzs (Q1r C (o.dst.getD 0) o.op (gev [] s.env) s.own)) K
 |some (j,want)=>match Bi s j want with
  |none=>False
  |some (gs,s)=>(match o.op with
   |.pick c a b=>match Ef gs s.env c a b with
    |some v=>gnm C (.pick c a b) (gev gs s.env) v fun v=>K (s.put o.dst (.grd gs (G_ v)))
    |none=>False
   |op=>(match gqc C (C.raw.contains (o.dst.getD 0)) op (gev gs s.env) s.own with
    |some (cs,v)=>SM gs cs (gnm C op (gev gs s.env) v fun v=>K (s.put o.dst (.grd gs (G_ v))))
    |none=>(match RH C op (gev gs s.env) s.own with
     |some (c,v)=>SM gs [c] (gnm C op (gev gs s.env) v fun v=>K ((s.make (C.off+o.dst.getD 0) .dead).put o.dst (.grd gs v)))
     |none=>False)))
def gop (C:Cx) (o:VOper) (s:St) (K:St→Prop):Prop:=match Ii s.env o.guard with
 |some t=>bif t then Q6y C ⟨o.dst,o.op,none⟩ s K else K (s.put o.dst .any)
 |none=>Q6y C o s K
def Q70 (C:Cx) (d:Option Nat) (K:St→Prop) (s:St):Prop:=match d with
 |none=>K s
 |some d=>bif C.spl.contains d then (match asB (s.env.getD d .any) with
   |some t=>(t=true→K (s.put (some d) (.grd [] (.val .bo true))))∧(t=false→K (s.put (some d) (.grd [] (.val .bo false))))
   |none=>False)
  else K s
def Q71 (C:Cx):List VOper→St→(St→Prop)→Prop
 |[],s,K=>K s
 |o::r,s,K=>gop C o s (Q70 C o.dst fun s'=>Q71 C r s' K)
def dv (o:DOper):VOper:=⟨o.dst,o.op,o.guard⟩
def Q1d (l:List DOper):Bool:=l.all fun o=>!(o.kind==2)&&!(o.op.kind==2)
def gd1 (C:Cx) (o:DOper) (s:St) (K:St→Prop):Prop :=
 match o.guard with
 |none=>(match o.op with
  |.pick c a b=>(match Ef [] s.env c a b with
   |some v=>gnm C (.pick c a b) (gev [] s.env) v fun v=>K (s.put o.dst v)
   |none=>False)
  |op=>(match gq C.kt (C.raw.contains (o.dst.getD 0)) op (gev [] s.env) s.own with
   |some (cs,v)=>SM [] cs (gnm C op (gev [] s.env) v fun v=>K (s.put o.dst v))
   |none=>False))
 |some (j,want)=>(match Bi s j want with
  |none=>False
  |some (gs,s)=>(match o.op with
   |.pick c a b=>(match Ef gs s.env c a b with
    |some v=>gnm C (.pick c a b) (gev gs s.env) v fun v=>K (s.put o.dst (.grd gs (G_ v)))
    |none=>False)
   |op=>(match gq C.kt (C.raw.contains (o.dst.getD 0)) op (gev gs s.env) s.own with
    |some (cs,v)=>SM gs cs (gnm C op (gev gs s.env) v fun v=>K (s.put o.dst (.grd gs (G_ v))))
    |none=>False)))
def OB.wf:OB→Prop
 |.lst _ _ xs nl=>nl=true→xs=[]
 |_=>True
def FC:List OB→Prop→Prop
 |[],q=>q
 |b::r,q=>b.wf∧FC r q
def Mj (C:Cx) (d:Nat) (f:SV) (args:List SV) (s:St) (K:List Nat→SV→St→Prop):Prop :=
 match KX C.cs f args with
 |some (c,v,bs)=>bif v.ret bs.length&&(bs.all OB.ret&&(Nat.blt 0 C.nt&&(bs.all OB.isL&&V0 v))) then c∧FC bs (K ((List.range bs.length).map fun j=>d+j*C.nt) (v.ren d C.nt) (s.makes d C.nt 0 bs)) else False
 |none=>False
def PL:VOp→Bool
 |.alloc ..|.box ..|.buildSlice ..|.makeSlice ..=>true
 |_=>false
def Qt (d:Nat) (o:VOp) (ev:Operand→SV):Nat:=match o with
 |.append _ _ x _=>(match ev x with|.lst q=>q|_=>d)
 |.store _ a _=>(match ev a with|.box q _=>q|.elp q _ _ _=>q|_=>d)
 |.ext (.mapUpdate _ m _ _)=>(match ev m with|.map q=>q|_=>d)
 |.ext (.delete _ m _)=>(match ev m with|.map q=>q|_=>d)
 |.ext (.mapEntry _ _ m _)=>(match ev m with|.map q=>q|_=>d)
 |.ext (.entryStore m _ _)=>(match ev m with|.map q=>q|_=>d)
 |.ext (.copy _ a _)=>(match ev a with|.lst q=>q|.sub q _ _ _=>q|_=>d)
 |.ext (.unsafeStr _ a _)=>(match ev a with|.dd q _=>q|_=>d)
 |_=>d
def OB.here:OB→Bool
 |.dead=>false
 |.stk _ _=>false
 |.deep _ _ _ _ _ _=>false
 |.iter _ _ _ _=>false
 |.mapE _ _ _ _ _=>false
 |.lpf _ _ _=>false
 |_=>true
def stP:MK→Value→Bool
 |.agg [.int .i64,.int .i64],.int .i64 n=>n==0
 |_,_=>false
def Ur (o:VOp) (ev:Operand→SV) (own:Own):Option Nat:=match o with
 |.load _ _ a=>(match ev a with
  |.box q _=>bif (Qc own q).here then some (2*q) else none
  |.elp q _ _ _=>bif (Qc own q).here then some (2*q) else none
  |_=>none)
 |.ext (.lookup mk z false x _)=>bif stP mk z then (match ev x with
  |.map q=>(match Qc own q with|.map _ _ _=>some (2*q+1)|_=>none)
  |_=>none) else none
 |_=>none
def Ra:VOp→Bool
 |.ext (.mapEntry mk z _ _)=>stP mk z
 |_=>false
def Zm (A:List (Nat×Option Nat)) (j q:Nat):Bool:=A.all fun a=>Nat.blt a.1 j||(match a.2 with|some t=>!(Nat.beq t q)|none=>false)
def PK (A:List (Nat×Option Nat)) (j:Nat) (q:Option Nat):Bool:=match q with|some q=>Zm A j (q / 2)|none=>false
def Rb (R:List (Nat×Option Nat)) (hl t:Nat):Bool:=R.all fun r=>Nat.blt r.1 hl||(match r.2 with|some q=>!(Nat.beq (q / 2) t)|none=>false)
def Lk (R:List (Nat×Option Nat)) (hl t:Nat):Bool:=R.all fun r=>Nat.blt r.1 hl||(match r.2 with|some q=>!(Nat.beq (q / 2) t)|none=>true)
def Q2y (R:List (Nat×Option Nat)) (hl t:Nat):Bool:=R.all fun r=>Nat.blt r.1 hl||(match r.2 with|some q=>!(Nat.beq (q / 2) t)||Nat.beq (q % 2) 1|none=>false)
def Fb (mk:Bool) (R:List (Nat×Option Nat)) (hl:Nat) (ts:List Nat):Bool:=R.all fun r=>Nat.blt r.1 hl||(match r.2 with|some q=>ts.all (fun t=>!(Nat.beq (q / 2) t))|none=>mk)
def Q2s (o:VOp) (ev:Operand→SV):Bool:=match o with
 |.load _ _ a=>(match ev a with|.rop _ _ _ _=>true|.cp _ _=>true|_=>false)
 |_=>false
def O0 (s:St) (j:Nat) (want:Bool) (o:VOp):Bool:=match Bi s j want with
 |some (gs,s1)=>Q2s o (gev gs s1.env)
 |none=>false
def Gq (A:List (Nat×Option Nat)) (j:Nat):Bool:=A.all fun a=>Nat.blt a.1 j||a.2.isSome
def FT (C:Cx) (f:SV) (args:List SV):Option (List Prop×SV):=match KX C.cs f args with
 |some (c,v,bs)=>(match v,bs with
  |.lst 0,[.lst _ k xs nl]=>bif k.flat&&Nat.blt 0 C.nt then some ([c,nl=true→xs=[]],.val (.list k) xs) else none
  |_,_=>none)
 |none=>none
def F6 (env:List SV) (o:DOper):DOper:=match Ii env o.guard with
 |some true=>{o with guard:=none}
 |_=>o
def Q5k (own:Own):SV→Option (List SV)
 |.box o off=>bif Nat.beq off 0 then (match Qc own o with|.cells l _=>some l|_=>none) else none
 |.cp l off=>bif Nat.beq off 0 then some l else none
 |_=>none
def Q1a (own:Own) (j:Nat):List SV→Option Nat
 |a::_=>(match Q5k own a with
  |some l=>(match l[j]? with
   |some (.map o)=>some o
   |_=>none)
  |none=>(match a with|.map o=>some o|_=>none))
 |[]=>none
def Cx.nx (C:Cx):Cx:={C with xs:=[]}
def Xe (C:Cx):List DOper→St→Nat→Nat→List (Nat×Option Nat)→List (Nat×Option Nat)→(St→Prop)→Prop
 |[],s,_,_,_,_,K=>K s
 |o0::r,s,hl,chg,A,R,K=>match Ii s.env o0.guard with
  |some false=>if o0.kind=2 then Xe C r (s.put o0.dst .any) (hl+1) chg A R K else Xe C r (s.put o0.dst .any) hl chg A R K
  |_=>(fun o:DOper =>
  if o.kind=2 then
   (match o.op with
   |.callF f args=>(match o.guard with
    |none=>(match Qu C.xs f with
     |some x=>(match Qu C.xf f with
      |some j=>(match Q1a s.own j (args.map (gev [] s.env)) with
       |some t=>bif waits o.dst.toList r&&Fb false R hl [t] then
         x (C.off+o.dst.getD 0) (args.map (gev [] s.env)) s fun v s'=>Xe C r (s'.put o.dst v) (hl+1) hl ((hl-1,some t)::A) R K else False
       |none=>False)
      |none=>bif waits o.dst.toList r&&R.all (fun q=>Nat.blt q.1 hl) then
       x (C.off+o.dst.getD 0) (args.map (gev [] s.env)) s fun v s'=>Xe C r (s'.put o.dst v) (hl+1) hl ((hl-1,none)::A) [] K
      else Mj C (C.off+o.dst.getD 0) (.fn f [] []) (R8 s.own (args.map (gev [] s.env))) s fun ts v s'=>Xe C r (s'.put o.dst v) (hl+1) (bif ts.isEmpty then chg else hl) (ts.map (fun t=>(hl-1,some t))++A) (bif ts.isEmpty then R else R.map fun r=>(r.1,none)) K)
     |none=>Mj C (C.off+o.dst.getD 0) (.fn f [] []) (R8 s.own (args.map (gev [] s.env))) s fun ts v s'=>Xe C r (s'.put o.dst v) (hl+1) (bif ts.isEmpty then chg else hl) (ts.map (fun t=>(hl-1,some t))++A) (bif ts.isEmpty then R else R.map fun r=>(r.1,none)) K)
    |some (j,want)=>(match Bi s j want with
     |none=>False
     |some (gs,s)=>(match gqc C false (.callF f args) (gev gs s.env) s.own with
      |some (cs,v)=>bif V0 v then SM gs cs (gnm C (.callF f args) (gev gs s.env) v fun v=>Xe C r (s.put o.dst (.grd gs (G_ v))) (hl+1) chg A R K) else False
      |none=>(match FT C (.fn f [] []) (R8 s.own (args.map (gev gs s.env))) with
       |some (cs,v)=>SM gs cs (Xe C r ((s.make (C.off+o.dst.getD 0) .dead).put o.dst (.grd gs v)) (hl+1) hl ((hl-1,none)::A) (R.map fun r=>(r.1,none)) K)
       |none=>False))))
   |.callV f args=>(match o.guard with
    |none=>Mj C (C.off+o.dst.getD 0) ((R8 s.own [gev [] s.env f]).getD 0 .any) (R8 s.own (args.map (gev [] s.env))) s fun ts v s'=>Xe C r (s'.put o.dst v) (hl+1) (bif ts.isEmpty then chg else hl) (ts.map (fun t=>(hl-1,some t))++A) (bif ts.isEmpty then R else R.map fun r=>(r.1,none)) K
    |some _=>False)
   |.ext (.rangeMap _)=>False
   |.ext (.nextMap _)=>False
   |op=>(match o.guard with
    |none=>bif Li C (o.dst.getD 0) op (gev [] s.env) then
      (bif Fb (PL op) R hl (Ck (C.off+o.dst.getD 0) op (gev [] s.env)) then
       gnd C (C.off+o.dst.getD 0) op (gev [] s.env) s fun v s'=>Xe C r (s'.put o.dst v) (hl+1) hl ((Ck (C.off+o.dst.getD 0) op (gev [] s.env)).map (fun t=>(hl-1,some t))++A) R K else False)
     else bif (PL op&&Lk R hl (Qt (C.off+o.dst.getD 0) op (gev [] s.env)))||Rb R hl (Qt (C.off+o.dst.getD 0) op (gev [] s.env))||(Ra op&&Q2y R hl (Qt (C.off+o.dst.getD 0) op (gev [] s.env))) then
      gn C (C.off+o.dst.getD 0) op (gev [] s.env) s fun v s'=>Xe C r (s'.put o.dst v) (hl+1) hl ((hl-1,some (Qt (C.off+o.dst.getD 0) op (gev [] s.env)))::A) R K else False
    |some _=>False))
  else if o.kind=1 then
   (match o.guard with
   |none=>bif Q2s o.op (gev [] s.env)&&Gq A o.kmin then gd1 C o s fun s'=>Xe C r s' hl chg A R K
    else bif Nat.ble chg o.kmin||PK A o.kmin (Ur o.op (gev [] s.env) s.own) then gd1 C o s fun s'=>Xe C r s' hl chg A ((o.kmax,Ur o.op (gev [] s.env) s.own)::R) K else False
   |some (j,want)=>bif O0 s j want o.op&&Gq A o.kmin then gd1 C o s fun s'=>Xe C r s' hl chg A R K
    else bif Nat.ble chg o.kmin then gd1 C o s fun s'=>Xe C r s' hl chg A ((o.kmax,none)::R) K else False)
  else gd1 C o s fun s'=>Xe C r s' hl chg A R K) (F6 s.env o0)
inductive Src where
 |slot (j:Nat)
 |cell (t off:Nat)
 |key (k:Nat)
structure LoopAnn where
 E:Type
 D:Type
 sl:List Nat
 vs:E→D→List SV
 own:E→D→List (Nat×Src×OB)
def Q2q:List Nat→List SV→List (Nat×SV)
 |[],_=>[]
 |j::js,[]=>(j,.any)::Q2q js []
 |j::js,v::vs=>(j,v)::Q2q js vs
def LoopAnn.st (A:LoopAnn) (p:A.E) (d:A.D):List (Nat×SV):=Q2q A.sl (A.vs p d)
def LoopP {D:Type}(F:D→(D→Prop)→Prop) (d0:D):Prop :=
 ∃ (I:D→Prop) (μ:D→Nat),I d0∧∀ d,I d→F d fun d'=>I d'∧μ d'<μ d
def Z0z (s:St) (mp:List (Nat×Option Nat)):Src→Option (Option Nat)
 |.slot j=>match s.env.getD j .any with
  |.lst a=>some (some a)
  |.sub a _ _ _=>some (some a)
  |.dd a _=>some (some a)
  |.box a _=>some (some a)
  |.map a=>some (some a)
  |.nilS=>some none
  |_=>none
 |.cell t off=>match Qu mp t with
  |some (some a)=>(match Qc s.own a with
   |.cells l _=>(match l.getD off .any with
    |.lst a=>some (some a)
    |.box a _=>some (some a)
    |.map a=>some (some a)
    |.nilS=>some none
    |_=>none)
   |_=>none)
  |_=>none
 |.key k=>some (some k)
def Q34 (s:St):List (Nat×Src)→List (Nat×Option Nat)→Option (List (Nat×Option Nat))
 |[],mp=>some mp
 |(t,src)::r,mp=>match Z0z s mp src with
  |some (some a)=>if (mp.any fun p=>p.2==some a)||(Qu mp t).isSome then none else Q34 s r (mp++[(t,some a)])
  |some none=>if (Qu mp t).isSome then none else Q34 s r (mp++[(t,none)])
  |none=>none
def NU {k:Kind}(x:k.T) {k':Kind}(y:k'.T):Prop:=match Ft y k with|some y=>y=x|none=>False
mutual
def SV.pure:SV→Bool
 |.lst _|.sub _ _ _ _|.elp _ _ _ _|.box _ _|.map _|.grd _ _|.bid _ _|.dd _ _=>false
 |.agg l=>SVs.pure l
 |.tup l=>SVs.pure l
 |.cp l _=>SVs.pure l
 |.fn _ a b=>SVs.pure a&&SVs.pure b
 |.any|.val _ _|.nilS|.nilP|.nilM|.nilF|.rop _ _ _ _|.pf _ _ _ _=>true
def SVs.pure:List SV→Bool
 |[]=>true
 |s::ss=>SV.pure s&&SVs.pure ss
end
mutual
def Tn (mp:List (Nat×Option Nat)):SV→SV→Prop
 |.any,_=>True
 |.val k x,v=>match v with
  |.val _k' y=>NU x y
  |.bid _ c=>NU (k:=k) x (k':=.bo) c
  |.nilS=>match k,x with|.list _,x=>x=[]|_,_=>False
  |_=>False
 |.lst t,v=>match v with
  |.lst a=>if Qu mp t=some (some a) then True else False
  |.nilS=>if Qu mp t=some none then True else False
  |_=>False
 |.box t off,v=>match v with
  |.box a cZ=>if Qu mp t=some (some a)∧off=cZ then True else False
  |_=>False
 |.map t,v=>match v with
  |.map a=>if Qu mp t=some (some a) then True else False
  |_=>False
 |.dd t w,v=>(match w with
  |.obx c=>(match v with
   |.nilP=>c=false
   |.box a f=>if Qu mp t=some (some a)∧f=0 then c=true else False
   |.dd a w'=>(match w' with|.obx c'=>if Qu mp t=some (some a) then c'=c else False|_=>False)
   |_=>False)
  |.yv=>(match v with
   |.dd a w'=>(match w' with|.yv=>if Qu mp t=some (some a) then True else False|_=>False)
   |_=>False)
  |.out=>(match v with
   |.dd a w'=>(match w' with|.out=>if Qu mp t=some (some a) then True else False|_=>False)
   |.nilS=>if Qu mp t=some none then True else False
   |_=>False)
  |_=>False)
 |.agg l,v=>match v with|.agg l'=>GJ mp l l'|_=>False
 |.tup l,v=>match v with|.tup l'=>GJ mp l l'|_=>False
 |.fn f a b,v=>match v with|.fn f' a' b'=>if f=f' then GJ mp a a'∧GJ mp b b' else False|_=>False
 |.nilS,v=>match v with|.nilS=>True|_=>False
 |.nilP,v=>match v with|.nilP=>True|_=>False
 |.nilM,v=>match v with|.nilM=>True|_=>False
 |.nilF,v=>match v with|.nilF=>True|_=>False
 |.cp l off,v=>bif SVs.pure l then .cp l off=v∧SVs.pure l=true else match v with|.cp l' cZ=>if off=cZ then GJ mp l l' else False|_=>False
 |.pf ks r cE p,v=>.pf ks r cE p=v
 |.sub t lo n sz,v=>match v with
  |.sub a sM n' sN=>if Qu mp t=some (some a) then sM=lo∧n'=n∧sN=sz else False
  |_=>False
 |.elp _ _ _ _,_|.grd _ _,_|.bid _ _,_|.rop _ _ _ _,_=>False
def GJ (mp:List (Nat×Option Nat)):List SV→List SV→Prop
 |[],l=>l=[]
 |s::ss,l=>match l with|v::vs=>Tn mp s v∧GJ mp ss vs|[]=>False
end
def Q07 (s:St) (mp:List (Nat×Option Nat)) (t:Nat) (b:OB):Prop :=
 match Qu mp t with
 |some (some a)=>(match b,Qc s.own a with
  |.dead,_=>True
  |.lst ty k xs nl,.lst lr k' cn kC=>if ty=lr then NU (k:=.list k) xs (k':=.list k') cn∧kC=nl else False
  |.cells l u,.cells l' u'=>if u=u' then GJ mp l l' else False
  |.map kk vk m,.map kD mD m'=>if kk=kD then NU (k:=.list (.pair kk vk)) m (k':=.list (.pair kD mD)) m' else False
  |.stk l vals,.stk l' jA=>vals=jA∧GJ mp l l'
  |.lpf l q u,.lpf l' q' u'=>(match u,u' with|.rdy,.rdy=>q=q'∧GJ mp l l'|.busy,.busy=>q=q'∧GJ mp l l'|_,_=>False)
  |.iter kk vk m dn,.iter kD mD m' qI=>if kk=kD then NU (k:=.list (.pair kk vk)) m (k':=.list (.pair kD mD)) m'∧qI=dn else False
  |.deep ty q k xs nl h,.deep lr q' k' cn kC h'=>if ty=lr∧q=q' then (match h,h' with|none,none=>NU (k:=.list k) xs (k':=.list k') cn∧kC=nl|_,_=>False) else False
  |_,_=>False)
 |some none=>(match b with
  |.lst _ _ xs nl=>xs=[]∧nl=true
  |.deep _ _ _ xs nl h=>(match h with|none=>xs=[]∧nl=true|some _=>False)
  |_=>False)
 |none=>False
def gmatch (s:St) (st:List (Nat×SV)) (ow:List (Nat×Src×OB)):Prop :=
 match Q34 s (ow.map fun p=>(p.1,p.2.1)) [] with
 |some mp=>slots mp st∧obs mp ow
 |none=>False
 where
 slots (mp:List (Nat×Option Nat)):List (Nat×SV)→Prop
  |[]=>True
  |(j,v)::r=>Tn mp v (s.env.getD j .any)∧slots mp r
 obs (mp:List (Nat×Option Nat)):List (Nat×Src×OB)→Prop
  |[]=>True
  |(t,_,b)::r=>Q07 s mp t b∧obs mp r
def Zj (len:Nat) (st:List (Nat×SV)) (ow:List (Nat×Src×OB)):St :=
 ⟨st.foldl (fun e p=>e.set p.1 p.2) (List.replicate len .any),ow.foldl (fun o p=>oset o p.1 p.2.2) [],0⟩
def Z15:SV→SV
 |.bid _ c=>.val .bo c
 |.grd _ _=>.any
 |.elp _ _ _ _=>.any
 |.rop _ _ _ _=>.any
 |.dd o w=>(match w with|.out=>.dd o .out|.obx c=>.dd o (.obx c)|.yv=>.dd o .yv|_=>.any)
 |v=>v
def Q7z (jn:List Nat) (s:St):List (Nat×SV):=jn.map fun j=>(j,Z15 (s.env.getD j .any))
def Q3n:Own→List (Nat×Src×OB)
 |[]=>[]
 |(t,b)::r=>(match b with|.dead=>Q3n r|b=>(t,.key t,b)::Q3n r)
def DD (n:Nat) (s:St) (st:List (Nat×SV)) (ow:List (Nat×Src×OB)):Prop:=bif Nat.beq s.env.length n then gmatch s st ow else False
def Q1v (C:Cx):List (List DOper)→St→List (Nat×SV)→List (Nat×Src×OB)→Prop→Prop
 |[],_,_,_,Q=>Q
 |l::ls,s,st,ow,Q=>(Xe C.nx l s 1 0 [] [] fun s'=>DD s.env.length s' st ow)∧Q1v C ls s st ow Q
def Sm (C:Cx):List DSeg→St→(St→Prop)→Prop
 |[],s,K=>K s
 |.one o::r,s,K=>gop C o s (Q70 C o.dst fun s'=>Sm C r s' K)
 |.alts [l]::r,s,K=>bif Q1d l then Q71 C (l.map dv) s fun s'=>Sm C r s' K else bif l.all (fun o=>o.kind==o.op.kind) then Xe C l s 1 0 [] [] fun s'=>Sm C r s' K else False
 |.alts (l::l2::ls)::r,s,K=>bif (l::l2::ls).all (fun l=>l.all fun o=>o.kind==o.op.kind) then
   Xe C.nx l s 1 0 [] [] fun s0=>DD s.env.length s0 (Q7z C.jn s0) (Q3n s0.own)∧Q1v C (l2::ls) s (Q7z C.jn s0) (Q3n s0.own) (Sm C r (Zj s.env.length (Q7z C.jn s0) (Q3n s0.own)) K) else False
 |.alts []::_,_,_=>False
def ON (R:St→Prop) (K:Exit→St→Prop):Exit→St→Prop
 |.normal,s=>R s
 |e,s=>K e s
def IT (id:Nat) (K:Exit→St→Prop):Exit→St→Prop
 |.exit gj,s=>if gj=id then K .normal s else K (.exit gj) s
 |e,s=>K e s
def Q8z:Own→Bool
 |[]=>true
 |(_,b)::r=>(match b with|.lpf _ _ .ret=>false|.lpf _ _ (.exit _)=>false|_=>true)&&Q8z r
def Q15 (A:LoopAnn) (p:A.E) (next:A.D→Prop) (K:Exit→St→Prop):Exit→St→Prop
 |.normal,s=>bif Q8z s.own then ∃ d,gmatch s (A.st p d) (A.own p d)∧next d else False
 |e,s=>K e s
def Z10 {D:Type}(F:(D→Prop)→Prop) (gQ:D→Prop):Prop:=∃ I:D→Prop,F I∧∀ d,I d→gQ d
def Q91 (L:List (Nat×LoopAnn)) (c:Operand):Option LoopAnn:=match c with
 |.tmp j=>Qu L (3000000+j)
 |_=>none
def Q1p (n:Nat) (A:LoopAnn) (p:A.E) (next:A.D→Prop) (K:Exit→St→Prop):Exit→St→Prop
 |.normal,s=>∃ d,DD n s (A.st p d) (A.own p d)∧next d
 |e,s=>K e s
def Q5j {D:Type}(m:Nat) (F:Nat→D→(D→Prop)→Prop) (gQ:D→Prop) (d0:D):Prop :=
 ∃ I:Nat→D→Prop,I 0 d0∧(∀ k d,k<m→I k d→F k d fun d'=>I (k+1) d')∧∀ d,I m d→gQ d
def Q21:St→List SV→Option (St×List SV)
 |s,[]=>some (s,[])
 |s,v::vs=>match v with
  |.box o 0=>(match Qc s.own o with
   |.cells l _=>bif SVs.pure l then (match Q21 ⟨s.env,oset s.own o .dead,s.nx⟩ vs with|some (s',r)=>some (s',.cp l 0::r)|none=>none) else none
   |_=>none)
  |v=>bif v.pure then (match Q21 s vs with|some (s',r)=>some (s',v::r)|none=>none) else none
def Cl (key:Nat) (vals:List Value) (s:St):St:=s.make key (.stk (SVs.kill key s.env) vals)
def Da:List SV→List Nat→List SV→List SV
 |env,p::ps,v::vs=>Da (env.set p v) ps vs
 |env,_,_=>env
def Fw (key:Nat) (A:LoopAnn) (p:A.E) (vals:List Value) (next:A.D→Prop) (K:Exit→St→Prop) (e:Exit) (s:St):Prop :=
 match Qc s.own key with
 |.stk l vs=>vs=vals∧(match e with
  |.normal=>∃ d,gmatch ⟨l,s.own,s.nx⟩ (A.st p d) (A.own p d)∧next d
  |.ret=>K .ret ⟨l,s.own,s.nx⟩
  |.exit id=>K (.exit id) ⟨l,s.own,s.nx⟩
  |_=>False)
 |_=>False
def Z0m (o:Nat) (q:LpD) (s:St):St:=s.make o (.lpf (SVs.kill o s.env) q .rdy)
def gyK (o aH:Nat) (fO:List Value) (q:LpD) (K:SV→St→Prop) (e:Exit) (s:St):Prop :=
 match Qc s.own aH,Qc s.own o with
 |.stk l2 jB,.lpf l q' u=>(match u with
  |.busy=>jB=fO∧q'=q∧(match e with
   |.normal=>K (.val .bo true) ⟨l2,oset (oset s.own aH .dead) o (.lpf l q' .rdy),s.nx⟩
   |.ret=>K (.val .bo false) ⟨l2,oset (oset s.own aH .dead) o (.lpf l q' .ret),s.nx⟩
   |.exit id=>K (.val .bo false) ⟨l2,oset (oset s.own aH .dead) o (.lpf l q' (.exit id)),s.nx⟩
   |_=>False)
  |_=>False)
 |_,_=>False
def Q23 (o:Nat) (q:LpD) (K:Exit→St→Prop) (s:St):Prop :=
 match Qc s.own o with
 |.lpf l q' u=>(match u with
  |.busy=>False
  |.rdy=>q'=q∧K .normal ⟨l,oset s.own o .dead,s.nx⟩
  |.ret=>q'=q∧K .ret ⟨l,oset s.own o .dead,s.nx⟩
  |.exit id=>q'=q∧K (.exit id) ⟨l,oset s.own o .dead,s.nx⟩)
 |_=>False
def O6 (o aH np:Nat) (q:LpD) (W:(Exit→St→Prop)→St→Prop) (ps:List Nat):YSp:=fun args s K =>
 match Qc s.own o with
 |.lpf l q' u=>(match u with
  |.rdy=>bif Nat.beq args.length np then q'=q∧∀ fO,W (gyK o aH fO q K) ⟨Da (SVs.kill aH l) ps (SVs.kill aH args),oset (Cl aH fO s).own o (.lpf (SVs.kill aH l) q' .busy),s.nx⟩ else False
  |_=>False)
 |_=>False
def gwp (C:Cx) (L:List (Nat×LoopAnn)):VCode→Nat→(Exit→St→Prop)→St→Prop
 |.skip,_,K,s=>K .normal s
 |.region ops,_,K,s=>Q71 C ops s fun s'=>K .normal s'
 |.regionD aN,_,K,s=>Sm C aN s fun s'=>K .normal s'
 |.seq a b,n,K,s=>gwp C L a n (ON (fun s'=>gwp C L b n K s') K) s
 |.cond c a b,n,K,s=>match Lm s.env c with
  |some t=>bif t then gwp C L a n K s else gwp C L b n K s
  |none=>(match asB (gev [] s.env c) with
   |some t=>(match Q91 L c with
    |some A=>∃ p:A.E,Z10 (fun next=>(t=true→gwp C L a n (Q1p s.env.length A p next K) s)∧(t=false→gwp C L b n (Q1p s.env.length A p next K) s)) (fun d=>K .normal (Zj s.env.length (A.st p d) (A.own p d)))
    |none=>(t=true→gwp C L a n K s)∧(t=false→gwp C L b n K s))
   |none=>False)
 |.block id b,_,K,s=>gwp C L b id (IT id K) s
 |.loop b,n,K,s=>match Qu L n with
  |some A=>∃ (p:A.E) (d0:A.D),gmatch s (A.st p d0) (A.own p d0)∧LoopP (fun d next=>gwp C L b n (Q15 A p next K) (Zj s.env.length (A.st p d) (A.own p d))) d0
  |none=>False
 |.rangeF g ps a b,n,K,s=>match gev [] s.env g with
  |.fn f first cY=>(match Qu C.iy f with
   |some x=>∀ q:LpD,x (C.off+2000000+n) (SVs.kill (C.off+2000000+n) first++(.dd (C.off+2000000+n) .yv::SVs.kill (C.off+2000000+n) cY))
     (C.off+2000000+n,O6 (C.off+2000000+n) (100000*(C.off+2000000+n+1)-1) ps.length q (fun K' s'=>gwp C L a n (ON (fun s3=>gwp C L b n K' s3) fun _ _=>False) s') ps)
     (Z0m (C.off+2000000+n) q s) (Q23 (C.off+2000000+n) q K)
   |none=>(match first with
   |[]=>(match Qu C.it f,Q21 s cY,Qu L n with
    |some it,some (s1,ct),some A=>(match it ct with
     |some (c,m,ar,xs)=>(bif Nat.beq ps.length ar then c∧∃ (p:A.E) (d0:A.D),gmatch s1 (A.st p d0) (A.own p d0) ∧
      Q5j m (fun k d next=>∀ vals,gwp C L a n (ON (fun s3=>gwp C L b n (Fw (2000000+n) A p vals next K) s3) fun _ _=>False)
       ⟨Da (Cl (2000000+n) vals (Zj s.env.length (A.st p d) (A.own p d))).env ps (xs k),(Cl (2000000+n) vals (Zj s.env.length (A.st p d) (A.own p d))).own,0⟩)
       (fun d=>K .normal (Zj s.env.length (A.st p d) (A.own p d))) d0 else False)
     |none=>False)
    |_,_,_=>False)
   |_=>False))
  |_=>False
 |.exit id,_,K,s=>K (.exit id) s
 |.ret,_,K,s=>K .ret s
 |.bad,_,_,_=>False
end Go.V
namespace Go.V
open Go
section
variable {P:Program}
theorem XJ {a b:Nat}(h:¬ a=b):Nat.beq a b=false:=by
 cases e:Nat.beq a b with
 |false=>rfl
 |true=>exact absurd (Nat.eq_of_beq_eq_true e) h
theorem PfRel.mono {B B':Heap}(hB:B.Le B') {ks:List Kind}{r:Kind}{cE:AT ks→Prop}{p:AT ks→r.T}{v:Value}(h:PfRel P B ks r cE p v):PfRel P B' ks r cE p v:=by obtain⟨g,first,cap,hv,hx⟩:=h;exact⟨g,first,cap,hv,fun x hd σ vs hs ha=>hx x hd σ vs (hB.trans hs) ha⟩
theorem Q0e {tb tb':Nat→Option Bool}(ht:∀ n c,tb n=some c→tb' n=some c) {v:SV}(h:gtb tb v):gtb tb' v:=by cases v<;>first|trivial|exact ht _ _ h
theorem OO {tb tb':Nat→Option Bool}{o:Nat}(ht:∀ n c,tb n=some c→tb' n=some c) {v:SV}(h:gtb tb v):gtb tb' (v.kill o):=by
 cases v
 case bid n c=>exact ht _ _ h
 all_goals (simp only[SV.kill];first|trivial|(split<;>trivial)|(cases Nat.beq _ _<;>trivial))
mutual
theorem SR.upd {B B':Heap}{pl pl':Nat→Value}{tb tb':Nat→Option Bool}{o:Nat}(hB:B.Le B') (ht:∀ n c,tb n=some c→tb' n=some c) (hp:∀ d,d≠o→pl' d=pl d) :
  ∀ (s:SV) (v:Value),SR P B pl tb s v→SR P B' pl' tb' (s.kill o) v
 |.any,_,_=>trivial
 |.val k x,v,h=>by simp only[SV.kill,SR] at h ⊢;exact KC.mono hB h
 |.bid n c,v,h=>by simp only[SV.kill,SR] at h ⊢;exact⟨h.1,ht _ _ h.2⟩
 |.grd gs s,v,h=>by simp only[SV.kill,SR] at h ⊢;exact⟨⟨fun g hg=>ht _ _ (h.1.1 g hg),OO ht h.1.2⟩,fun hg=>SR.upd hB ht hp s v (h.2.1 hg),h.2.2⟩
 |.nilS,v,h=>h
 |.nilP,v,h=>h
 |.nilM,v,h=>h
 |.nilF,v,h=>h
 |.lst o',v,h=>by
  by_cases e:o'=o
  ·subst e;simp[SV.kill,SR]
  ·simp only[SV.kill,XJ e,cond_false];simp only[SR] at h ⊢;rw[hp _ e];exact h
 |.sub o' lo n sz,v,h=>by
  by_cases e:o'=o
  ·subst e;simp[SV.kill,SR]
  ·simp only[SV.kill,XJ e,cond_false];simp only[SR] at h ⊢;rw[hp _ e];exact h
 |.elp o' i off sz,v,h=>by
  by_cases e:o'=o
  ·subst e;simp[SV.kill,SR]
  ·simp only[SV.kill,XJ e,cond_false];simp only[SR] at h ⊢;rw[hp _ e];exact h
 |.box o' off,v,h=>by
  by_cases e:o'=o
  ·subst e;simp[SV.kill,SR]
  ·simp only[SV.kill,XJ e,cond_false];simp only[SR] at h ⊢;rw[hp _ e];exact h
 |.map o',v,h=>by
  by_cases e:o'=o
  ·subst e;simp[SV.kill,SR]
  ·simp only[SV.kill,XJ e,cond_false];simp only[SR] at h ⊢;rw[hp _ e];exact h
 |.dd o' w,v,h=>by
  by_cases e:o'=o
  ·subst e;simp[SV.kill,SR]
  ·simp only[SV.kill,XJ e,cond_false];simp only[SR] at h ⊢;rw[hp _ e];exact h
 |.rop k l i off,v,h=>by simp only[SV.kill,SR] at h ⊢;obtain⟨b,o,c,e,wr,t,h1,h2,h3,h4,h5,h6⟩:=h;exact⟨b,o,c,e,wr,t,h1,h2,hB.2 _ _ h3,h4,h5,h6.mono fun _ _=>KC.mono hB⟩
 |.cp l off,v,h=>by simp only[SV.kill,SR] at h ⊢;obtain⟨b,c,e,wr,t,h1,h2,h3⟩:=h;exact⟨b,c,e,wr,t,hB.2 _ _ h1,h2,SRs.upd hB ht hp l c h3⟩
 |.agg l,v,h=>by simp only[SV.kill,SR] at h ⊢;obtain⟨cs,h1,h2⟩:=h;exact⟨cs,h1,SRs.upd hB ht hp l cs h2⟩
 |.tup l,v,h=>by simp only[SV.kill,SR] at h ⊢;obtain⟨cs,h1,h2⟩:=h;exact⟨cs,h1,SRs.upd hB ht hp l cs h2⟩
 |.fn f a b,v,h=>by simp only[SV.kill,SR] at h ⊢;obtain⟨x,y,h1,h2,h3⟩:=h;exact⟨x,y,h1,SRs.upd hB ht hp a x h2,SRs.upd hB ht hp b y h3⟩
 |.pf ks r cE p,v,h=>by simp only[SV.kill,SR] at h ⊢;exact h.mono hB
theorem SRs.upd {B B':Heap}{pl pl':Nat→Value}{tb tb':Nat→Option Bool}{o:Nat}(hB:B.Le B') (ht:∀ n c,tb n=some c→tb' n=some c) (hp:∀ d,d≠o→pl' d=pl d) :
  ∀ (s:List SV) (v:List Value),SRs P B pl tb s v→SRs P B' pl' tb' (SVs.kill o s) v
 |[],v,h=>h
 |s::ss,v,h=>by simp only[SVs.kill,SRs] at h ⊢;obtain⟨x,y,h1,h2,h3⟩:=h;exact⟨x,y,h1,SR.upd hB ht hp s x h2,SRs.upd hB ht hp ss y h3⟩
end
mutual
theorem SR.mono {B B':Heap}{pl:Nat→Value}{tb tb':Nat→Option Bool}(hB:B.Le B') (ht:∀ n c,tb n=some c→tb' n=some c) :
  ∀ (s:SV) (v:Value),SR P B pl tb s v→SR P B' pl tb' s v
 |.any,_,_=>trivial
 |.val k x,v,h=>by simp only[SR] at h ⊢;exact KC.mono hB h
 |.bid n c,v,h=>by simp only[SR] at h ⊢;exact⟨h.1,ht _ _ h.2⟩
 |.grd gs s,v,h=>by simp only[SR] at h ⊢;exact⟨⟨fun g hg=>ht _ _ (h.1.1 g hg),Q0e ht h.1.2⟩,fun hg=>SR.mono hB ht s v (h.2.1 hg),h.2.2⟩
 |.nilS,v,h|.nilP,v,h|.nilM,v,h|.nilF,v,h=>by simp only[SR] at h ⊢;exact h
 |.lst _,v,h|.sub _ _ _ _,v,h|.elp _ _ _ _,v,h|.box _ _,v,h|.map _,v,h|.dd _ _,v,h=>by simp only[SR] at h ⊢;exact h
 |.rop k l i off,v,h=>by simp only[SR] at h ⊢;obtain⟨b,o,c,e,wr,t,h1,h2,h3,h4,h5,h6⟩:=h;exact⟨b,o,c,e,wr,t,h1,h2,hB.2 _ _ h3,h4,h5,h6.mono fun _ _=>KC.mono hB⟩
 |.cp l off,v,h=>by simp only[SR] at h ⊢;obtain⟨b,c,e,wr,t,h1,h2,h3⟩:=h;exact⟨b,c,e,wr,t,hB.2 _ _ h1,h2,SRs.mono hB ht l c h3⟩
 |.agg l,v,h=>by simp only[SR] at h ⊢;obtain⟨cs,h1,h2⟩:=h;exact⟨cs,h1,SRs.mono hB ht l cs h2⟩
 |.tup l,v,h=>by simp only[SR] at h ⊢;obtain⟨cs,h1,h2⟩:=h;exact⟨cs,h1,SRs.mono hB ht l cs h2⟩
 |.fn f a b,v,h=>by simp only[SR] at h ⊢;obtain⟨x,y,h1,h2,h3⟩:=h;exact⟨x,y,h1,SRs.mono hB ht a x h2,SRs.mono hB ht b y h3⟩
 |.pf ks r cE p,v,h=>by simp only[SR] at h ⊢;exact h.mono hB
theorem SRs.mono {B B':Heap}{pl:Nat→Value}{tb tb':Nat→Option Bool}(hB:B.Le B') (ht:∀ n c,tb n=some c→tb' n=some c) :
  ∀ (s:List SV) (v:List Value),SRs P B pl tb s v→SRs P B' pl tb' s v
 |[],v,h=>h
 |s::ss,v,h=>by simp only[SRs] at h ⊢;obtain⟨x,y,h1,h2,h3⟩:=h;exact⟨x,y,h1,SR.mono hB ht s x h2,SRs.mono hB ht ss y h3⟩
end
mutual
theorem SR.frz {B:Heap}{pl:Nat→Value}{tb:Nat→Option Bool}{o:Nat}{k:Kind}{xs:List k.T}(hk:KC B (.list k) xs [pl o]) :
  ∀ (s:SV) (v:Value),SR P B pl tb s v→SR P B pl tb (s.frz o k xs) v
 |.any,_,_=>trivial
 |.val k' x,v,h=>by simp only[SV.frz];exact h
 |.bid n c,v,h=>by simp only[SV.frz];exact h
 |.grd gs s,v,h=>by simp only[SV.frz,SR] at h ⊢;refine⟨⟨h.1.1,?_⟩,fun hg=>SR.frz hk s v (h.2.1 hg),h.2.2⟩;have h2:=h.1.2;cases s<;>first|exact h2|trivial|(simp only[SV.frz];cases Nat.beq _ _<;>trivial)
 |.nilS,v,h|.nilP,v,h|.nilM,v,h|.nilF,v,h=>h
 |.lst o',v,h=>by
  by_cases e:o'=o
  ·subst e;simp only[SV.frz,Nat.beq_refl,_root_.cond_true];simp only[SR] at h ⊢;rw[h.1];exact hk
  ·simp only[SV.frz,XJ e,cond_false];exact h
 |.sub o' lo n sz,v,h=>by
  simp only[SV.frz];cases Nat.beq o' o with
  |true=>trivial
  |false=>exact h
 |.elp o' i off sz,v,h=>by
  simp only[SV.frz];cases Nat.beq o' o with
  |true=>trivial
  |false=>exact h
 |.box o' off,v,h=>by
  simp only[SV.frz];cases Nat.beq o' o with
  |true=>trivial
  |false=>exact h
 |.map o',v,h=>by
  simp only[SV.frz];cases Nat.beq o' o with
  |true=>trivial
  |false=>exact h
 |.dd o' w,v,h=>by
  simp only[SV.frz];cases Nat.beq o' o with
  |true=>trivial
  |false=>exact h
 |.rop k l i off,v,h=>by simp only[SV.frz];exact h
 |.cp l off,v,h=>by simp only[SV.frz,SR] at h ⊢;obtain⟨b,c,e,wr,t,h1,h2,h3⟩:=h;exact⟨b,c,e,wr,t,h1,h2,SRs.frz hk l c h3⟩
 |.agg l,v,h=>by simp only[SV.frz,SR] at h ⊢;obtain⟨cs,h1,h2⟩:=h;exact⟨cs,h1,SRs.frz hk l cs h2⟩
 |.tup l,v,h=>by simp only[SV.frz,SR] at h ⊢;obtain⟨cs,h1,h2⟩:=h;exact⟨cs,h1,SRs.frz hk l cs h2⟩
 |.fn f a b,v,h=>by simp only[SV.frz,SR] at h ⊢;obtain⟨x,y,h1,h2,h3⟩:=h;exact⟨x,y,h1,SRs.frz hk a x h2,SRs.frz hk b y h3⟩
 |.pf ks r cE p,v,h=>by simp only[SV.frz];exact h
theorem SRs.frz {B:Heap}{pl:Nat→Value}{tb:Nat→Option Bool}{o:Nat}{k:Kind}{xs:List k.T}(hk:KC B (.list k) xs [pl o]) :
  ∀ (s:List SV) (v:List Value),SRs P B pl tb s v→SRs P B pl tb (SVs.frz o k xs s) v
 |[],v,h=>h
 |s::ss,v,h=>by simp only[SVs.frz,SRs] at h ⊢;obtain⟨x,y,h1,h2,h3⟩:=h;exact⟨x,y,h1,SR.frz hk s x h2,SRs.frz hk ss y h3⟩
end
theorem SRs.length {B:Heap}{pl:Nat→Value}{tb:Nat→Option Bool}:∀ {s:List SV}{v:List Value},SRs P B pl tb s v→s.length=v.length
 |[],v,h=>by simp only[SRs] at h;subst h;rfl
 |s::ss,v,h=>by simp only[SRs] at h;obtain⟨x,y,rfl,_,h3⟩:=h;simp[SRs.length h3]
theorem SRs.get {B:Heap}{pl:Nat→Value}{tb:Nat→Option Bool}:∀ {s:List SV}{v:List Value},SRs P B pl tb s v→∀ {i:Nat}{a:SV},s[i]?=some a→∃ c,v[i]?=some c∧SR P B pl tb a c
 |[],v,h,i,a,hi=>by simp at hi
 |s::ss,v,h,i,a,hi=>by
  simp only[SRs] at h;obtain⟨x,y,rfl,h2,h3⟩:=h;cases i with
  |zero=>simp at hi;subst hi;exact⟨x,rfl,h2⟩
  |succ i=>simp at hi;simpa using SRs.get h3 hi
theorem SRs.of {B:Heap}{pl:Nat→Value}{tb:Nat→Option Bool}:∀ {s:List SV}{v:List Value},s.length=v.length→(∀ (i:Nat) (a:SV) (c:Value),s[i]?=some a→v[i]?=some c→SR P B pl tb a c)→SRs P B pl tb s v
 |[],v,hl,_=>by simp only[SRs];exact List.length_eq_zero_iff.1 (by simpa using hl.symm)
 |s::ss,[],hl,_=>by simp at hl
 |s::ss,x::y,hl,h=>by simp only[SRs];exact⟨x,y,rfl,h 0 s x rfl rfl,SRs.of (by simpa using hl) fun i a c ha hc=>h (i+1) a c (by simpa using ha) (by simpa using hc)⟩
theorem SRs.getD {B:Heap}{pl:Nat→Value}{tb:Nat→Option Bool}{s:List SV}{v:List Value}(h:SRs P B pl tb s v) (i:Nat) (d:Value):SR P B pl tb (s.getD i .any) (v.getD i d):=by
 by_cases hi:i<s.length
 ·obtain⟨c,h1,h2⟩:=h.get (List.getElem?_eq_getElem hi);rw[List.getD_eq_getElem?_getD,List.getD_eq_getElem?_getD,h1,List.getElem?_eq_getElem hi];exact h2
 ·rw[List.getD_eq_getElem?_getD,List.getElem?_eq_none (by omega)];simp[SR]
theorem SRs.set {B:Heap}{pl:Nat→Value}{tb:Nat→Option Bool}{s:List SV}{v:List Value}(h:SRs P B pl tb s v) (i:Nat) {a:SV}{c:Value}(ha:SR P B pl tb a c):SRs P B pl tb (s.set i a) (v.set i c):=by
 refine SRs.of (by simp[h.length]) fun j a' c' h1 h2=>?_;rw[List.getElem?_set] at h1 h2;by_cases bZ:i=j
 ·subst bZ;simp only[if_true] at h1 h2;split at h1<;>split at h2<;>simp at h1 h2;subst h1;subst h2;exact ha
 ·simp only[bZ,if_false] at h1 h2;obtain⟨c,h3,h4⟩:=h.get h1;rw[h3] at h2;obtain rfl:=osj h2;exact h4
theorem SRs.append {B:Heap}{pl:Nat→Value}{tb:Nat→Option Bool}:∀ {s:List SV}{v:List Value}{s':List SV}{v':List Value},SRs P B pl tb s v→SRs P B pl tb s' v'→SRs P B pl tb (s++s') (v++v')
 |[],v,s',v',h,h'=>by simp only[SRs] at h;subst h;exact h'
 |s::ss,v,s',v',h,h'=>by simp only[SRs,List.cons_append] at h ⊢;obtain⟨x,y,rfl,h2,h3⟩:=h;exact⟨x,y++v',rfl,h2,SRs.append h3 h'⟩
theorem SRs.take {B:Heap}{pl:Nat→Value}{tb:Nat→Option Bool}:∀ {s:List SV}{v:List Value},SRs P B pl tb s v→∀ n,SRs P B pl tb (s.take n) (v.take n)
 |[],v,h,n=>by simp only[SRs] at h;subst h;simp[SRs]
 |s::ss,v,h,0=>by simp[SRs]
 |s::ss,v,h,n+1=>by simp only[SRs] at h;obtain⟨x,y,rfl,h2,h3⟩:=h;simp only[List.take_succ_cons,SRs];exact⟨x,_,rfl,h2,SRs.take h3 n⟩
theorem SRs.drop {B:Heap}{pl:Nat→Value}{tb:Nat→Option Bool}:∀ {s:List SV}{v:List Value},SRs P B pl tb s v→∀ n,SRs P B pl tb (s.drop n) (v.drop n)
 |[],v,h,n=>by simp only[SRs] at h;subst h;simp[SRs]
 |s::ss,v,h,0=>by simpa using h
 |s::ss,v,h,n+1=>by simp only[SRs] at h;obtain⟨x,y,rfl,h2,h3⟩:=h;simpa using SRs.drop h3 n
theorem SRs.map {B:Heap}{pl:Nat→Value}{tb:Nat→Option Bool}{α:Type}{f:α→SV}{g:α→Value}:∀ {l:List α},(∀ x∈l,SR P B pl tb (f x) (g x))→SRs P B pl tb (l.map f) (l.map g)
 |[],_=>by simp[SRs]
 |x::l,h=>by simp only[List.map_cons,SRs];exact⟨_,_,rfl,h x (by simp),SRs.map fun y hy=>h y (by simp[hy])⟩
def OB.live:OB→Bool
 |.dead=>false
 |.stk _ _=>false
 |.lpf _ _ s=>s.live
 |_=>true
def oid:Value→Option Nat
 |.slice (some a) _ _=>some a.block
 |.pointer (some a)=>some a.block
 |.map m=>m
 |_=>none
def Oid (p:Value) (i:Nat):Prop:=match p with
 |.tuple l=>∃ b,(Xf (.tuple l)).get i=some b
 |v=>oid v=some i
theorem CI {p:Value}{i:Nat}(h:oid p=some i):Oid p i:=by cases p<;>first|exact h|cases h
theorem FH {p:Value}{n i:Nat}(hp:oid p=some n) (hi:Oid p i):i=n:=by cases p<;>first|exact osj (hi.symm.trans hp)|cases hp
def RowsH {α:Type}(R:α→List Value→List Nat→Prop) (sz:Nat) (h:Option Nat):Nat→List α→List Value→List Nat→Prop
 |_,[],cs,is=>cs=[]∧is=[]
 |j,x::xs,cs,is=>∃ c cs' i1 i2,cs=c++cs'∧is=i1++i2∧(if h=some j then c.length=sz∧i1=[] else R x c i1)∧RowsH R sz h (j+1) xs cs' i2
def DO (H:Heap) (ty:Nat) (q:Option Nat) (k:Kind) (xs:List k.T) (h:Option Nat) (v:Value) (is:List Nat):Prop :=
 (xs=[]∧v=.slice none 0 0∧is=[])∨∃ i cap c t js,v=.slice (some ⟨i,0,none⟩) xs.length cap∧is=i::js∧xs.length≤cap∧H.get i=some (.cells c ⟨k.size,ty⟩ true t)∧cap*k.size≤c.length ∧
  RowsH (KO H q k) k.size h 0 xs (c.take (xs.length*k.size)) js
def DP (σ:Heap) (p:Value) (ty:Nat) (q:Option Nat) (k:Kind) (xs:List k.T) (nl:Bool) (h:Option Nat):Prop :=
 ∃ is,(∀ i,Oid p i↔∃ b,(Xf p).get i=some b)∧is.Nodup∧DO (Xf p) ty q k xs h (phd p) is∧(∀ i,(∃ b,(Xf p).get i=some b)↔i∈is)∧(∀ i b,(Xf p).get i=some b→σ.get i=some b)∧(nl=true↔phd p=.slice none 0 0)
theorem DP.mono {σ σ':Heap}{p:Value}{ty:Nat}{q:Option Nat}{k:Kind}{xs:List k.T}{nl:Bool}{h:Option Nat}(hd:DP σ p ty q k xs nl h) (hg:∀ i,Oid p i→σ'.get i=σ.get i):DP σ' p ty q k xs nl h:=by obtain⟨is,hO,h1,h2,h3,h4,h5⟩:=hd;exact⟨is,hO,h1,h2,h3,fun i b hb=>by rw[hg i ((hO i).2 ⟨b,hb⟩)];exact h4 i b hb,h5⟩
def MR (B:Heap) (kk vk:Kind):List (kk.T×vk.T)→List JA→Prop
 |[],es=>es=[]
 |m::ms,es=>∃ e bH,es=e::bH∧KV B kk m.1 e.1∧KV B vk m.2 e.2.1∧MR B kk vk ms bH
def SOk (es:List JA) (clock:Nat):Prop:=(es.map fun e=>e.2.2).Nodup∧∀ e∈es,e.2.2<clock
def MC (B:Heap) (kk vk:Kind) (m:List (kk.T×vk.T)) (es:List JA) (clock:Nat):Prop:=MR B kk vk m es∧SOk es clock
def DN (es:List JA) (dn seen:List Nat):Prop:=seen.length=dn.length∧∀ (t r:Nat),dn[t]?=some r→∃ e,es[r]?=some e∧seen[t]?=some e.2.2
def OR (P:Program) (B:Heap) (pl:Nat→Value) (tb:Nat→Option Bool) (σ:Heap) (p:Value):OB→Prop
 |.dead=>True
 |.lst ty k xs nl=>(nl=true∧xs=[]∧p=.slice none 0 0)∨(nl=false∧∃ i cap c t,p=.slice (some ⟨i,0,none⟩) xs.length cap∧xs.length≤cap∧σ.get i=some (.cells c ⟨k.size,ty⟩ true t)∧cap*k.size≤c.length∧Rows (KC B k) xs (c.take (xs.length*k.size)))
 |.cells l u=>∃ i c e t,p=.pointer (some ⟨i,0,none⟩)∧σ.get i=some (.cells c e true t)∧SRs P B pl tb l c∧(∀ y,u=some y→e.ty=y∧t=true)
 |.map kk vk m=>∃ i es clock,p=.map (some i)∧σ.get i=some (.obj (.map es clock) true)∧MC B kk vk m es clock
 |.iter kk vk m dn=>∃ j i es clock wr seen,p=.pointer (some ⟨j,0,none⟩)∧σ.get j=some (.obj (.iter i clock seen clock) true)∧B.get i=some (.obj (.map es clock) wr)∧MC B kk vk m es clock∧DN es dn seen
 |.mapE kk vk m key n=>∃ i es clock,∃ r:Nat,∃ e:JA,p=.map (some i)∧σ.get i=some (.obj (.map es clock) true)∧MC B kk vk m es clock∧es[r]?=some e∧KV B kk key e.1∧Qg e.1 es=some e∧(e.2.2:Int)=n∧∃ mk,gq.mkOk mk kk=true
 |.stk l vals=>SRs P B pl tb l vals
 |.deep ty q k xs nl h=>DP σ p ty q k xs nl h
 |.lpf l q s=>p=.pointer (some ⟨q.i,0,none⟩)∧SRs P B pl tb l q.vals∧(s.live=true→σ.get q.i=some (.obj (.lp q.vals q.r s.st s.pend) true))
theorem MR.mono {B B':Heap}(hB:B.Le B') {kk vk:Kind}:∀ {m:List (kk.T×vk.T)}{es:List JA},MR B kk vk m es→MR B' kk vk m es
 |[],es,h=>h
 |m::ms,es,h=>by obtain⟨e,bH,h1,h2,h3,h4⟩:=h;exact⟨e,bH,h1,h2.mono hB,h3.mono hB,h4.mono hB⟩
theorem MC.mono {B B':Heap}(hB:B.Le B') {kk vk:Kind}{m:List (kk.T×vk.T)}{es:List JA}{clock:Nat}(h:MC B kk vk m es clock):MC B' kk vk m es clock:=⟨h.1.mono hB,h.2⟩
theorem OR.upd {B B':Heap}{pl pl':Nat→Value}{tb tb':Nat→Option Bool}{o:Nat}(hB:B.Le B') (ht:∀ n c,tb n=some c→tb' n=some c) (hp:∀ d,d≠o→pl' d=pl d) {σ σ':Heap}{p:Value}{b:OB}
  (h:OR P B pl tb σ p b) (hg:b.live=true→∀ i,Oid p i→σ'.get i=σ.get i):OR P B' pl' tb' σ' p (b.kill o):=by
 cases b with
 |dead=>trivial
 |lst ty k xs nl =>
  rcases h with h|⟨h0,i,cap,c,t,h1,h2,h3,h4,h5⟩
  ·exact .inl h
  ·exact .inr ⟨h0,i,cap,c,t,h1,h2,by rw[hg rfl i (by rw[h1];rfl)];exact h3,h4,h5.mono fun _ _=>KC.mono hB⟩
 |cells l u =>obtain⟨i,c,e,t,h1,h2,h3,h4⟩:=h;exact⟨i,c,e,t,h1,by rw[hg rfl i (by rw[h1];rfl)];exact h2,SRs.upd hB ht hp l c h3,h4⟩
 |map kk vk m =>obtain⟨i,es,clock,h1,h2,h3⟩:=h;exact⟨i,es,clock,h1,by rw[hg rfl i (by rw[h1];rfl)];exact h2,h3.mono hB⟩
 |mapE kk vk m key n =>obtain⟨i,es,clock,r,e,h1,h2,h3,h4,h5,h6⟩:=h;exact⟨i,es,clock,r,e,h1,by rw[hg rfl i (by rw[h1];rfl)];exact h2,h3.mono hB,h4,h5.mono hB,h6⟩
 |stk l vals=>exact SRs.upd hB ht hp l vals h
 |deep ty q k xs nl hh=>exact DP.mono h (hg rfl)
 |iter kk vk m dn =>obtain⟨j,i,es,clock,wr,seen,h1,h2,h3,h4,h5⟩:=h;exact⟨j,i,es,clock,wr,seen,h1,by rw[hg rfl j (by rw[h1];rfl)];exact h2,hB.2 _ _ h3,h4.mono hB,h5⟩
 |lpf l q s=>exact⟨h.1,SRs.upd hB ht hp l q.vals h.2.1,fun hl=>by rw[hg hl q.i (by rw[h.1];rfl)];exact h.2.2 hl⟩
theorem OR.mono {B B':Heap}{pl:Nat→Value}{tb tb':Nat→Option Bool}(hB:B.Le B') (ht:∀ n c,tb n=some c→tb' n=some c) {σ σ':Heap}{p:Value}{b:OB}
  (h:OR P B pl tb σ p b) (hg:b.live=true→∀ i,Oid p i→σ'.get i=σ.get i):OR P B' pl tb' σ' p b:=by
 cases b with
 |dead=>trivial
 |lst ty k xs nl =>
  rcases h with h|⟨h0,i,cap,c,t,h1,h2,h3,h4,h5⟩
  ·exact .inl h
  ·exact .inr ⟨h0,i,cap,c,t,h1,h2,by rw[hg rfl i (by rw[h1];rfl)];exact h3,h4,h5.mono fun _ _=>KC.mono hB⟩
 |cells l u =>obtain⟨i,c,e,t,h1,h2,h3,h4⟩:=h;exact⟨i,c,e,t,h1,by rw[hg rfl i (by rw[h1];rfl)];exact h2,SRs.mono hB ht l c h3,h4⟩
 |map kk vk m =>obtain⟨i,es,clock,h1,h2,h3⟩:=h;exact⟨i,es,clock,h1,by rw[hg rfl i (by rw[h1];rfl)];exact h2,h3.mono hB⟩
 |mapE kk vk m key n =>obtain⟨i,es,clock,r,e,h1,h2,h3,h4,h5,h6⟩:=h;exact⟨i,es,clock,r,e,h1,by rw[hg rfl i (by rw[h1];rfl)];exact h2,h3.mono hB,h4,h5.mono hB,h6⟩
 |stk l vals=>exact SRs.mono hB ht l vals h
 |deep ty q k xs nl hh=>exact DP.mono h (hg rfl)
 |iter kk vk m dn =>obtain⟨j,i,es,clock,wr,seen,h1,h2,h3,h4,h5⟩:=h;exact⟨j,i,es,clock,wr,seen,h1,by rw[hg rfl j (by rw[h1];rfl)];exact h2,hB.2 _ _ h3,h4.mono hB,h5⟩
 |lpf l q s=>exact⟨h.1,SRs.mono hB ht l q.vals h.2.1,fun hl=>by rw[hg hl q.i (by rw[h.1];rfl)];exact h.2.2 hl⟩
theorem Qy (own:Own) (d:Nat) (b:OB) (d':Nat):Qc (oset own d b) d'=if d'=d then b else Qc own d':=by
 induction own with
 |nil =>
  simp only[oset,Qc];by_cases h:d'=d
  ·subst h;simp
  ·rw[if_neg h,XJ fun e=>h e.symm];rfl
 |cons p r ih =>
  obtain⟨k,c⟩:=p;simp only[oset];by_cases h1:k=d
  ·subst h1;simp only[Nat.beq_refl,_root_.cond_true,Qc];by_cases h:d'=k
   ·subst h;simp
   ·rw[if_neg h,XJ fun e=>h e.symm];rfl
  ·rw[XJ h1,cond_false];cases Nat.blt d k with
   |true =>
    simp only[_root_.cond_true,Qc];by_cases h:d'=d
    ·subst h;simp
    ·rw[if_neg h,XJ fun e=>h e.symm];rfl
   |false =>
    simp only[cond_false,Qc,ih];by_cases h:k=d'
    ·subst h;simp[h1]
    ·rw[XJ h];rfl
theorem Vc (own:Own) (o d:Nat):Qc (Ei o own) d=if d=o then .dead else (Qc own d).kill o:=by
 induction own with
 |nil=>simp[Ei,Qc,OB.kill]
 |cons p r ih =>
  obtain⟨k,c⟩:=p;simp only[Ei];by_cases h1:k=o
  ·subst h1;simp only[Nat.beq_refl,_root_.cond_true,ih,Qc];by_cases h:d=k
   ·simp[h]
   ·rw[if_neg h,if_neg h,XJ fun e=>h e.symm];rfl
  ·rw[XJ h1,cond_false];simp only[Qc,ih];by_cases h:k=d
   ·subst h;simp[h1]
   ·rw[XJ h];simp
theorem OR.frz {B:Heap}{pl:Nat→Value}{tb:Nat→Option Bool}{o:Nat}{k:Kind}{xs:List k.T}(hk:KC B (.list k) xs [pl o]) {σ:Heap}{p:Value}{b:OB}
  (h:OR P B pl tb σ p b):OR P B pl tb σ p (b.frz o k xs):=by
 cases b with
 |cells l u =>obtain⟨i,c,e,t,h1,h2,h3,h4⟩:=h;exact⟨i,c,e,t,h1,h2,SRs.frz hk l c h3,h4⟩
 |stk l vals=>exact SRs.frz hk l vals h
 |lpf l q s=>exact⟨h.1,SRs.frz hk l q.vals h.2.1,h.2.2⟩
 |_=>exact h
theorem Ig (own:Own) (o:Nat) (k:Kind) (xs:List k.T) (d:Nat):Qc (Q05 o k xs own) d=if d=o then .dead else (Qc own d).frz o k xs:=by
 induction own with
 |nil=>simp[Q05,Qc,OB.frz]
 |cons p r ih =>
  obtain⟨j,c⟩:=p;simp only[Q05];by_cases h1:j=o
  ·subst h1;simp only[Nat.beq_refl,_root_.cond_true,ih,Qc];by_cases h:d=j
   ·simp[h]
   ·rw[if_neg h,if_neg h,XJ fun e=>h e.symm];rfl
  ·rw[XJ h1,cond_false];simp only[Qc,ih];by_cases h:j=d
   ·subst h;simp[h1]
   ·rw[XJ h];simp
theorem OB.live_frz (b:OB) (o:Nat) (k:Kind) (xs:List k.T):(b.frz o k xs).live=b.live:=by cases b<;>rfl
structure Gam (P:Program) (B F:Heap) (pl:Nat→Value) (tb:Nat→Option Bool) (s:St) (env:Env) (σ:Heap):Prop where
 bf:B.Le F
 le:F.Le σ
 env:SRs P B pl tb s.env env
 obj:∀ d,OR P B pl tb σ (pl d) (Qc s.own d)
 fresh:∀ d i,(Qc s.own d).live=true→Oid (pl d) i→F.get i=none
 sep:∀ d d' i,d≠d'→(Qc s.own d).live=true→(Qc s.own d').live=true→Oid (pl d) i→Oid (pl d') i→False
 free:∀ n,s.nx≤n→tb n=none
theorem Gam.leB {B F:Heap}{pl:Nat→Value}{tb:Nat→Option Bool}{s:St}{env:Env}{σ:Heap}(h:Gam P B F pl tb s env σ):B.Le σ:=h.bf.trans h.le
def JN (pl:Nat→Value) (d:Nat) (p:Value):Nat→Value:=fun j=>if j=d then p else pl j
theorem OB.live_kill (b:OB) (o:Nat):(b.kill o).live=b.live:=by cases b<;>rfl
theorem Gam.make {B F:Heap}{pl:Nat→Value}{tb:Nat→Option Bool}{s:St}{env:Env}{σ σ':Heap}(h:Gam P B F pl tb s env σ) (d:Nat) (b:OB) (p:Value) (hle:F.Le σ')
  (cC:∀ j i,j≠d→(Qc s.own j).live=true→Oid (pl j) i→σ'.get i=σ.get i) (hb:OR P B (JN pl d p) tb σ' p b)
  (a7:∀ i,b.live=true→Oid p i→F.get i=none∧∀ j,j≠d→(Qc s.own j).live=true→¬ Oid (pl j) i):Gam P B F (JN pl d p) tb (s.make d b) env σ':=by
 have hp:∀ j,j≠d→JN pl d p j=pl j:=fun j hj=>by simp[JN,hj]
 have hg:∀ j,Qc (s.make d b).own j=if j=d then b else (Qc s.own j).kill d:=fun j=>by simp only[St.make,St.kill,Qy,Vc];split<;>rfl
 refine⟨h.bf,hle,SRs.upd (Heap.Le.refl B) (fun _ _ h=>h) hp _ _ h.env,fun j=>?_,fun j i hl hi=>?_,fun j j' i aF hl b_ hi ck=>?_,h.free⟩
 ·rw[hg];by_cases hj:j=d
  ·subst hj;rw[if_pos rfl];simpa [JN] using hb
  ·rw[if_neg hj,hp j hj];exact(h.obj j).upd (Heap.Le.refl B) (fun _ _ h=>h) hp fun hl i hi=>cC j i hj hl hi
 ·rw[hg] at hl;by_cases hj:j=d
  ·subst hj;rw[if_pos rfl] at hl;simp only[JN,if_true] at hi;exact(a7 i hl hi).1
  ·rw[if_neg hj,OB.live_kill] at hl;rw[hp j hj] at hi;exact h.fresh j i hl hi
 ·rw[hg] at hl b_;by_cases hj:j=d
  ·subst hj;rw[if_pos rfl] at hl;have cS:j'≠j:=fun e=>aF e.symm;rw[if_neg cS,OB.live_kill] at b_;rw[hp j' cS] at ck;simp only[JN,if_true] at hi;exact(a7 i hl hi).2 j' cS b_ ck
  ·rw[if_neg hj,OB.live_kill] at hl;rw[hp j hj] at hi;by_cases cS:j'=d
   ·subst cS;rw[if_pos rfl] at b_;simp only[JN,if_true] at ck;exact(a7 i b_ ck).2 j hj hl hi
   ·rw[if_neg cS,OB.live_kill] at b_;rw[hp j' cS] at ck;exact h.sep j j' i aF hl b_ hi ck
theorem Gam.write {B F:Heap}{pl:Nat→Value}{tb:Nat→Option Bool}{s:St}{env:Env}{σ σ':Heap}(h:Gam P B F pl tb s env σ) (d:Nat) (b:OB) (hle:F.Le σ') (au:(Qc s.own d).live=true)
  (cC:∀ j i,j≠d→(Qc s.own j).live=true→Oid (pl j) i→σ'.get i=σ.get i) (hb:OR P B pl tb σ' (pl d) b):Gam P B F pl tb ⟨s.env,oset s.own d b,s.nx⟩ env σ':=by
 refine⟨h.bf,hle,h.env,fun j=>?_,fun j i hl hi=>?_,fun j j' i aF hl b_ hi ck=>?_,h.free⟩
 ·simp only[Qy];by_cases hj:j=d
  ·subst hj;rw[if_pos rfl];exact hb
  ·rw[if_neg hj];exact(h.obj j).mono (Heap.Le.refl B) (fun _ _ h=>h) fun hl i hi=>cC j i hj hl hi
 ·simp only[Qy] at hl;by_cases hj:j=d
  ·subst hj;exact h.fresh j i au hi
  ·rw[if_neg hj] at hl;exact h.fresh j i hl hi
 ·simp only[Qy] at hl b_;have k1:(Qc s.own j).live=true:=by
   by_cases hj:j=d
   ·subst hj;exact au
   ·rwa [if_neg hj] at hl
  have k2:(Qc s.own j').live=true:=by
   by_cases hj:j'=d
   ·subst hj;exact au
   ·rwa [if_neg hj] at b_
  exact h.sep j j' i aF k1 k2 hi ck
theorem Gam.put {B F:Heap}{pl:Nat→Value}{tb:Nat→Option Bool}{s:St}{env:Env}{σ:Heap}(h:Gam P B F pl tb s env σ) (d:Option Nat) {v:SV}{u:Value}(hv:SR P B pl tb v u):Gam P B F pl tb (s.put d v) (X3 env d u) σ:=by
 cases d with
 |none=>exact h
 |some d=>exact⟨h.bf,h.le,h.env.set d hv,h.obj,h.fresh,h.sep,h.free⟩
end
end Go.V
namespace Go.V
open Go
section
variable {P:Program}{B:Heap}{pl:Nat→Value}{tb:Nat→Option Bool}{own:Own}{σ:Heap}
theorem ZG {s:SV}{v:Value}{k:IntKind}{x:Int}(h:asI s=some (k,x)) (hs:SR P B pl tb s v):v=.int k x:=by
 unfold asI at h;split at h
 ·obtain⟨rfl,rfl⟩:=(by simpa using h:_=k∧_=x);simp only[SR,KC] at hs;simpa using hs
 ·cases h
theorem Xt {s:SV}{v:Value}{x:Bool}(h:asB s=some x) (hs:SR P B pl tb s v):v=.bool x:=by
 unfold asB at h;split at h
 ·obtain rfl:=osj h;simp only[SR,KC] at hs;simpa using hs
 ·obtain rfl:=osj h;simp only[SR] at hs;exact hs.1
 ·cases h
theorem KW {s:SV}{v:Value}{x:List UInt8}(h:asS s=some x) (hs:SR P B pl tb s v):v=.string ⟨x.toArray⟩:=by
 unfold asS at h;split at h
 ·obtain rfl:=osj h;simp only[SR,KC] at hs;simpa using hs
 ·cases h
theorem XB {k k':Kind}{l:List k.T}{l':List k'.T}(h:MT l k'=some l'):k=k':=by
 unfold MT at h;split at h
 ·assumption
 ·cases h
theorem XD {k:Kind}{l l':List k.T}(h:MT l k=some l'):l'=l:=by unfold MT at h;rw[dif_pos rfl] at h;exact(osj h).symm
theorem Rn {k k':Kind}{x:k.T}{x':k'.T}(h:Ft x k'=some x'):k=k':=by
 unfold Ft at h;split at h
 ·assumption
 ·cases h
theorem R7 {k:Kind}{x x':k.T}(h:Ft x k=some x'):x'=x:=by unfold Ft at h;rw[dif_pos rfl] at h;exact(osj h).symm
theorem Db (v:Value):SR P B pl tb (cvp v) v:=by unfold cvp;split<;>simp[SR,KC]
theorem OL (v:Value):SR P B pl tb (cv v) v:=by
 unfold cv;split
 ·rename_i cs;simp only[SR];refine⟨cs.toList,by simp,?_⟩;have:SRs P B pl tb (cs.toList.map cvp) (cs.toList.map id):=SRs.map fun x _=>Db x;simpa using this
 ·exact Db v
def Gds (tb:Nat→Option Bool) (gs:List Gd):Prop:=∀ g∈gs,g.c=g.want∧tb g.id=some g.c
theorem Ff {a b:List Gd}(h:Q1l a b=true) (hb:Gds tb b) (ha:∀ g∈a,tb g.id=some g.c):∀ g∈a,g.c=g.want:=by
 induction b generalizing a with
 |nil=>cases a with
  |nil=>intro g hg;cases hg
  |cons x a=>simp[Q1l] at h
 |cons y b ih =>
  cases a with
  |nil=>intro g hg;cases hg
  |cons x a =>
   have bU:Gds tb b:=fun g hg=>hb g (List.mem_cons_of_mem _ hg);simp only[Q1l] at h;cases hc:(Nat.beq x.id y.id&&(x.want==y.want)) with
   |true =>
    rw[hc] at h;simp only[_root_.cond_true] at h;simp only[Bool.and_eq_true,beq_iff_eq] at hc;have e1:=Nat.eq_of_beq_eq_true hc.1;intro g hg;rcases List.mem_cons.1 hg with rfl|hg
    ·have h1:=ha g (by simp);have h2:=hb y (by simp);rw[e1] at h1;rw[h2.2] at h1;obtain e:=osj h1;rw[←e,h2.1,hc.2]
    ·exact ih h bU (fun g hg=>ha g (List.mem_cons_of_mem _ hg)) g hg
   |false =>rw[hc] at h;exact ih h bU ha
theorem Lp {gs:List Gd}(hg:Gds tb gs) {s:SV}{v:Value}(h:SR P B pl tb s v):SR P B pl tb (FI gs s) v:=by
 unfold FI;split
 ·rename_i g s;simp only[SR] at h;cases hs:Q1l g gs with
  |true=>exact h.2.1 (Ff hs hg h.1.1)
  |false=>trivial
 ·exact h
theorem FQ {gs:List Gd}(hg:Gds tb gs) {env:List SV}{mE:Env}(h:SRs P B pl tb env mE) (x:Operand):SR P B pl tb (gev gs env x) (Q2 mE x):=by
 cases x with
 |tmp t=>exact Lp hg (h.getD t undef)
 |const v=>exact OL v
 |global g=>trivial
 |func f=>simp only[gev,Q2,SR,SRs];exact⟨[],[],rfl,rfl,rfl⟩
theorem Wv {h:Heap}:∀ {k:Kind}{x:k.T}{cs:List Value},KC h k x cs→SRs P h pl tb (US k x) cs
 |.i ik,x,cs,e=>by simp only[KC] at e;subst e;simp[US,SRs,SR,KC]
 |.bo,x,cs,e=>by simp only[KC] at e;subst e;simp[US,SRs,SR,KC]
 |.st,x,cs,e=>by simp only[KC] at e;subst e;simp[US,SRs,SR,KC]
 |.list k,l,cs,e=>by obtain⟨v,rfl,hs⟩:=e;simp only[US,SRs,SR];exact⟨v,[],rfl,⟨v,rfl,hs⟩,rfl⟩
 |.pair a b,x,cs,e=>by obtain⟨c1,c2,rfl,h1,h2⟩:=e;exact(Wv h1).append (Wv h2)
theorem X1 {h:Heap}{k:Kind}{x:k.T}{v:Value}(e:KV h k x v):SR P h pl tb (Iz k x) v:=by
 cases k with
 |pair a b =>
  rcases e with⟨h1,_⟩|⟨_,cs,rfl,e⟩
  ·cases h1
  ·simp only[Iz,SR];exact⟨cs,rfl,Wv e⟩
 |i k|bo|st|list k =>
  rcases e with⟨_,e⟩|⟨h1,_⟩
  ·simpa only [Iz,SR] using e
  ·cases h1
theorem Ju {l:List SV}{c:List Value}(h:SRs P B pl tb l c) {agg:Bool}{size off:Nat}{v:SV}(hv:BP agg size l off=some v):∃ u,XF agg size c off=some u∧SR P B pl tb v u:=by
 cases agg with
 |true =>
  simp only[BP,_root_.cond_true] at hv;split at hv
  ·rename_i hle;obtain rfl:=osj hv;rw[h.length] at hle;refine⟨.agg ((c.drop off).take size).toArray,by simp only[XF,if_true,hle],?_⟩;simp only[SR];exact⟨_,rfl,(h.drop off).take size⟩
  ·cases hv
 |false =>simp only[BP,_root_.cond_false] at hv;obtain⟨u,h1,h2⟩:=h.get hv;exact⟨u,by simpa [XF] using h1,h2⟩
theorem U_ {agg:Bool}{size off n m i:Nat}{c:List Value}{u:Value}(bP:off+size≤n) (hs:0<size) (h:XF agg size (((c.take m).drop (i*n)).take n) off=some u) (hl:i*n+n≤m):XF agg size c (i*n+off)=some u:=by
 cases agg with
 |true =>
  simp only[XF,if_true] at h ⊢;split at h
  ·rename_i hle;simp only[List.length_take,List.length_drop] at hle;rw[if_pos (by omega)];obtain rfl:=osj h;congr 3;apply List.ext_getElem?;intro j;simp only[List.getElem?_take,List.getElem?_drop];split
   ·rw[if_pos (by omega),if_pos (by omega),Nat.add_assoc]
   ·rfl
  ·cases h
 |false =>simp only[XF,Bool.false_eq_true,if_false] at h ⊢;simp only[List.getElem?_take,List.getElem?_drop] at h;rw[if_pos (by omega),if_pos (by omega)] at h;exact h
theorem KC.rows_len {h:Heap}{k:Kind}:∀ (x:k.T) (c:List Value),KC h k x c→c.length=k.size:=fun _ _ e=>KC.length e
theorem KC.flat {h h':Heap}:∀ {k:Kind}{x:k.T}{cs:List Value},k.flat=true→KC h k x cs→KC h' k x cs
 |.i _,_,_,_,e|.bo,_,_,_,e|.st,_,_,_,e=>e
 |.list _,_,_,f,_=>by cases f
 |.pair a b,x,cs,f,e=>by simp only[Kind.flat,Bool.and_eq_true] at f;obtain⟨c1,c2,hc,h1,h2⟩:=e;exact⟨c1,c2,hc,KC.flat f.1 h1,KC.flat f.2 h2⟩
theorem KV.flat {h h':Heap}{k:Kind}{x:k.T}{v:Value}(e:KV h k x v) (f:k.flat=true):KV h' k x v:=by
 rcases e with⟨ho,e⟩|⟨ho,cs,hv,e⟩
 ·exact .inl ⟨ho,KC.flat f e⟩
 ·exact .inr ⟨ho,cs,hv,KC.flat f e⟩
theorem KO.kc {H:Heap}:∀ {k:Kind}{q:Option Nat}{x:k.T}{cs:List Value}{is:List Nat},KO H q k x cs is→KC H k x cs
 |.i _,_,_,_,_,h=>by simp only[KO] at h;exact h.1
 |.bo,_,_,_,_,h=>by simp only[KO] at h;exact h.1
 |.st,_,_,_,_,h=>by simp only[KO] at h;exact h.1
 |.list k,q,l,cs,is,h=>by
  simp only[KO] at h;rcases h with⟨rfl,rfl,_⟩|⟨i,cap,c,e,t,js,rfl,rfl,h1,h2,h3,_,h4,h5⟩
  ·exact⟨_,rfl,.inl ⟨rfl,rfl⟩⟩
  ·refine⟨_,rfl,.inr ⟨i,0,cap,c,e,true,t,rfl,h1,h2,h3,by have:=Nat.mul_le_mul_right k.size h1;omega,?_⟩⟩;rw[List.drop_zero];have key:∀ {xs:List k.T}{cs:List Value}{js:List Nat},RowsO (fun x c is=>KO H none k x c is) xs cs js→Rows (fun x c=>KC H k x c) xs cs:=fun h=>by
    induction h with
    |nil=>exact .nil
    |cons h _ ih=>exact .cons (KO.kc (k:=k) h) ih
   exact key h5
 |.pair a b,_,x,cs,is,h=>by simp only[KO] at h;obtain⟨c1,c2,i1,i2,rfl,rfl,h1,h2⟩:=h;exact⟨c1,c2,rfl,h1.kc,h2.kc⟩
def Q8d:Kind→List Value→Prop
 |.list _,cs=>∀ v,cs=[v]→∀ a n c,v=.slice (some a) n c→a.off=0
 |_,_=>True
theorem KO.koff {H:Heap}:∀ {k:Kind}{q:Option Nat}{x:k.T}{cs:List Value}{is:List Nat},KO H q k x cs is→Q8d k cs
 |.i _,_,_,_,_,_|.bo,_,_,_,_,_|.st,_,_,_,_,_|.pair _ _,_,_,_,_,_=>trivial
 |.list k,q,l,cs,is,h=>by
  simp only[KO] at h;intro v hv a n c' hs;rcases h with⟨_,rfl,_⟩|⟨i,cap,c,e,t,js,rfl,_⟩
  ·obtain rfl:=(List.cons.inj hv).1;cases hs
  ·obtain rfl:=(List.cons.inj hv).1;cases hs;rfl
theorem RowsH.rows {α:Type}{R:α→List Value→List Nat→Prop}{R':α→List Value→Prop}(hR:∀ x c is,R x c is→R' x c) {sz:Nat}:∀ {xs:List α}{j:Nat}{cs:List Value}{is:List Nat},RowsH R sz none j xs cs is→Rows R' xs cs
 |[],j,cs,is,h=>by obtain⟨rfl,_⟩:=h;exact .nil
 |x::xs,j,cs,is,h=>by obtain⟨c,cs',i1,i2,rfl,rfl,h1,h2⟩:=h;rw[if_neg (by simp)] at h1;exact .cons (hR _ _ _ h1) (RowsH.rows hR h2)
theorem RC:∀ {l:List (Nat×Blk)}{p:Nat×Blk},p∈l→∃ b,S3 l p.1=some b
 |(j,b)::r,p,h=>by
  by_cases e:p.1=j
  ·exact⟨b,by simp only[S3,if_pos e]⟩
  ·rcases List.mem_cons.1 h with rfl|h
   ·exact absurd rfl e
   ·obtain⟨b',h'⟩:=RC h;exact⟨b',by simp only[S3,if_neg e];exact h'⟩
theorem Fq:∀ {l:List (Nat×Blk)}{n:Nat},(∀ p∈l,p.1<n)→Q2v l≤n
 |[],n,_=>Nat.zero_le _
 |(j,b)::r,n,h=>by have h1:=h (j,b) List.mem_cons_self;have h2:=Fq (l:=r) (n:=n) fun p hp=>h p (List.mem_cons_of_mem _ hp);simp only[Q2v];simp only at h1;omega
theorem Ej (p:Value):∃ l,Xf p=Q1t l:=by
 unfold Xf;split
 ·exact⟨_,rfl⟩
 ·exact⟨_,rfl⟩
theorem Oz {p:Value}{σ:Heap}(h:∀ i b,(Xf p).get i=some b→σ.get i=some b):(Xf p).Le σ:=by obtain⟨l,e⟩:=Ej p;rw[e] at h ⊢;refine⟨Fq fun x hx=>?_,h⟩;obtain⟨b,hb⟩:=RC hx;exact σ.lt (h x.1 b hb)
theorem CQ:∀ (l:List Value) {i:Nat}{c:List Value}{e:El}{wr t:Bool},S3 (Q5f l) i=some (.cells c e wr t)→wr=true
 |[],i,c,e,wr,t,h=>by cases h
 |v::vs,i,c,e,wr,t,h=>by
  unfold Q5f at h;split at h
  ·rename_i q hq;obtain⟨j,b⟩:=q;simp only[S3] at h;split at h
   ·obtain rfl:=osj h;unfold Q97 at hq;split at hq
    ·cases hq;rfl
    ·cases hq
   ·exact CQ vs h
  ·exact CQ vs h
theorem OZ {p:Value}{i:Nat}{c:List Value}{e:El}{wr t:Bool}(h:(Xf p).get i=some (.cells c e wr t)):wr=true:=by
 unfold Xf at h;split at h
 ·exact CQ _ h
 ·cases h
theorem DP.le {σ:Heap}{p:Value}{ty:Nat}{q:Option Nat}{k:Kind}{xs:List k.T}{nl:Bool}{h:Option Nat}(hd:DP σ p ty q k xs nl h):(Xf p).Le σ:=by obtain⟨is,_,_,_,_,h4,_⟩:=hd;exact Oz h4
theorem DP.sl {σ:Heap}{p:Value}{ty:Nat}{q:Option Nat}{k:Kind}{xs:List k.T}{nl:Bool}(hd:DP σ p ty q k xs nl none):SlRel (Xf p) k.size (KC (Xf p) k) xs (phd p):=by
 obtain⟨is,_,_,h2,_,_,_⟩:=hd;rcases h2 with⟨rfl,h,_⟩|⟨i,cap,c,t,js,h,_,h1,h3,h4,h5⟩
 ·exact .inl ⟨rfl,h⟩
 ·refine .inr ⟨i,0,cap,c,_,true,t,h,h1,h3,rfl,by have:=Nat.mul_le_mul_right k.size h1;omega,?_⟩;rw[List.drop_zero];exact h5.rows fun _ _ _ h=>h.kc
theorem DP.hd {σ:Heap}{p:Value}{ty:Nat}{q:Option Nat}{k:Kind}{xs:List k.T}{nl:Bool}{h:Option Nat}(hd:DP σ p ty q k xs nl h):∃ a cap,phd p=.slice a xs.length cap:=by
 obtain⟨is,_,_,h2,_,_,_⟩:=hd;rcases h2 with⟨rfl,h,_⟩|⟨i,cap,c,t,js,h,_⟩
 ·exact⟨_,_,h⟩
 ·exact⟨_,_,h⟩
theorem Ak {H:Heap}{k:Kind}{l:List k.T}{v:Value}(h:KC H (.list k) l [v]) {j:Nat}(hj:j<l.length):∃ b o cap c e wr t,v=.slice (some ⟨b,o,none⟩) l.length cap∧H.get b=some (.cells c e wr t)∧o+l.length*k.size≤c.length∧Rows (KC H k) l ((c.drop o).take (l.length*k.size)):=by
 obtain⟨v',e,hs⟩:=h;obtain rfl:=(List.cons.inj e).1;rcases hs with⟨rfl,_⟩|⟨b,o,cap,c,e',wr,t,h2,h3,h4,h5,h6,h7⟩
 ·simp at hj
 ·exact⟨b,o,cap,c,e',wr,t,h2,h4,h6,h7⟩
theorem T6 {p:Value}{k:Kind}{l:List k.T}{v:Value}(h:KC (Xf p) (.list k) l [v]):SlRel (Xf p) k.size (fun x c=>KC (Xf p) k x c) l v:=by obtain⟨v',e,hs⟩:=h;obtain rfl:=(List.cons.inj e).1;exact hs
theorem Wg (hle:B.Le σ) (av:∀ d,OR P B pl tb σ (pl d) (Qc own d)) {k:Kind}{s:SV}{l:List k.T}{v:Value}(h:view own k s=some l) (hs:SR P B pl tb s v):SlRel σ k.size (KC B k) l v:=by
 unfold view at h;split at h
 ·obtain rfl:=osj h;simp only[SR] at hs;exact .inl ⟨rfl,hs⟩
 ·rename_i k' l0;obtain rfl:=XB h;obtain rfl:=XD h;simp only[SR,KC] at hs;obtain⟨v',e,hs⟩:=hs;obtain rfl:=(List.cons.inj e).1;exact hs.mono hle fun _ _ h=>h
 ·rename_i o;have ho:=av o;simp only[SR] at hs
  replace hs:=hs.1
  split at h
  ·rename_i ty k' xs nl heq;obtain rfl:=XB h;obtain rfl:=XD h;rw[heq] at ho;rcases ho with⟨_,rfl,h2⟩|⟨_,i,cap,c,t,h1,h2,h3,h4,h5⟩
   ·exact .inl ⟨rfl,by rw[hs,h2]⟩
   ·refine .inr ⟨i,0,cap,c,_,true,t,by rw[hs,h1],h2,h3,rfl,?_,by simpa using h5⟩;have:=Nat.mul_le_mul_right k'.size h2;omega
  ·cases h
 ·rename_i o lo n sz;have ho:=av o;split at h
  ·rename_i ty k' xs nl heq;split at h
   ·rename_i aB;subst aB;cases hc:MT xs k with
    |none=>rw[hc] at h;cases h
    |some cn =>
     obtain rfl:=XB hc;obtain rfl:=XD hc;rw[hc] at h;obtain rfl:=osj h;simp only[SR] at hs;rw[heq] at ho;rcases hs with⟨rfl,rfl,rfl,_⟩|⟨i,len,cap,ao,h1,h2,h3,rfl⟩
     ·exact .inl ⟨by simp,rfl⟩
     ·rcases ho with⟨_,_,h4⟩|⟨_,i',ek,c,t,h4,h5,h6,h7,h8⟩
      ·rw[h1] at h4;cases h4
      ·rw[h1] at h4;obtain⟨rfl,rfl,rfl⟩:=(by simpa using h4:i=i'∧len=cn.length∧cap=ek);have hlen:((cn.drop lo).take n).length=n:=by simp;omega
       have k1:lo*k'.size+n*k'.size≤cn.length*k'.size:=by rw[←Nat.add_mul];exact Nat.mul_le_mul_right _ h2
       have k2:=Nat.mul_le_mul_right k'.size h5;refine .inr ⟨i,lo*k'.size,ao,c,_,true,t,by rw[hlen],by rw[hlen];exact h3,h6,rfl,by rw[hlen];omega,?_⟩;rw[hlen];have:=(h8.drop KC.rows_len lo).take KC.rows_len n;have e:((c.take (cn.length*k'.size)).drop (lo*k'.size)).take (n*k'.size)=(c.drop (lo*k'.size)).take (n*k'.size):=by
        apply List.ext_getElem?;intro j;simp only[List.getElem?_take,List.getElem?_drop];split
        ·rw[if_pos (by omega)]
        ·rfl
       rw[e] at this;exact this
   ·cases h
  ·cases h
 ·rename_i o w;have ho:=av o;simp only[SR] at hs;cases hf:k.flat with
  |false=>rw[hf] at h;cases h
  |true =>
   rw[hf] at h;simp only[_root_.cond_true] at h;split at h
   ·rename_i ty q k' xs nl hole heq;rw[heq] at ho;have cR:=DP.le ho;split at h
    ·split at h
     ·obtain rfl:=XB h;obtain rfl:=XD h;obtain⟨hs,_⟩:=hs;rw[hs];exact(DP.sl ho).mono cR fun _ _ e=>KC.flat hf e
     ·cases h
    ·rename_i k' l';obtain rfl:=XB h;obtain rfl:=XD h;exact(T6 hs).mono cR fun _ _ e=>KC.flat hf e
    ·rename_i k' l' i;obtain rfl:=XB h;obtain rfl:=XD h;exact(T6 hs.1).mono cR fun _ _ e=>KC.flat hf e
    ·cases h
   ·cases h
 ·cases h
theorem SlRel.len {h:Heap}{sz:Nat}{α:Type}{R:α→List Value→Prop}{l:List α}{v:Value}(hs:SlRel h sz R l v):∃ a cap,v=.slice a l.length cap:=by
 rcases hs with⟨rfl,rfl⟩|⟨i,o,cap,c,e,wr,t,rfl,_⟩
 ·exact⟨_,_,rfl⟩
 ·exact⟨_,_,rfl⟩
theorem Fc (av:∀ d,OR P B pl tb σ (pl d) (Qc own d)) {s:SV}{n:Nat}{v:Value}(h:Q82 own s=some n) (hs:SR P B pl tb s v):∃ a cap,v=.slice a n cap:=by
 unfold Q82 at h;split at h
 ·obtain rfl:=osj h;simp only[SR] at hs;exact⟨_,_,hs⟩
 ·obtain rfl:=osj h;simp only[SR,KC] at hs;obtain⟨v',e,hs⟩:=hs;obtain rfl:=(List.cons.inj e).1;exact hs.len
 ·rename_i o;have ho:=av o;simp only[SR] at hs
  replace hs:=hs.1
  split at h
  ·rename_i ty k' xs nl heq;obtain rfl:=osj h;rw[heq] at ho;rcases ho with⟨_,rfl,h2⟩|⟨_,i,cap,c,t,h1,h2,h3,h4,h5⟩
   ·exact⟨_,_,by rw[hs,h2];rfl⟩
   ·exact⟨_,_,by rw[hs,h1]⟩
  ·cases h
 ·obtain rfl:=osj h;simp only[SR] at hs;rcases hs with⟨rfl,rfl,rfl,_⟩|⟨i,len,cap,ao,h1,h2,h3,rfl⟩
  ·exact⟨_,_,rfl⟩
  ·exact⟨_,_,rfl⟩
 ·rename_i o w;have ho:=av o;simp only[SR] at hs;split at h
  ·rename_i ty q k' xs nl hole heq;rw[heq] at ho;split at h
   ·split at h
    ·obtain rfl:=osj h;obtain⟨hs,_⟩:=hs;rw[hs];exact DP.hd ho
    ·cases h
   ·obtain rfl:=osj h;exact(T6 hs).len
   ·obtain rfl:=osj h;exact(T6 hs.1).len
   ·cases h
  ·cases h
 ·cases h
theorem Jr {o:Nat}:∀ {k:Kind}{x:k.T}{cs:List Value},KC (Xf (pl o)) k x cs→SRs P B pl tb (NP o k x) cs
 |.i ik,x,cs,h=>by simp only[KC] at h;subst h;simp[NP,SRs,SR,KC]
 |.bo,x,cs,h=>by simp only[KC] at h;subst h;simp[NP,SRs,SR,KC]
 |.st,x,cs,h=>by simp only[KC] at h;subst h;simp[NP,SRs,SR,KC]
 |.list k,x,cs,h=>by have hl:=KC.length h;obtain⟨v,rfl⟩:=List.length_eq_one_iff.1 (show cs.length=1 from hl);simp only[NP,SRs,SR,DR];exact⟨v,[],rfl,h,rfl⟩
 |.pair a b,x,cs,h=>by obtain⟨c1,c2,rfl,h1,h2⟩:=h;exact SRs.append (Jr h1) (Jr h2)
theorem Ep {o:Nat}{i:Int}:∀ {k:Kind}{x:k.T}{cs:List Value},KC (Xf (pl o)) k x cs→Q8d k cs→(k.one=true→∀ v,cs=[v]→∃ b len cap c e t,phd (pl o)=.slice (some ⟨b,0,none⟩) len cap∧0≤i∧i<len∧(Xf (pl o)).get b=some (.cells c e true t)∧c[i.toNat]?=some v)→SRs P B pl tb (Q8o o i k x) cs
 |.i ik,x,cs,h,_,_=>Jr (o:=o) h
 |.bo,x,cs,h,_,_=>Jr (o:=o) h
 |.st,x,cs,h,_,_=>Jr (o:=o) h
 |.list k,x,cs,h,ho,hr=>by have hl:=KC.length h;obtain⟨v,rfl⟩:=List.length_eq_one_iff.1 (show cs.length=1 from hl);simp only[Q8o,SRs,SR,DR];exact⟨v,[],rfl,⟨h,ho v rfl,hr rfl v rfl⟩,rfl⟩
 |.pair a b,x,cs,h,_,_=>Jr (o:=o) h
theorem DP.elem {σ:Heap}{p:Value}{ty:Nat}{q:Option Nat}{k:Kind}{xs:List k.T}{nl:Bool}(hd:DP σ p ty q k xs nl none) {b len cap:Nat}(hp:phd p=.slice (some ⟨b,0,none⟩) len cap) :
  ∃ c t,(Xf p).get b=some (.cells c ⟨k.size,ty⟩ true t)∧len=xs.length∧xs.length≤cap∧cap*k.size≤c.length∧Rows (fun x c=>KC (Xf p) k x c∧Q8d k c) xs (c.take (xs.length*k.size)):=by
 obtain⟨is,_,_,h2,_,_,_⟩:=hd;rcases h2 with⟨rfl,h,_⟩|⟨i,ao,c,t,js,h,_,h1,h3,h4,h5⟩
 ·rw[hp] at h;cases h
 ·rw[hp] at h;obtain⟨rfl,rfl,rfl⟩:=(by simpa using h:b=i∧len=xs.length∧cap=ao);exact⟨c,t,h3,rfl,h1,h4,h5.rows fun _ _ _ h=>⟨h.kc,h.koff⟩⟩
theorem HE (hle:B.Le σ) (av:∀ d,OR P B pl tb σ (pl d) (Qc own d)) {agg:Bool}{size:Nat}(aB:0<size) {s v:SV}{p:Value}(h:Q09 own agg size s=some v) (hs:SR P B pl tb s p) :
  ∃ i o c e wr t u,p=.pointer (some ⟨i,o,none⟩)∧σ.get i=some (.cells c e wr t)∧XF agg size c o=some u∧SR P B pl tb v u:=by
 unfold Q09 at h;split at h
 ·rename_i o off;have ho:=av o;simp only[SR] at hs;obtain⟨b,h1,rfl⟩:=hs;split at h
  ·rename_i l _ heq;rw[heq] at ho;obtain⟨i,c,e,t,h2,h3,h4,_⟩:=ho;rw[h1] at h2;obtain rfl:=(by simpa using h2:b=i);obtain⟨u,h5,h6⟩:=Ju h4 h;exact⟨b,off,c,e,true,t,u,rfl,h3,h5,h6⟩
  ·cases h
 ·rename_i l off;simp only[SR] at hs;obtain⟨b,c,e,wr,t,h1,rfl,h3⟩:=hs;obtain⟨u,h5,h6⟩:=Ju h3 h;exact⟨b,off,c,e,wr,t,u,rfl,hle.2 _ _ h1,h5,h6⟩
 ·rename_i o i off sz;have ho:=av o;simp only[SR] at hs;obtain⟨b,len,cap,h1,h2,h3,rfl⟩:=hs;split at h
  ·rename_i ty k xs nl heq;rw[heq] at ho;split at h
   ·rename_i aj;obtain⟨rfl,bP⟩:=aj;rcases ho with⟨_,_,h4⟩|⟨_,i',ek,c,t,h4,h5,h6,h7,h8⟩
    ·rw[h1] at h4;cases h4
    ·rw[h1] at h4;obtain⟨rfl,rfl,rfl⟩:=(by simpa using h4:b=i'∧len=xs.length∧cap=ek);have hi:i.toNat<xs.length:=by omega
     have hr:=h8.at KC.rows_len hi;have hx:xs.getD i.toNat k.dflt=xs[i.toNat]:=by simp[List.getD_eq_getElem?_getD,List.getElem?_eq_getElem hi]
     rw[hx] at h;obtain⟨u,h9,bL⟩:=Ju (Wv (P:=P) (pl:=pl) (tb:=tb) hr) h;refine⟨b,_,c,_,true,t,u,rfl,h6,U_ bP aB h9 ?_,bL⟩;have:(i.toNat+1)*k.size≤xs.length*k.size:=Nat.mul_le_mul_right _ hi
     rwa [Nat.add_mul,Nat.one_mul] at this
   ·cases h
  ·cases h
 ·rename_i k l i off;simp only[SR] at hs;obtain⟨b,o,c,e,wr,t,h1,h2,h3,rfl,h5,h6⟩:=hs;split at h
  ·rename_i bP;have hi:i.toNat<l.length:=by omega
   have hr:=h6.at KC.rows_len hi;have hx:l.getD i.toNat k.dflt=l[i.toNat]:=by simp[List.getD_eq_getElem?_getD,List.getElem?_eq_getElem hi]
   rw[hx] at h;obtain⟨u,h9,bL⟩:=Ju (Wv (P:=P) (pl:=pl) (tb:=tb) hr) h;have dU:(i.toNat+1)*k.size≤l.length*k.size:=Nat.mul_le_mul_right _ hi;rw[Nat.add_mul,Nat.one_mul] at dU;refine⟨b,_,c,e,wr,t,u,rfl,hle.2 _ _ h3,?_,bL⟩;have:=U_ bP aB h9 dU;clear h9;cases agg with
   |true =>
    simp only[XF,if_true,List.length_drop] at this ⊢;split at this
    ·rename_i cR;rw[if_pos (by omega)];rw[←this,List.drop_drop,Nat.add_assoc]
    ·cases this
   |false =>simp only[XF,Bool.false_eq_true,if_false,List.getElem?_drop] at this ⊢;rw[←this,Nat.add_assoc]
  ·cases h
 ·rename_i o w;have ho:=av o;simp only[SR] at hs;split at h
  ·rename_i ty q k xs nl hole heq;rw[heq] at ho;split at h
   ·have cR:=DP.le ho;split at h
    ·rename_i i off sz;obtain⟨b,len,cap,h1,h2,h3,rfl⟩:=hs;split at h
     ·rename_i aj;obtain⟨rfl,bP⟩:=aj;obtain⟨c,t,h4,rfl,h5,h6,h7⟩:=DP.elem ho h1;have hi:i.toNat<xs.length:=by omega
      have hr:=h7.at (fun x c h=>KC.rows_len x c h.1) hi;have hx:xs.getD i.toNat k.dflt=xs[i.toNat]:=by simp[List.getD_eq_getElem?_getD,List.getElem?_eq_getElem hi]
      rw[hx] at h;have gR:(i.toNat+1)*k.size≤xs.length*k.size:=Nat.mul_le_mul_right _ hi;rw[Nat.add_mul,Nat.one_mul] at gR;obtain⟨u,h9,bL⟩:=Ju (Ep (P:=P) (B:=B) (tb:=tb) hr.1 hr.2 fun bG v hv=>by
       refine⟨b,_,cap,c,_,t,h1,h2,h3,h4,?_⟩;have sO:=Kind.one_size bG;have:(((c.take (xs.length*k.size)).drop (i.toNat*k.size)).take k.size)[0]?=some v:=by rw[hv];rfl
       rw[sO] at this;simp only[Nat.mul_one,List.getElem?_take,List.getElem?_drop,Nat.add_zero] at this;rw[if_pos (by omega),if_pos (by omega)] at this;exact this) h
      exact⟨b,_,c,_,true,t,u,rfl,cR.2 _ _ h4,U_ bP aB h9 gR,bL⟩
     ·cases h
    ·rename_i k' x i j off;obtain⟨b,len,cap,c,e,t,r,rl,rc,bw,re,rt,h1,h2,h3,h4,h5,h6,h7,h8,h9,bL,e_,rfl⟩:=hs;split at h
     ·rename_i bP;subst h8;have hj:j.toNat<x.length:=by omega
      have hr:=e_.at KC.rows_len hj;have hx:x.getD j.toNat k'.dflt=x[j.toNat]:=by simp[List.getD_eq_getElem?_getD,List.getElem?_eq_getElem hj]
      rw[hx] at h;have gR:(j.toNat+1)*k'.size≤x.length*k'.size:=Nat.mul_le_mul_right _ hj;rw[Nat.add_mul,Nat.one_mul] at gR;obtain⟨u,k9,pq⟩:=Ju (Jr (P:=P) (B:=B) (tb:=tb) hr) h;exact⟨r,_,bw,_,true,rt,u,rfl,cR.2 _ _ h9,U_ bP aB k9 gR,pq⟩
     ·cases h
    ·rename_i k' l j off;obtain⟨b,o',c,e,wr,t,h1,h2,h3,rfl,h5,h6⟩:=hs;split at h
     ·rename_i bP;have hj:j.toNat<l.length:=by omega
      have hr:=h6.at KC.rows_len hj;have hx:l.getD j.toNat k'.dflt=l[j.toNat]:=by simp[List.getD_eq_getElem?_getD,List.getElem?_eq_getElem hj]
      rw[hx] at h;obtain⟨u,k9,pq⟩:=Ju (Jr (P:=P) (B:=B) (tb:=tb) hr) h;have dU:(j.toNat+1)*k'.size≤l.length*k'.size:=Nat.mul_le_mul_right _ hj;rw[Nat.add_mul,Nat.one_mul] at dU;refine⟨b,_,c,e,wr,t,u,rfl,cR.2 _ _ h3,?_,pq⟩;have:=U_ bP aB k9 dU;clear k9;cases agg with
      |true =>
       simp only[XF,if_true,List.length_drop] at this ⊢;split at this
       ·rename_i sP;rw[if_pos (by omega)];rw[←this,List.drop_drop,Nat.add_assoc]
       ·cases this
      |false =>simp only[XF,Bool.false_eq_true,if_false,List.getElem?_drop] at this ⊢;rw[←this,Nat.add_assoc]
     ·cases h
    ·cases h
   ·cases h
  ·cases h
 ·cases h
end
end Go.V
namespace Go.V
open Go
section
variable {P:Program}{B:Heap}{pl:Nat→Value}{tb:Nat→Option Bool}{own:Own}{σ:Heap}
theorem Ru {s:SV}{v:Value}(h:s.solid=true) (hs:SR P B pl tb s v):YF v=some [v]∧cellOk v=true:=by
 cases s with
 |any=>cases h
 |grd gs s=>cases h
 |agg l=>cases h
 |tup l=>cases h
 |val k x =>
  simp only[SR] at hs;cases k with
  |i ik=>simp only[KC] at hs;obtain rfl:=(List.cons.inj hs).1;exact⟨rfl,rfl⟩
  |bo=>simp only[KC] at hs;obtain rfl:=(List.cons.inj hs).1;exact⟨rfl,rfl⟩
  |st=>simp only[KC] at hs;obtain rfl:=(List.cons.inj hs).1;exact⟨rfl,rfl⟩
  |list k =>obtain⟨v',e,hs⟩:=hs;obtain rfl:=(List.cons.inj e).1;obtain⟨a,c,rfl⟩:=hs.len;exact⟨rfl,rfl⟩
  |pair a b =>have h1:=KC.length hs;have h2:=a.size_pos;have h3:=b.size_pos;simp only[Kind.size,List.length_singleton] at h1;omega
 |bid n c=>simp only[SR] at hs;obtain⟨rfl,_⟩:=hs;exact⟨rfl,rfl⟩
 |nilS=>simp only[SR] at hs;subst hs;exact⟨rfl,rfl⟩
 |nilP=>simp only[SR] at hs;subst hs;exact⟨rfl,rfl⟩
 |nilM=>simp only[SR] at hs;subst hs;exact⟨rfl,rfl⟩
 |nilF=>simp only[SR] at hs;subst hs;exact⟨rfl,rfl⟩
 |lst o=>simp only[SR] at hs;obtain⟨_,a,n,c,rfl⟩:=hs;exact⟨rfl,rfl⟩
 |dd o w =>
  simp only[SR] at hs;cases w with
  |out=>obtain⟨_,a,n,c,rfl⟩:=hs;exact⟨rfl,rfl⟩
  |el i off sz=>obtain⟨_,_,_,_,_,_,rfl⟩:=hs;exact⟨rfl,rfl⟩
  |row k x i=>obtain⟨a,c,rfl⟩:=(T6 hs.1).len;exact⟨rfl,rfl⟩
  |rowp k x i j off=>obtain⟨_,_,_,_,_,_,_,_,_,_,_,_,_,_,_,_,_,_,_,_,_,_,_,rfl⟩:=hs;exact⟨rfl,rfl⟩
  |inn k x=>obtain⟨a,c,rfl⟩:=(T6 hs).len;exact⟨rfl,rfl⟩
  |inp k l j off=>obtain⟨_,_,_,_,_,_,_,_,_,rfl,_⟩:=hs;exact⟨rfl,rfl⟩
  |dat=>rcases hs with⟨_,rfl⟩|⟨_,_,_,_,_,rfl⟩<;>exact⟨rfl,rfl⟩
  |obx c=>rcases hs with⟨_,rfl⟩|⟨_,_,_,rfl⟩<;>exact⟨rfl,rfl⟩
  |yv=>obtain⟨_,_,rfl⟩:=hs;exact⟨rfl,rfl⟩
 |sub o lo n sz=>simp only[SR] at hs;rcases hs with⟨_,_,rfl,_⟩|⟨_,_,_,_,_,_,_,rfl⟩<;>exact⟨rfl,rfl⟩
 |elp o i off sz=>simp only[SR] at hs;obtain⟨_,_,_,_,_,_,rfl⟩:=hs;exact⟨rfl,rfl⟩
 |rop k l i off=>simp only[SR] at hs;obtain⟨_,_,_,_,_,_,_,_,_,rfl,_⟩:=hs;exact⟨rfl,rfl⟩
 |box o off=>simp only[SR] at hs;obtain⟨_,_,rfl⟩:=hs;exact⟨rfl,rfl⟩
 |cp l off=>simp only[SR] at hs;obtain⟨_,_,_,_,_,_,rfl,_⟩:=hs;exact⟨rfl,rfl⟩
 |map o=>simp only[SR] at hs;obtain⟨_,m,rfl⟩:=hs;exact⟨rfl,rfl⟩
 |fn f a b=>simp only[SR] at hs;obtain⟨_,_,rfl,_⟩:=hs;exact⟨rfl,rfl⟩
 |pf ks r cE p=>simp only[SR] at hs;obtain⟨_,_,_,rfl,_⟩:=hs;exact⟨rfl,rfl⟩
theorem Bt:∀ {l:List SV}{c:List Value},l.all SV.solid=true→SRs P B pl tb l c→c.all cellOk=true
 |[],c,_,h=>by simp only[SRs] at h;subst h;rfl
 |s::ss,c,hl,h=>by simp only[SRs] at h;obtain⟨x,y,rfl,h1,h2⟩:=h;simp only[List.all_cons,Bool.and_eq_true] at hl ⊢;exact⟨(Ru hl.1 h1).2,Bt hl.2 h2⟩
theorem WB {s:SV}{v:Value}{l:List SV}(h:Mh s=some l) (hs:SR P B pl tb s v):∃ c,YF v=some c∧SRs P B pl tb l c∧c.all cellOk=true:=by
 have key:s.solid=true→some [s]=some l→∃ c,YF v=some c∧SRs P B pl tb l c∧c.all cellOk=true:=fun pr e=>by obtain rfl:=osj e;obtain⟨h1,h2⟩:=Ru pr hs;exact⟨[v],h1,by simp only[SRs];exact⟨v,[],rfl,hs,rfl⟩,by simp[h2]⟩
 cases s with
 |any=>cases h
 |grd gs s=>cases h
 |tup l=>cases h
 |agg l' =>
  simp only[Mh] at h;cases hl:l'.all SV.solid with
  |false=>rw[hl] at h;cases h
  |true =>rw[hl] at h;obtain rfl:=osj h;simp only[SR] at hs;obtain⟨cs,rfl,hs⟩:=hs;exact⟨cs,rfl,hs,Bt hl hs⟩
 |_=>exact key rfl h
theorem DL:∀ {vs:List SV}{us:List Value}{c:List SV}{cV:List Value}{o:Nat},SRs P B pl tb c cV→SRs P B pl tb vs us→SRs P B pl tb (gfill.setS c o vs) (Qm cV o us)
 |[],us,c,cV,o,h,h'=>by simp only[SRs] at h';subst h';exact h
 |v::vs,us,c,cV,o,h,h'=>by simp only[SRs] at h';obtain⟨x,y,rfl,h1,h2⟩:=h';simp only[gfill.setS,Qm];exact DL (h.set o h1) h2
theorem HU:∀ {ps:List (Nat×Nat×Operand)}{c l:List SV}{cV:List Value}{ev:Operand→SV}{evV:Operand→Value},(∀ x,SR P B pl tb (ev x) (evV x))→SRs P B pl tb c cV→gfill c (ps.map fun p=>(p.1,p.2.1,ev p.2.2))=some l →
  ∃ lV,UF cV (ps.map fun p=>(p.1,p.2.1,evV p.2.2))=some lV∧SRs P B pl tb l lV
 |[],c,l,cV,ev,evV,af,h,hg=>by obtain rfl:=osj hg;exact⟨cV,rfl,h⟩
 |p::ps,c,l,cV,ev,evV,af,h,hg=>by
  simp only[List.map_cons,gfill] at hg;split at hg
  ·rename_i vs hs;split at hg
   ·rename_i aj;obtain⟨us,h1,h2,_⟩:=WB hs (af p.2.2);obtain⟨lV,h3,h4⟩:=HU af (DL h h2) hg;refine⟨lV,?_,h4⟩;simp only[List.map_cons,UF,h1];rw[if_pos ⟨by rw[←h2.length];exact aj.1,by rw[←h.length];exact aj.2⟩];exact h3
   ·cases hg
  ·cases hg
theorem WE {h:Heap}:∀ {k:Kind}{z:List Value},Kr k z=true→KC h k k.dflt z
 |.i ik,z,e=>by unfold Kr at e;split at e<;>simp_all [KC,Kind.dflt]
 |.bo,z,e=>by unfold Kr at e;split at e<;>simp_all [KC,Kind.dflt]
 |.st,z,e=>by unfold Kr at e;split at e<;>simp_all [KC,Kind.dflt];rename_i s;cases s;simp_all
 |.list k,z,e=>by unfold Kr at e;split at e<;>simp_all [KC,Kind.dflt];exact .inl ⟨rfl,rfl⟩
 |.pair a b,z,e=>by simp only[Kr,Bool.and_eq_true] at e;exact⟨_,_,(List.take_append_drop a.size z).symm,WE e.1,WE e.2⟩
theorem Sv {h:Heap}{mk:MK}{kk:Kind}(hk:gq.mkP mk kk=true) {x:kk.T}{cs:List Value}(e:KC h kk x cs):∃ v,cs=[v]∧Zs mk v=true∧Ek mk v=true:=by
 unfold gq.mkP at hk;split at hk
 ·simp only[KC] at e;subst e;obtain rfl:=of_decide_eq_true hk;exact⟨_,rfl,by simp[Zs],by simp[Ek]⟩
 ·simp only[KC] at e;subst e;exact⟨_,rfl,rfl,rfl⟩
 ·simp only[KC] at e;subst e;exact⟨_,rfl,rfl,rfl⟩
 ·cases hk
theorem Q1c {h:Heap}{mk:MK}{kk:Kind}(hk:gq.mkP mk kk=true) {x y:kk.T}{u v:Value}(e:KC h kk x [u]) (e':KC h kk y [v]):Xw u v=gq.keq kk x y∧K2 u v=gq.keq kk x y:=by
 unfold gq.mkP at hk;split at hk
 ·simp only[KC] at e e';obtain rfl:=(List.cons.inj e).1;obtain rfl:=(List.cons.inj e').1;exact⟨rfl,rfl⟩
 ·simp only[KC] at e e';obtain rfl:=(List.cons.inj e).1;obtain rfl:=(List.cons.inj e').1;simp[Xw,K2,gq.keq]
 ·simp only[KC] at e e';obtain rfl:=(List.cons.inj e).1;obtain rfl:=(List.cons.inj e').1;exact⟨rfl,rfl⟩
 ·cases hk
theorem PY {h:Heap}:∀ {k:Kind}{l r:List MK}{x:k.T}{cs ds:List Value},gq.mkAt k l=some r→KC h k x cs→fits l (cs++ds)=fits r ds
 |.pair a b,l,r,x,cs,ds,hk,e=>by
  simp only[gq.mkAt] at hk;split at hk
  ·rename_i q hq;obtain⟨c1,c2,rfl,h1,h2⟩:=e;rw[List.append_assoc,PY hq h1,PY hk h2]
  ·cases hk
 |.i _,m::l,r,x,cs,ds,hk,e|.bo,m::l,r,x,cs,ds,hk,e|.st,m::l,r,x,cs,ds,hk,e|.list _,m::l,r,x,cs,ds,hk,e=>by
  simp only[gq.mkAt] at hk;cases hp:gq.mkP m _ with
  |false=>rw[hp] at hk;cases hk
  |true =>rw[hp] at hk;obtain rfl:=osj hk;obtain⟨v,rfl,_,h2⟩:=Sv hp e;simp[fits,h2]
 |.i _,[],r,x,cs,ds,hk,e|.bo,[],r,x,cs,ds,hk,e|.st,[],r,x,cs,ds,hk,e|.list _,[],r,x,cs,ds,hk,e=>by cases hk
theorem CY {h:Heap}:∀ {k:Kind}{l r:List MK}{x y:k.T}{cs ds cs' ds':List Value},gq.mkAt k l=some r→KC h k x cs→KC h k y ds→Ql (cs++cs') (ds++ds')=(gq.keq k x y&&Ql cs' ds')
 |.pair a b,l,r,x,y,cs,ds,cs',ds',hk,e,e'=>by
  simp only[gq.mkAt] at hk;split at hk
  ·rename_i q hq;obtain⟨c1,c2,rfl,h1,h2⟩:=e;obtain⟨d1,d2,rfl,g1,g2⟩:=e';rw[List.append_assoc,List.append_assoc,CY hq h1 g1,CY hk h2 g2];simp only[gq.keq,Bool.and_assoc]
  ·cases hk
 |.i _,m::l,r,x,y,cs,ds,cs',ds',hk,e,e'|.bo,m::l,r,x,y,cs,ds,cs',ds',hk,e,e'|.st,m::l,r,x,y,cs,ds,cs',ds',hk,e,e'|.list _,m::l,r,x,y,cs,ds,cs',ds',hk,e,e'=>by
  simp only[gq.mkAt] at hk;cases hp:gq.mkP m _ with
  |false=>rw[hp] at hk;cases hk
  |true =>obtain⟨v,rfl,_,_⟩:=Sv hp e;obtain⟨w,rfl,_,_⟩:=Sv hp e';simp only[List.cons_append,List.nil_append,Ql,(Q1c hp e e').2]
 |.i _,[],r,x,y,cs,ds,cs',ds',hk,e,e'|.bo,[],r,x,y,cs,ds,cs',ds',hk,e,e'|.st,[],r,x,y,cs,ds,cs',ds',hk,e,e'|.list _,[],r,x,y,cs,ds,cs',ds',hk,e,e'=>by cases hk
theorem VO {h:Heap}{mk:MK}{kk:Kind}(hk:gq.mkOk mk kk=true) {x:kk.T}{v:Value}(e:KV h kk x v):Zs mk v=true:=by
 unfold gq.mkOk at hk;rcases e with⟨ho,e⟩|⟨ho,cs,rfl,e⟩
 ·rw[ho] at hk;obtain⟨w,h1,h2,_⟩:=Sv hk e;obtain rfl:=(List.cons.inj h1).1;exact h2
 ·rw[ho] at hk;simp only[_root_.cond_false] at hk;split at hk
  ·rename_i l;split at hk
   ·rename_i hr;have:=PY (ds:=[]) hr e;rw[List.append_nil] at this;simp only[Zs];rw[this];rfl
   ·cases hk
  ·cases hk
theorem GV {h:Heap}{mk:MK}{kk:Kind}(hk:gq.mkOk mk kk=true) {x y:kk.T}{u v:Value}(e:KV h kk x u) (e':KV h kk y v):Xw u v=gq.keq kk x y:=by
 unfold gq.mkOk at hk;rcases e with⟨ho,e⟩|⟨ho,cs,rfl,e⟩
 ·rcases e' with⟨_,e'⟩|⟨eu,_⟩
  ·rw[ho] at hk;exact(Q1c hk e e').1
  ·rw[ho] at eu;cases eu
 ·rcases e' with⟨eu,_⟩|⟨_,ds,rfl,e'⟩
  ·rw[ho] at eu;cases eu
  ·rw[ho] at hk;simp only[_root_.cond_false] at hk;split at hk
   ·split at hk
    ·rename_i hr;have:=CY (cs':=[]) (ds':=[]) hr e e';rw[List.append_nil,List.append_nil] at this;simp only[Xw];rw[this];simp[Ql]
    ·cases hk
   ·cases hk
theorem Vd {B:Heap}{k:Kind}{v:SV}{u:Value}{x:k.T}(h:dkV k v=some x) (hs:SR P B pl tb v u) (hd:∀ {k:Kind}{l:List SV}{x:k.T}{c:List Value},Rl k l=some x→SRs P B pl tb l c→KC B k x c):KV B k x u:=by
 unfold dkV at h;cases bG:k.one with
 |true =>rw[bG] at h;exact .inl ⟨bG,hd h (by simp only[SRs];exact⟨u,[],rfl,hs,rfl⟩)⟩
 |false =>
  rw[bG] at h;simp only[_root_.cond_false] at h;split at h
  ·simp only[SR] at hs;obtain⟨cs,rfl,hs⟩:=hs;exact .inr ⟨bG,cs,rfl,hd h hs⟩
  ·cases h
theorem Bs {B:Heap}{k:Kind}{z:Value}(h:Kr k (Ag k z)=true):KV B k k.dflt z:=by
 have e:=WE (h:=B) h;unfold Ag at e;cases bG:k.one with
 |true=>rw[bG] at e;exact .inl ⟨bG,e⟩
 |false =>
  rw[bG] at e;simp only[_root_.cond_false] at e;split at e
  ·exact .inr ⟨bG,_,by simp,e⟩
  ·have:=KC.length e;have:=k.size_pos;simp at *
   omega
theorem KV.kc {B:Heap}{k:Kind}{x:k.T}{v:Value}(h:KV B k x v) (ho:k.one=true):KC B k x [v]:=by
 rcases h with⟨_,h⟩|⟨h1,_⟩
 ·exact h
 ·rw[ho] at h1;cases h1
theorem MR.keys {mk:MK}{kk vk:Kind}(hk:gq.mkOk mk kk=true):∀ {m:List (kk.T×vk.T)}{es:List JA},MR B kk vk m es→es.all (fun e=>Zs mk e.1)=true
 |[],es,h=>by simp only[MR] at h;subst h;rfl
 |m::ms,es,h=>by obtain⟨e,bH,rfl,h2,h3,h4⟩:=h;simp only[List.all_cons,Bool.and_eq_true];exact⟨VO hk h2,MR.keys hk h4⟩
theorem MR.length {kk vk:Kind}:∀ {m:List (kk.T×vk.T)}{es:List JA},MR B kk vk m es→es.length=m.length
 |[],es,h=>by simp only[MR] at h;subst h;rfl
 |m::ms,es,h=>by obtain⟨e,bH,rfl,h2,h3,h4⟩:=h;simp[MR.length h4]
theorem MR.find {mk:MK}{kk vk:Kind}(hk:gq.mkOk mk kk=true) {key:kk.T}{kv:Value}(bB:KV B kk key kv) {d:vk.T}{z:Value}(hz:KV B vk d z):∀ {m:List (kk.T×vk.T)}{es:List JA},MR B kk vk m es →
  (∃ e,Qg kv es=some e∧gq.ahas kk m key=true∧KV B vk (gq.aget kk m key d) e.2.1)∨(Qg kv es=none∧gq.ahas kk m key=false∧gq.aget kk m key d=d)
 |[],es,h=>by simp only[MR] at h;subst h;exact .inr ⟨rfl,rfl,rfl⟩
 |m::ms,es,h=>by
  obtain⟨e,bH,rfl,h2,h3,h4⟩:=h;have hq:=GV hk bB h2;cases hc:gq.keq kk key m.1 with
  |true =>refine .inl ⟨e,by simp[Qg,hq,hc],by simp[gq.ahas,hc],by simpa [gq.aget,hc] using h3⟩
  |false =>
   rcases MR.find hk bB hz h4 with⟨e',k1,k2,k3⟩|⟨k1,k2,k3⟩
   ·exact .inl ⟨e',by simp[Qg,hq,hc,k1],by simp[gq.ahas,hc,k2],by simpa [gq.aget,hc] using k3⟩
   ·exact .inr ⟨by simp[Qg,hq,hc,k1],by simp[gq.ahas,hc,k2],by simpa [gq.aget,hc] using k3⟩
theorem SRs.one {v:SV}{c:List Value}(h:SRs P B pl tb [v] c):∃ u,c=[u]∧SR P B pl tb v u:=by simp only[SRs] at h;obtain⟨u,us,rfl,h1,rfl⟩:=h;exact⟨u,rfl,h1⟩
theorem QE:∀ {k:Kind}{l:List SV}{x:k.T}{c:List Value},Rl k l=some x→SRs P B pl tb l c→KC B k x c
 |.i ik,[],x,c,h,hs|.bo,[],x,c,h,hs|.st,[],x,c,h,hs|.list _,[],x,c,h,hs=>by cases h
 |.i ik,_::_::_,x,c,h,hs|.bo,_::_::_,x,c,h,hs|.st,_::_::_,x,c,h,hs|.list _,_::_::_,x,c,h,hs=>by cases h
 |.i ik,[v],x,c,h,hs=>by
  obtain⟨u,rfl,h1⟩:=hs.one;simp only[Rl] at h;split at h
  ·rename_i qH y;split at h
   ·rename_i e;obtain rfl:=osj h;subst e;simp only[SR] at h1;exact h1
   ·cases h
  ·cases h
 |.bo,[v],x,c,h,hs=>by obtain⟨u,rfl,h1⟩:=hs.one;rw[Xt h h1];rfl
 |.st,[v],x,c,h,hs=>by obtain⟨u,rfl,h1⟩:=hs.one;rw[KW h h1];rfl
 |.list k,[v],x,c,h,hs=>by
  obtain⟨u,rfl,h1⟩:=hs.one;simp only[Rl] at h;split at h
  ·obtain rfl:=osj h;simp only[SR] at h1;subst h1;exact⟨_,rfl,.inl ⟨rfl,rfl⟩⟩
  ·rename_i k' l';obtain rfl:=XB h;obtain rfl:=XD h;simp only[SR] at h1;exact h1
  ·cases h
 |.pair a b,l,x,c,h,hs=>by
  simp only[Rl] at h;split at h
  ·rename_i y z h1 h2;obtain rfl:=osj h;exact⟨c.take a.size,c.drop a.size,(List.take_append_drop _ _).symm,QE h1 (hs.take _),QE h2 (hs.drop _)⟩
  ·cases h
end
end Go.V
namespace Go.V
open Go
theorem InK.wrap {k:IntKind}{x:Int}(h:InK k x):k.wrap x=x:=by obtain⟨h1,h2⟩:=h;cases k<;>simp[IntKind.wrap,IntKind.bits,IntKind.signed,IntKind.min,IntKind.max] at h1 h2 ⊢<;>(try split)<;>omega
section
variable {P:Program}{B:Heap}{pl:Nat→Value}{tb:Nat→Option Bool}{own:Own}{σ:Heap}
def QOk (P:Program) (B:Heap) (pl:Nat→Value) (tb:Nat→Option Bool) (σ:Heap) (o:VOp) (evV:Operand→Value) (v:SV):Prop:=∃ u,Q4 o evV σ=some (u,σ)∧SR P B pl tb v u
theorem Xa (k:IntKind) (x:Int):SR P B pl tb (.val (.i k) x) (.int k x):=by simp[SR,KC]
theorem Z_ (x:Bool):SR P B pl tb (.val .bo x) (.bool x):=by simp[SR,KC]
theorem Pg (x:List UInt8):SR P B pl tb (.val .st x) (.string ⟨x.toArray⟩):=by simp[SR,KC]
theorem Z4 {α β:Type _}{a c:α}{b d:β}(h:some (a,b)=some (c,d)):a=c∧b=d:=by cases h;exact⟨rfl,rfl⟩
section
variable {kt:List (Nat×Kind)}{raw:Bool}{ev:Operand→SV}{evV:Operand→Value}{cs:List Prop}{v:SV}
theorem GB (af:∀ x,SR P B pl tb (ev x) (evV x)) {x y:Operand}{k k':IntKind}{a b:Int}(h1:asI (ev x)=some (k,a)) (h2:asI (ev y)=some (k',b)):evV x=.int k a∧evV y=.int k' b:=⟨ZG h1 (af x),ZG h2 (af y)⟩
theorem Q29 (af:∀ x,SR P B pl tb (ev x) (evV x)) {op:BinOp}{x y:Operand}(h:gq kt raw (.arith op x y) ev own=some (cs,v)) (hc:∀ c∈cs,c):QOk P B pl tb σ (.arith op x y) evV v:=by
 simp only[gq] at h;split at h
 ·rename_i k a k' b h1 h2;obtain⟨e1,e2⟩:=GB af h1 h2;split at h
  ·rename_i hk;subst hk;cases raw with
   |true =>
    obtain⟨rfl,rfl⟩:=Z4 h;refine⟨_,by simp only[Q4,e1,e2,if_true]<;>rfl,?_⟩;have:Bp op k a b=k.wrap (Pr op a b):=by cases op<;>rfl
    rw[this];exact Xa _ _
   |false =>
    obtain⟨rfl,rfl⟩:=Z4 h;refine⟨_,by simp only[Q4,e1,e2,if_true]<;>rfl,?_⟩;have:Bp op k a b=Pr op a b:=by
     have hw:InK k (Pr op a b):=hc _ (by simp);have e:Bp op k a b=k.wrap (Pr op a b):=by cases op<;>rfl
     rw[e,hw.wrap]
    rw[this];exact Xa _ _
  ·cases h
 ·cases h
theorem Q86 (af:∀ x,SR P B pl tb (ev x) (evV x)) {op:BinOp}{x y:Operand}(h:gq kt raw (.div op x y) ev own=some (cs,v)) (hc:∀ c∈cs,c):QOk P B pl tb σ (.div op x y) evV v:=by
 simp only[gq] at h;split at h
 ·rename_i k a k' b h1 h2;obtain⟨e1,e2⟩:=GB af h1 h2;split at h
  ·rename_i hk;subst hk;split at h
   ·obtain⟨rfl,rfl⟩:=Z4 h;have hb:b≠0:=hc _ (by simp);have hw:InK k (a.tdiv b):=hc _ (by simp);refine⟨_,by simp only[Q4,e1,e2,hb,ne_eq,not_false_iff,and_self,if_true]<;>rfl,?_⟩;simp only[Q2n,hw.wrap];exact Xa _ _
   ·obtain⟨rfl,rfl⟩:=Z4 h;have hb:b≠0:=hc _ (by simp);refine⟨_,by simp only[Q4,e1,e2,hb,ne_eq,not_false_iff,and_self,if_true]<;>rfl,?_⟩;rename_i bt;have:Q2n op k a b=a.tmod b:=by unfold Q2n;split<;>simp_all
    rw[this];exact Xa _ _
  ·cases h
 ·cases h
theorem Q5d (af:∀ x,SR P B pl tb (ev x) (evV x)) {op:BinOp}{x y:Operand}(h:gq kt raw (.bits op x y) ev own=some (cs,v)):QOk P B pl tb σ (.bits op x y) evV v:=by
 simp only[gq] at h;split at h
 ·rename_i k a k' b h1 h2;obtain⟨e1,e2⟩:=GB af h1 h2;split at h
  ·rename_i hk;subst hk;obtain⟨rfl,rfl⟩:=Z4 h;exact⟨_,by simp only[Q4,e1,e2,if_true]<;>rfl,Xa _ _⟩
  ·cases h
 ·cases h
theorem Q1o (af:∀ x,SR P B pl tb (ev x) (evV x)) {op:BinOp}{x y:Operand}(h:gq kt raw (.shift op x y) ev own=some (cs,v)) (hc:∀ c∈cs,c):QOk P B pl tb σ (.shift op x y) evV v:=by
 simp only[gq] at h;split at h
 ·rename_i k a k' b h1 h2;obtain⟨e1,e2⟩:=GB af h1 h2;split at h
  ·cases raw with
   |true =>obtain⟨rfl,rfl⟩:=Z4 h;have hb:0≤b:=hc _ (by simp);exact⟨_,by simp only[Q4,e1,e2,hb,if_true]<;>rfl,Xa _ _⟩
   |false =>obtain⟨rfl,rfl⟩:=Z4 h;have hb:0≤b:=hc _ (by simp);have hw:InK k (O9 k a b):=hc _ (by simp);refine⟨_,by simp only[Q4,e1,e2,hb,if_true]<;>rfl,?_⟩;have:Bn .shl k a b=k.wrap (O9 k a b):=rfl;rw[this,hw.wrap];exact Xa _ _
  ·obtain⟨rfl,rfl⟩:=Z4 h;have hb:0≤b:=hc _ (by simp);refine⟨_,by simp only[Q4,e1,e2,hb,if_true]<;>rfl,?_⟩;have:Bn op k a b=Q72 k a b:=by unfold Bn;split<;>simp_all [Q72]
   rw[this];exact Xa _ _
 ·cases h
theorem Q8j (af:∀ x,SR P B pl tb (ev x) (evV x)) {op:BinOp}{x y:Operand}(h:gq kt raw (.cmp op x y) ev own=some (cs,v)):QOk P B pl tb σ (.cmp op x y) evV v:=by
 simp only[gq] at h;split at h
 ·rename_i k a k' b h1 h2;obtain⟨e1,e2⟩:=GB af h1 h2;split at h
  ·rename_i hk;subst hk;obtain⟨rfl,rfl⟩:=Z4 h;exact⟨_,by simp only[Q4,e1,e2,if_true]<;>rfl,Z_ _⟩
  ·cases h
 ·cases h
theorem Q7q (af:∀ x,SR P B pl tb (ev x) (evV x)) {op:BinOp}{x y:Operand}(h:gq kt raw (.str op x y) ev own=some (cs,v)) (hc:∀ c∈cs,c):QOk P B pl tb σ (.str op x y) evV v:=by
 simp only[gq] at h;split at h
 ·rename_i a b h1 h2;have e1:=KW h1 (af x);have e2:=KW h2 (af y);split at h
  ·obtain⟨rfl,rfl⟩:=Z4 h;have hw:a.length+b.length≤4611686018427387904:=hc _ (by simp);refine⟨.string (⟨a.toArray⟩++⟨b.toArray⟩),by simp only[Q4,e1,e2];rw[if_pos (by simpa [ByteArray.size] using hw)],?_⟩;have:(⟨a.toArray⟩:ByteArray)++⟨b.toArray⟩=⟨(a++b).toArray⟩:=by
    apply ByteArray.ext;simp
   rw[this];exact Pg _
  ·obtain⟨rfl,rfl⟩:=Z4 h;exact⟨_,by simp only[Q4,e1,e2]<;>rfl,Z_ _⟩
  ·obtain⟨rfl,rfl⟩:=Z4 h;exact⟨_,by simp only[Q4,e1,e2]<;>rfl,Z_ _⟩
  ·obtain⟨rfl,rfl⟩:=Z4 h;exact⟨_,by simp only[Q4,e1,e2]<;>rfl,Z_ _⟩
  ·cases h
 ·cases h
theorem Q7s (af:∀ x,SR P B pl tb (ev x) (evV x)) {neg:Bool}{x y:Operand}(h:gq kt raw (.eqB neg x y) ev own=some (cs,v)):QOk P B pl tb σ (.eqB neg x y) evV v:=by
 simp only[gq] at h;split at h
 ·rename_i a b h1 h2;have e1:=Xt h1 (af x);have e2:=Xt h2 (af y);obtain⟨rfl,rfl⟩:=Z4 h;exact⟨_,by simp only[Q4,e1,e2]<;>rfl,Z_ _⟩
 ·cases h
theorem Po {k:MK}{a b:SV}{r:Bool}{u w:Value}(h:F8 k a b=some r) (ha:SR P B pl tb a u) (hb:SR P B pl tb b w):Ek k u=true∧Ek k w=true∧K2 u w=r:=by
 cases k with
 |agg s=>cases h
 |int q =>
  simp only[F8] at h;split at h
  ·rename_i q1 x q2 y h1 h2;split at h
   ·rename_i hq;obtain⟨rfl,rfl⟩:=hq;obtain rfl:=osj h;rw[ZG h1 ha,ZG h2 hb];exact⟨by simp[Ek],by simp[Ek],rfl⟩
   ·cases h
  ·cases h
 |bool =>
  simp only[F8] at h;split at h
  ·rename_i x y h1 h2;obtain rfl:=osj h;rw[Xt h1 ha,Xt h2 hb];exact⟨rfl,rfl,rfl⟩
  ·cases h
 |string =>
  simp only[F8] at h;split at h
  ·rename_i x y h1 h2;obtain rfl:=osj h;rw[KW h1 ha,KW h2 hb];exact⟨rfl,rfl,rfl⟩
  ·cases h
theorem B9:∀ {s:List MK}{l m:List SV}{r:Bool}{us ws:List Value},Pe s l m=some r→SRs P B pl tb l us→SRs P B pl tb m ws→fits s us=true∧fits s ws=true∧Ql us ws=r
 |[],_,_,_,_,_,h,_,_=>by cases h
 |k::ks,[],_,_,_,_,h,_,_=>by simp[Pe] at h
 |k::ks,_::_,[],_,_,_,h,_,_=>by simp[Pe] at h
 |[k],a::l,b::m,r,us,ws,h,ha,hb=>by
  simp only[Pe] at h;split at h
  ·simp only[SRs] at ha hb;obtain⟨u,ll,rfl,h1,rfl⟩:=ha;obtain⟨w,sQ,rfl,h2,rfl⟩:=hb;obtain⟨f1,f2,f3⟩:=Po h h1 h2;simp[fits,Ql,f1,f2,f3]
  ·cases h
 |k::k'::ks,a::l,b::m,r,us,ws,h,ha,hb=>by
  simp only[Pe] at h;split at h
  ·rename_i x y hx hy;obtain rfl:=osj h;simp only[SRs] at ha hb;obtain⟨u,ll,rfl,h1,ie⟩:=ha;obtain⟨w,sQ,rfl,h2,lk⟩:=hb;obtain⟨f1,f2,f3⟩:=Po hx h1 h2;obtain⟨g1,g2,g3⟩:=B9 (s:=k'::ks) hy ie lk;rw[fits,fits,f1,f2,g1,g2,Ql,f3,g3];exact⟨rfl,rfl,rfl⟩
  ·cases h
theorem Q1i (af:∀ x,SR P B pl tb (ev x) (evV x)) {neg:Bool}{s:List MK}{x y:Operand}(h:gq kt raw (.ext (.eqAgg neg s x y)) ev own=some (cs,v)):QOk P B pl tb σ (.ext (.eqAgg neg s x y)) evV v:=by
 simp only[gq] at h;split at h
 ·rename_i l m h1 h2;obtain⟨b,hb,he⟩:=Option.map_eq_some_iff.1 h;obtain⟨rfl,rfl⟩:=(by cases he;exact⟨rfl,rfl⟩:[]=cs∧SV.val .bo (bif neg then !b else b)=v);have e1:=af x;have e2:=af y;rw[h1] at e1;rw[h2] at e2;simp only[SR] at e1 e2;obtain⟨us,e1,k1⟩:=e1;obtain⟨ws,e2,k2⟩:=e2;obtain⟨f1,f2,f3⟩:=B9 hb k1 k2;refine⟨.bool (if neg then !b else b),?_,by cases neg<;>exact Z_ _⟩;simp only[Q4,Zi,e1,e2];rw[if_pos ⟨by simpa using f1,by simpa using f2⟩];simp only[f3]
 ·cases h
theorem Z17 (af:∀ x,SR P B pl tb (ev x) (evV x)) {op:UnOp}{x:Operand}(h:gq kt raw (.un op x) ev own=some (cs,v)) (hc:∀ c∈cs,c):QOk P B pl tb σ (.un op x) evV v:=by
 simp only[gq] at h;split at h
 ·split at h
  ·rename_i b h1;obtain⟨rfl,rfl⟩:=Z4 h;exact⟨_,by simp only[Q4,Xt h1 (af x)]<;>rfl,Z_ _⟩
  ·cases h
 ·split at h
  ·rename_i k n h1;obtain⟨rfl,rfl⟩:=Z4 h;have hw:InK k (0-n):=hc _ (by simp);refine⟨_,by simp only[Q4,ZG h1 (af x)]<;>rfl,?_⟩;rw[hw.wrap];exact Xa _ _
  ·cases h
 ·split at h
  ·rename_i k n h1;obtain⟨rfl,rfl⟩:=Z4 h;exact⟨_,by simp only[Q4,ZG h1 (af x)]<;>rfl,Xa _ _⟩
  ·cases h
 ·cases h
theorem Q2l (af:∀ x,SR P B pl tb (ev x) (evV x)) {k:IntKind}{x:Operand}(h:gq kt raw (.convI k x) ev own=some (cs,v)) (hc:∀ c∈cs,c):QOk P B pl tb σ (.convI k x) evV v:=by
 simp only[gq] at h;split at h
 ·rename_i k' n h1;cases raw with
  |true =>obtain⟨rfl,rfl⟩:=Z4 h;exact⟨_,by simp only[Q4,ZG h1 (af x)]<;>rfl,Xa _ _⟩
  |false =>obtain⟨rfl,rfl⟩:=Z4 h;have hw:InK k n:=hc _ (by simp);refine⟨_,by simp only[Q4,ZG h1 (af x)]<;>rfl,?_⟩;rw[hw.wrap];exact Xa _ _
 ·cases h
theorem Q27 (af:∀ x,SR P B pl tb (ev x) (evV x)) {x:Operand}(h:gq kt raw (.convS x) ev own=some (cs,v)):QOk P B pl tb σ (.convS x) evV v:=by
 simp only[gq] at h;split at h
 ·rename_i s h1;obtain⟨rfl,rfl⟩:=Z4 h;exact⟨_,by simp only[Q4,KW h1 (af x)]<;>rfl,Pg _⟩
 ·cases h
theorem Q1s (af:∀ x,SR P B pl tb (ev x) (evV x)) {z:List Value}{ps:List (Nat×Nat×Operand)}(h:gq kt raw (.build z ps) ev own=some (cs,v)):QOk P B pl tb σ (.build z ps) evV v:=by
 simp only[gq] at h;split at h
 ·rename_i l h1;obtain⟨rfl,rfl⟩:=Z4 h;have hz:SRs P B pl tb (z.map cvp) (z.map id):=SRs.map fun x _=>Db x;rw[List.map_id] at hz;obtain⟨lV,h2,h3⟩:=HU af hz h1;refine⟨.agg lV.toArray,by simp only[Q4,h2],?_⟩;simp only[SR];exact⟨lV,rfl,h3⟩
 ·cases h
theorem Q66 (af:∀ x,SR P B pl tb (ev x) (evV x)) (hle:B.Le σ) (av:∀ d,OR P B pl tb σ (pl d) (Qc own d)) {agg:Bool}{size:Nat}{a:Operand}(h:gq kt raw (.load agg size a) ev own=some (cs,v)):QOk P B pl tb σ (.load agg size a) evV v:=by
 simp only[gq] at h;cases hb:Nat.blt 0 size with
 |false=>rw[hb] at h;cases h
 |true =>
  rw[hb] at h;simp only[_root_.cond_true,Option.map_eq_some_iff] at h;obtain⟨v',h1,h2⟩:=h;obtain⟨rfl,rfl⟩:=(by simpa only [Prod.mk.injEq] using h2:_=cs∧_=v);have hs:0<size:=by simpa [Nat.blt_eq] using hb
  obtain⟨i,o,c,e,wr,t,u,h3,h4,h5,h6⟩:=HE hle av hs h1 (af a);exact⟨u,by simp only[Q4,h3,h4,h5],h6⟩
theorem CU (af:∀ x,SR P B pl tb (ev x) (evV x)) {off:Nat}{a:Operand}(h:gq kt raw (.fieldAddr off a) ev own=some (cs,v)):QOk P B pl tb σ (.fieldAddr off a) evV v:=by
 have ha:=af a;simp only[gq] at h;split at h
 ·rename_i o f heq;obtain⟨rfl,rfl⟩:=Z4 h;rw[heq] at ha;simp only[SR] at ha;obtain⟨b,h1,h2⟩:=ha;refine⟨_,by simp only[Q4,h2]<;>rfl,?_⟩;simp only[SR];exact⟨b,h1,rfl⟩
 ·rename_i l f heq;obtain⟨rfl,rfl⟩:=Z4 h;rw[heq] at ha;simp only[SR] at ha;obtain⟨b,c,e,wr,t,h1,h2,h3⟩:=ha;refine⟨_,by simp only[Q4,h2]<;>rfl,?_⟩;simp only[SR];exact⟨b,c,e,wr,t,h1,rfl,h3⟩
 ·rename_i o i f sz heq;obtain⟨rfl,rfl⟩:=Z4 h;rw[heq] at ha;simp only[SR] at ha;obtain⟨b,len,cap,h1,h2,h3,h4⟩:=ha;refine⟨_,by simp only[Q4,h4]<;>rfl,?_⟩;simp only[SR];exact⟨b,len,cap,h1,h2,h3,by rw[Nat.add_assoc]⟩
 ·rename_i o w heq;rw[heq] at ha;simp only[SR] at ha;split at h
  ·obtain⟨rfl,rfl⟩:=Z4 h;obtain⟨b,len,cap,h1,h2,h3,h4⟩:=ha;refine⟨_,by simp only[Q4,h4]<;>rfl,?_⟩;simp only[SR,DR];exact⟨b,len,cap,h1,h2,h3,by rw[Nat.add_assoc]⟩
  ·obtain⟨rfl,rfl⟩:=Z4 h;obtain⟨b,len,cap,c,e,t,r,rl,rc,bw,re,rt,h1,h2,h3,h4,h5,h6,h7,h8,h9,bL,e_,jC⟩:=ha;refine⟨_,by simp only[Q4,jC]<;>rfl,?_⟩;simp only[SR,DR];exact⟨b,len,cap,c,e,t,r,rl,rc,bw,re,rt,h1,h2,h3,h4,h5,h6,h7,h8,h9,bL,e_,by rw[Nat.add_assoc]⟩
  ·obtain⟨rfl,rfl⟩:=Z4 h;obtain⟨b,o',c,e,wr,t,h1,h2,h3,h4,h5,h6⟩:=ha;refine⟨_,by simp only[Q4,h4]<;>rfl,?_⟩;simp only[SR,DR];exact⟨b,o',c,e,wr,t,h1,h2,h3,by rw[Nat.add_assoc],h5,h6⟩
  ·cases h
 ·rename_i k l i f heq;obtain⟨rfl,rfl⟩:=Z4 h;rw[heq] at ha;simp only[SR] at ha;obtain⟨b,o,c,e,wr,t,h1,h2,h3,h4,h5,h6⟩:=ha;refine⟨_,by simp only[Q4,h4]<;>rfl,?_⟩;simp only[SR];exact⟨b,o,c,e,wr,t,h1,h2,h3,by rw[Nat.add_assoc],h5,h6⟩
 ·cases h
theorem Q2m (af:∀ x,SR P B pl tb (ev x) (evV x)) {agg:Bool}{off size:Nat}{x:Operand}(h:gq kt raw (.field agg off size x) ev own=some (cs,v)):QOk P B pl tb σ (.field agg off size x) evV v:=by
 have ha:=af x;simp only[gq] at h;split at h
 ·rename_i l heq;rw[heq] at ha;simp only[SR] at ha;obtain⟨c,h1,h2⟩:=ha;simp only[Option.map_eq_some_iff] at h;obtain⟨v',h3,h4⟩:=h;obtain⟨rfl,rfl⟩:=(by simpa only [Prod.mk.injEq] using h4:_=cs∧_=v);obtain⟨u,h5,h6⟩:=Ju h2 h3;exact⟨u,by simp only[Q4,h1,h5],h6⟩
 ·cases h
theorem IG (af:∀ x,SR P B pl tb (ev x) (evV x)) {x:Operand}{i:Nat}(h:gq kt raw (.extract x i) ev own=some (cs,v)):QOk P B pl tb σ (.extract x i) evV v:=by
 have ha:=af x;simp only[gq] at h;split at h
 ·rename_i l heq;rw[heq] at ha;simp only[SR] at ha;obtain⟨c,h1,h2⟩:=ha;simp only[Option.map_eq_some_iff] at h;obtain⟨v',h3,h4⟩:=h;obtain⟨rfl,rfl⟩:=(by simpa only [Prod.mk.injEq] using h4:_=cs∧_=v);obtain⟨u,h5,h6⟩:=h2.get h3;exact⟨u,by simp only[Q4,h1,h5],h6⟩
 ·cases h
theorem Fm (af:∀ x,SR P B pl tb (ev x) (evV x)) {x:Operand}(h:gq kt raw (.nilCheck x) ev own=some (cs,v)):QOk P B pl tb σ (.nilCheck x) evV v:=by
 have ha:=af x;simp only[gq] at h;split at h
 ·rename_i o f heq;obtain⟨rfl,rfl⟩:=Z4 h;rw[heq] at ha;have hb:=ha;simp only[SR] at ha;obtain⟨b,h1,h2⟩:=ha;exact⟨_,by simp only[Q4,h2]<;>rfl,by rw[←h2];exact hb⟩
 ·rename_i l f heq;obtain⟨rfl,rfl⟩:=Z4 h;rw[heq] at ha;have hb:=ha;simp only[SR] at ha;obtain⟨b,c,e,wr,t,h1,h2,h3⟩:=ha;exact⟨_,by simp only[Q4,h2]<;>rfl,by rw[←h2];exact hb⟩
 ·rename_i f a b heq;obtain⟨rfl,rfl⟩:=Z4 h;rw[heq] at ha;have hb:=ha;simp only[SR] at ha;obtain⟨x1,y1,h1,h2,h3⟩:=ha;exact⟨_,by simp only[Q4,h1]<;>rfl,by rw[←h1];exact hb⟩
 ·cases h
theorem Er (af:∀ x,SR P B pl tb (ev x) (evV x)) {x i:Operand}(h:gq kt raw (.indexStr x i) ev own=some (cs,v)) (hc:∀ c∈cs,c):QOk P B pl tb σ (.indexStr x i) evV v:=by
 simp only[gq] at h;split at h
 ·rename_i s k j h1 h2;have e1:=KW h1 (af x);have e2:=ZG h2 (af i);obtain⟨rfl,rfl⟩:=Z4 h;have k1:0≤j:=hc _ (by simp);have k2:j<s.length:=hc _ (by simp);have k3:j.toNat<s.length:=by omega
  refine⟨.int .u8 (s[j.toNat].toNat:Int),by simp only[Q4,e1,e2,k1,if_true];simp[k3],?_⟩;have:s.getD j.toNat 0=s[j.toNat]:=by simp[List.getD_eq_getElem?_getD,k3]
  rw[this];exact Xa _ _
 ·cases h
theorem EN (af:∀ x,SR P B pl tb (ev x) (evV x)) (fz:∀ c,evV (.const c)=c) {len size:Nat}{agg:Bool}{x i:Operand}(h:gq kt raw (.indexArr len agg size x i) ev own=some (cs,v)):QOk P B pl tb σ (.indexArr len agg size x i) evV v:=by
 have ha:=af x;simp only[gq] at h;split at h
 ·rename_i l k j heq;split at h
  ·rename_i hj;rw[heq] at ha;simp only[SR] at ha;obtain⟨c,h1,h2⟩:=ha;simp only[Option.map_eq_some_iff] at h;obtain⟨v',h3,h4⟩:=h;obtain⟨rfl,rfl⟩:=(by simpa only [Prod.mk.injEq] using h4:_=cs∧_=v);obtain⟨u,h5,h6⟩:=Ju h2 h3;refine⟨u,?_,h6⟩;simp only[Q4,h1,fz];rw[if_pos ⟨by simp,by simpa using hj⟩];simp[h5]
  ·cases h
 ·cases h
theorem TV (af:∀ x,SR P B pl tb (ev x) (evV x)) (fz:∀ c,evV (.const c)=c) {len size:Nat}{x i:Operand}(h:gq kt raw (.indexAddrArr len size x i) ev own=some (cs,v)):QOk P B pl tb σ (.indexAddrArr len size x i) evV v:=by
 have ha:=af x;simp only[gq] at h;split at h
 ·rename_i o f k j heq;split at h
  ·rename_i hj;obtain⟨rfl,rfl⟩:=Z4 h;rw[heq] at ha;simp only[SR] at ha;obtain⟨b,h1,h2⟩:=ha;refine⟨.pointer (some ⟨b,f+j*size,none⟩),?_,?_⟩
   ·simp only[Q4,h2,fz];rw[if_pos ⟨by simp,by simpa using hj⟩];simp
   ·simp only[SR];exact⟨b,h1,rfl⟩
  ·cases h
 ·rename_i l f k j heq;split at h
  ·rename_i hj;obtain⟨rfl,rfl⟩:=Z4 h;rw[heq] at ha;simp only[SR] at ha;obtain⟨b,c,e,wr,t,h1,h2,h3⟩:=ha;refine⟨.pointer (some ⟨b,f+j*size,none⟩),?_,?_⟩
   ·simp only[Q4,h2,fz];rw[if_pos ⟨by simp,by simpa using hj⟩];simp
   ·simp only[SR];exact⟨b,c,e,wr,t,h1,rfl,h3⟩
  ·cases h
 ·cases h
theorem CN (af:∀ x,SR P B pl tb (ev x) (evV x)) (_hle:B.Le σ) (av:∀ d,OR P B pl tb σ (pl d) (Qc own d)) {size:Nat}{x i:Operand}(h:gq kt raw (.indexAddr size x i) ev own=some (cs,v)) (hc:∀ c∈cs,c):QOk P B pl tb σ (.indexAddr size x i) evV v:=by
 have ha:=af x;simp only[gq] at h;split at h
 ·rename_i o k' j heq hj;have ej:=ZG hj (af i);split at h
  ·rename_i ty k xs nl ho;split at h
   ·rename_i aB;obtain⟨rfl,rfl⟩:=Z4 h;have h0:0≤j:=hc _ (by simp);have h1:j<xs.length:=hc _ (by simp);rw[heq] at ha;simp only[SR] at ha;have ak:=av o;rw[ho] at ak;rcases ak with⟨_,rfl,_⟩|⟨_,b,cap,c,t,h2,h3,h4,h5,h6⟩
    ·simp at h1;omega
    ·refine⟨.pointer (some ⟨b,0+j.toNat*size,none⟩),?_,?_⟩
     ·simp only[Q4,ha.1,h2,ej];rw[if_pos ⟨h0,h1⟩]
     ·simp only[SR];exact⟨b,_,cap,h2,h0,h1,by simp⟩
   ·cases h
  ·cases h
 ·rename_i o w k' j heq hj;have ej:=ZG hj (af i);rw[heq] at ha;simp only[SR] at ha;have ak:=av o;split at h
  ·rename_i ty q k xs nl hole ho;rw[ho] at ak;split at h
   ·have key:(if k.size=size then some ([0≤j,j<xs.length],SV.dd o (.el j 0 size)) else none)=some (cs,v)→QOk P B pl tb σ (.indexAddr size x i) evV v:=by
     intro h;split at h
     ·rename_i aB;obtain⟨rfl,rfl⟩:=Z4 h;have h0:0≤j:=hc _ (by simp);have h1:j<xs.length:=hc _ (by simp);obtain⟨is,_,_,h2,_⟩:=ak;rcases h2 with⟨rfl,_⟩|⟨b,cap,c,t,js,h2,_⟩
      ·simp at h1;omega
      ·refine⟨.pointer (some ⟨b,0+j.toNat*size,none⟩),?_,?_⟩
       ·simp only[Q4,ha.1,h2,ej];rw[if_pos ⟨h0,h1⟩]
       ·simp only[SR,DR];exact⟨b,_,cap,h2,h0,h1,by simp⟩
     ·cases h
    split at h
    ·exact key h
    ·exact key h
   ·rename_i kr l ir;split at h
    ·rename_i aB;obtain⟨rfl,rfl⟩:=Z4 h;have h0:0≤j:=hc _ (by simp);have h1:j<l.length:=hc _ (by simp);obtain⟨sR,bP,b,len,cap,c,e,t,g1,g2,g3,g4,g5⟩:=ha;obtain⟨r,o',rc,bw,re,qJ,rt,k1,k2,k3,k4⟩:=Ak sR (j:=j.toNat) (by omega);obtain rfl:o'=0:=bP _ _ _ k1;obtain rfl:=OZ k2;refine⟨.pointer (some ⟨r,0+j.toNat*size,none⟩),?_,?_⟩
     ·simp only[Q4,k1,ej];rw[if_pos ⟨h0,h1⟩]
     ·simp only[SR,DR];exact⟨b,len,cap,c,e,t,r,l.length,rc,bw,re,rt,g1,g2,g3,g4,by rw[g5,k1],h0,h1,rfl,k2,by omega,by rw[List.drop_zero] at k4;exact k4,by simp[aB]⟩
    ·cases h
   ·rename_i kr l;split at h
    ·rename_i aB;obtain⟨rfl,rfl⟩:=Z4 h;have h0:0≤j:=hc _ (by simp);have h1:j<l.length:=hc _ (by simp);obtain⟨r,o',rc,bw,re,qJ,rt,k1,k2,k3,k4⟩:=Ak (show KC (Xf (pl o)) (.list kr) l [evV x] from ha) (j:=j.toNat) (by omega);refine⟨.pointer (some ⟨r,o'+j.toNat*size,none⟩),?_,?_⟩
     ·simp only[Q4,k1,ej];rw[if_pos ⟨h0,h1⟩]
     ·simp only[SR,DR];exact⟨r,o',bw,re,qJ,rt,h0,h1,k2,by simp[aB],k3,k4⟩
    ·cases h
   ·cases h
  ·cases h
 ·rename_i o lo n sz k' j heq hj;have ej:=ZG hj (af i);split at h
  ·rename_i ty k xs nl ho;split at h
   ·rename_i aB;obtain⟨aB,rfl⟩:=aB;obtain⟨rfl,rfl⟩:=Z4 h;have h0:0≤j:=hc _ (by simp);have h1:j<n:=hc _ (by simp);rw[heq] at ha;simp only[SR] at ha;rcases ha with⟨rfl,rfl,_,_⟩|⟨b,len,cap,ao,h2,h3,h4,h5⟩
    ·simp at h1;omega
    ·refine⟨.pointer (some ⟨b,lo*sz+j.toNat*sz,none⟩),?_,?_⟩
     ·simp only[Q4,h5,ej];rw[if_pos ⟨h0,h1⟩]
     ·simp only[SR];refine⟨b,len,cap,h2,by omega,by omega,?_⟩;have:((lo:Int)+j).toNat=lo+j.toNat:=by omega
      rw[this,Nat.add_mul,Nat.add_zero]
   ·cases h
  ·cases h
 ·rename_i k l k' j heq hj;have ej:=ZG hj (af i);split at h
  ·rename_i aB;obtain⟨rfl,rfl⟩:=Z4 h;have h0:0≤j:=hc _ (by simp);have h1:j<l.length:=hc _ (by simp);rw[heq] at ha;simp only[SR,KC] at ha;obtain⟨v',e,hs⟩:=ha;obtain e:=(List.cons.inj e).1;rcases hs with⟨rfl,_⟩|⟨b,o,cap,c,e',wr,t,h2,h3,h4,h5,h6,h7⟩
   ·simp at h1;omega
   ·refine⟨.pointer (some ⟨b,o+j.toNat*size,none⟩),?_,?_⟩
    ·simp only[Q4,e,h2,ej];rw[if_pos ⟨h0,h1⟩]
    ·simp only[SR];exact⟨b,o,c,e',wr,t,h0,h1,h4,by rw[aB,Nat.add_zero],h6,h7⟩
  ·cases h
 ·cases h
theorem Z7 (af:∀ x,SR P B pl tb (ev x) (evV x)) {x:Option Operand}{d:Nat}{a:Int}(h:W3 ev x d=some a) (ha:0≤a):Jp evV x d=some a.toNat:=by
 cases x with
 |none=>obtain rfl:=osj h;simp[Jp]
 |some x =>simp only[W3,Option.map_eq_some_iff] at h;obtain⟨⟨k,a'⟩,h1,h2⟩:=h;simp only at h2;subst h2;simp only[Jp,ZG h1 (af x),ha,if_true]
theorem EP (af:∀ x,SR P B pl tb (ev x) (evV x)) {x:Operand}{lo hi:Option Operand}(h:gq kt raw (.sliceStr x lo hi) ev own=some (cs,v)) (hc:∀ c∈cs,c):QOk P B pl tb σ (.sliceStr x lo hi) evV v:=by
 simp only[gq] at h;split at h
 ·rename_i s hs;have es:=KW hs (af x);split at h
  ·rename_i a b h1 h2;obtain⟨rfl,rfl⟩:=Z4 h;have k0:0≤a:=hc _ (by simp);have k1:a≤b:=hc _ (by simp);have k2:b≤s.length:=hc _ (by simp);have e1:=Z7 (evV:=evV) af h1 k0;have e2:=Z7 (evV:=evV) af h2 (by omega);have gS:(ByteArray.mk s.toArray).size=s.length:=by simp[ByteArray.size]
   refine⟨.string ((ByteArray.mk s.toArray).extract a.toNat b.toNat),?_,?_⟩
   ·simp only[Q4,es,gS,e1,e2];rw[if_pos (by omega)]
   ·have:(ByteArray.mk s.toArray).extract a.toNat b.toNat=⟨((s.drop a.toNat).take (b-a).toNat).toArray⟩:=by
     apply ByteArray.ext;simp[ByteArray.data_extract];rw[show (b-a).toNat=b.toNat-a.toNat by omega]
    rw[this];exact Pg _
  ·cases h
 ·cases h
theorem Q7c (af:∀ x,SR P B pl tb (ev x) (evV x)) (av:∀ d,OR P B pl tb σ (pl d) (Qc own d)) {x:Operand}(h:gq kt raw (.len x) ev own=some (cs,v)):QOk P B pl tb σ (.len x) evV v:=by
 simp only[gq] at h;split at h
 ·rename_i n h1;obtain⟨rfl,rfl⟩:=Z4 h;obtain⟨a,cap,e⟩:=Fc av h1 (af x);exact⟨.int .i64 n,by simp only[Q4,e],Xa _ _⟩
 ·cases h
theorem OQ (af:∀ x,SR P B pl tb (ev x) (evV x)) {x:Operand}(h:gq kt raw (.lenStr x) ev own=some (cs,v)):QOk P B pl tb σ (.lenStr x) evV v:=by
 simp only[gq] at h;split at h
 ·rename_i s h1;obtain⟨rfl,rfl⟩:=Z4 h;exact⟨.int .i64 s.length,by simp only[Q4,KW h1 (af x)];simp[ByteArray.size],Xa _ _⟩
 ·cases h
theorem Q87 (af:∀ x,SR P B pl tb (ev x) (evV x)) {x y:Operand}(h:gq kt raw (.max x y) ev own=some (cs,v)):QOk P B pl tb σ (.max x y) evV v:=by
 simp only[gq] at h;split at h
 ·rename_i k a k' b h1 h2;obtain⟨e1,e2⟩:=GB af h1 h2;split at h
  ·rename_i hk;subst hk;obtain⟨rfl,rfl⟩:=Z4 h;exact⟨.int k (GY a b),by simp only[Q4,e1,e2,if_true];rfl,Xa _ _⟩
  ·cases h
 ·cases h
theorem Q4h (af:∀ x,SR P B pl tb (ev x) (evV x)) {x y z w:Operand}(h:gq kt raw (.max4 x y z w) ev own=some (cs,v)):QOk P B pl tb σ (.max4 x y z w) evV v:=by
 simp only[gq] at h;split at h
 ·rename_i k a k2 b k3 c k4 d h1 h2 h3 h4;obtain⟨e1,e2⟩:=GB af h1 h2;obtain⟨e3,e4⟩:=GB af h3 h4;split at h
  ·rename_i hk;obtain⟨rfl,rfl,rfl⟩:=hk;obtain⟨rfl,rfl⟩:=Z4 h;exact⟨.int k (GY (GY (GY a b) c) d),by simp only[Q4,e1,e2,e3,e4,and_self,if_true];rfl,Xa _ _⟩
  ·cases h
 ·cases h
theorem Q7l (af:∀ x,SR P B pl tb (ev x) (evV x)) {x y:Operand}(h:gq kt raw (.min x y) ev own=some (cs,v)):QOk P B pl tb σ (.min x y) evV v:=by
 simp only[gq] at h;split at h
 ·rename_i k a k' b h1 h2;obtain⟨e1,e2⟩:=GB af h1 h2;split at h
  ·rename_i hk;subst hk;obtain⟨rfl,rfl⟩:=Z4 h;exact⟨.int k (Lj a b),by simp only[Q4,e1,e2,if_true];rfl,Xa _ _⟩
  ·cases h
 ·cases h
theorem Ee (af:∀ x,SR P B pl tb (ev x) (evV x)) {fn:Fn}{a b:List Operand}(h:gq kt raw (.makeFunc fn a b) ev own=some (cs,v)):QOk P B pl tb σ (.makeFunc fn a b) evV v:=by
 cases fn with
 |func f =>obtain⟨rfl,rfl⟩:=Z4 h;refine⟨.func (.func f) (a.map evV).toArray (b.map evV).toArray,by simp only[Q4],?_⟩;simp only[SR];exact⟨_,_,rfl,SRs.map fun x _=>af x,SRs.map fun x _=>af x⟩
 |_=>cases h
theorem SlRel.sl {h:Heap}{sz:Nat}{α:Type}{R:α→List Value→Prop}{l:List α}{v:Value}(hs:SlRel h sz R l v):∃ cs a cap,h.sl sz v=some cs∧Rows R l cs∧v=.slice a l.length cap:=by
 rcases hs with⟨rfl,rfl⟩|⟨i,o,cap,c,e,wr,t,rfl,h2,h3,h4,h5,h6⟩
 ·exact⟨[],_,_,rfl,.nil,rfl⟩
 ·refine⟨_,_,cap,?_,h6,rfl⟩;simp only[Heap.sl,h3];rw[if_pos ⟨h4,h5⟩]
theorem Lg {h:Heap}:∀ {xs:List Int}{cs:List Value},Rows (KC h (.i .u8)) xs cs→Bb cs=some ⟨(xs.map fun x=>x.toNat.toUInt8).toArray⟩:=by
 have key:∀ {xs:List Int}{cs:List Value},Rows (KC h (.i .u8)) xs cs→cs.mapM Cu=some (xs.map fun x=>x.toNat.toUInt8):=fun {xs cs} hr=>by
  induction hr with
  |nil=>rfl
  |@cons x xs c cs hx _ ih =>simp only[KC] at hx;subst hx;simp only[List.singleton_append,List.mapM_cons,Cu,ih,List.map_cons];rfl
 intro xs cs hr;simp only[Bb,key hr,Option.map_some]
theorem Fa (af:∀ x,SR P B pl tb (ev x) (evV x)) (hle:B.Le σ) (av:∀ d,OR P B pl tb σ (pl d) (Qc own d)) {x:Operand}(h:gq kt raw (.ext (.bytesStr x)) ev own=some (cs,v)):QOk P B pl tb σ (.ext (.bytesStr x)) evV v:=by
 simp only[gq] at h;split at h
 ·rename_i xs h1;obtain⟨rfl,rfl⟩:=Z4 h;obtain⟨cs,a,cap,h2,h3,h4⟩:=(Wg hle av h1 (af x)).sl;refine⟨.string ⟨(It xs).toArray⟩,?_,Pg _⟩;have aB:Kind.size (.i .u8)=1:=rfl;rw[h4,aB] at h2;simp only[Q4,Zi,h4,h2,Lg h3];rfl
 ·cases h
theorem Oh (af:∀ x,SR P B pl tb (ev x) (evV x)) (av:∀ d,OR P B pl tb σ (pl d) (Qc own d)) {neg:Bool}{x y:Operand}(h:gq kt raw (.ext (.eqNil 0 neg x y)) ev own=some (cs,v)) (hc:∀ c∈cs,c):QOk P B pl tb σ (.ext (.eqNil 0 neg x y)) evV v:=by
 have hx:=af x;have hy:=af y;simp only[gq] at h;split at h
 ·rename_i h1 h2;obtain⟨rfl,rfl⟩:=Z4 h;rw[h1] at hx;rw[h2] at hy;simp only[SR] at hx hy;exact⟨.bool (!neg),by simp only[Q4,Zi,hx,hy,Jj];cases neg<;>rfl,Z_ _⟩
 ·rename_i o f h1 h2;obtain⟨rfl,rfl⟩:=Z4 h;rw[h1] at hx;rw[h2] at hy;simp only[SR] at hx hy;obtain⟨b,_,hb⟩:=hx;exact⟨.bool neg,by simp only[Q4,Zi,hb,hy,Jj];cases neg<;>rfl,Z_ _⟩
 ·rename_i l f h1 h2;obtain⟨rfl,rfl⟩:=Z4 h;rw[h1] at hx;rw[h2] at hy;simp only[SR] at hx hy;obtain⟨b,c,e,wr,t,_,hb,_⟩:=hx;exact⟨.bool neg,by simp only[Q4,Zi,hb,hy,Jj];cases neg<;>rfl,Z_ _⟩
 ·rename_i o c h1 h2;obtain⟨rfl,rfl⟩:=Z4 h;rw[h1] at hx;rw[h2] at hy;simp only[SR,DR] at hx hy;rcases hx with⟨rfl,hb⟩|⟨rfl,b,_,hb⟩
  ·exact⟨.bool (bif neg then false else true),by simp only[Q4,Zi,hb,hy,Jj];cases neg<;>rfl,Z_ _⟩
  ·exact⟨.bool (bif neg then true else false),by simp only[Q4,Zi,hb,hy,Jj];cases neg<;>rfl,Z_ _⟩
 ·rename_i o c o' f h1 h2;split at h
  ·rename_i l u ho;split at h
   ·rename_i he;obtain⟨rfl,rfl⟩:=he;obtain⟨rfl,rfl⟩:=Z4 h;have sS:c=true:=hc _ (by simp);rw[h1] at hx;rw[h2] at hy;simp only[SR,DR] at hx hy;have ak:=av o;rw[ho] at ak;obtain⟨i,cc,e,t,hp,hg,_⟩:=ak;obtain⟨b',bp,hy⟩:=hy;rcases hx with⟨jh,_⟩|⟨_,b,dW,hb⟩
    ·rw[sS] at jh;cases jh
    ·rw[hp] at bp dW;simp only[phd,Value.pointer.injEq,Option.some.injEq] at bp dW;have e1:i=b':=by injection bp
     have e2:i=b:=by injection dW
     subst e1;subst e2;exact⟨.bool (!neg),by simp only[Q4,Zi,hb,hy,Jj,hg,Option.isSome_some,and_self,if_true];cases neg<;>rfl,Z_ _⟩
   ·cases h
  ·cases h
 ·cases h
theorem Fk (af:∀ x,SR P B pl tb (ev x) (evV x)) (av:∀ d,OR P B pl tb σ (pl d) (Qc own d)) {x:Operand}(h:gq kt raw (.ext (.toUnsafe x)) ev own=some (cs,v)):QOk P B pl tb σ (.ext (.toUnsafe x)) evV v:=by
 have hx:=af x;simp only[gq] at h;split at h
 ·rename_i o f h1;split at h
  ·rename_i l u ho;split at h
   ·rename_i hf;obtain⟨rfl,rfl⟩:=Z4 h;rw[h1] at hx;have px:=hx;simp only[SR] at hx;obtain⟨b,hp,hv⟩:=hx;have ak:=av o;rw[ho] at ak;obtain⟨i,c,e,t,dW,hg,hl,_⟩:=ak;rw[hp] at dW;have e1:b=i:=by simpa using dW
    subst e1;refine⟨.pointer (some ⟨b,f,none⟩),?_,by rw[←hv];exact px⟩;simp only[Q4,Zi,hv,hg];rw[if_pos (by rw[←hl.length];exact hf)]
   ·cases h
  ·cases h
 ·cases h
theorem Ca (af:∀ x,SR P B pl tb (ev x) (evV x)) (av:∀ d,OR P B pl tb σ (pl d) (Qc own d)) {u size:Nat}{x:Operand}(h:gq kt raw (.ext (.fromUnsafe u size x)) ev own=some (cs,v)):QOk P B pl tb σ (.ext (.fromUnsafe u size x)) evV v:=by
 have hx:=af x;simp only[gq] at h;split at h
 ·rename_i o f h1;split at h
  ·rename_i l t0 ho;split at h
   ·rename_i hf;obtain⟨rfl,rfl,aB⟩:=hf;obtain⟨rfl,rfl⟩:=Z4 h;rw[h1] at hx;have px:=hx;simp only[SR] at hx;obtain⟨b,hp,hv⟩:=hx;have ak:=av o;rw[ho] at ak;obtain⟨i,c,e,t,dW,hg,hl,hu⟩:=ak;obtain⟨he,ht⟩:=hu _ rfl;subst ht;rw[hp] at dW;have e1:b=i:=by simpa using dW
    subst e1;refine⟨.pointer (some ⟨b,0,none⟩),?_,by rw[←hv];exact px⟩;simp only[Q4,Zi,hv,hg];rw[if_pos ⟨trivial,he,by rw[←hl.length];exact aB⟩]
   ·cases h
  ·cases h
 ·cases h
theorem CX (af:∀ x,SR P B pl tb (ev x) (evV x)) (av:∀ d,OR P B pl tb σ (pl d) (Qc own d)) {x:Operand}(h:gq kt raw (.ext (.sliceData x)) ev own=some (cs,v)) (hc:∀ c∈cs,c):QOk P B pl tb σ (.ext (.sliceData x)) evV v:=by
 have hx:=af x;simp only[gq] at h;split at h
 ·rename_i h1;obtain⟨rfl,rfl⟩:=Z4 h;rw[h1] at hx;simp only[SR] at hx;exact⟨.pointer none,by simp only[Q4,Zi,hx],by simp[SR]⟩
 ·rename_i o h1;split at h
  ·rename_i ty k xs nl ho;obtain⟨rfl,rfl⟩:=Z4 h;have dy:nl=false→xs≠[]:=hc _ (by simp);rw[h1] at hx;simp only[SR] at hx;have ak:=av o;rw[ho] at ak;rcases ak with⟨_,_,hp⟩|⟨j6,i,cap,c,t,hp,cH,hg,_⟩
   ·refine⟨.pointer none,by simp only[Q4,Zi,hx.1,hp],?_⟩;simp only[SR,DR];exact .inl ⟨by rw[hp];rfl,trivial⟩
   ·have aF:=List.length_pos_iff.2 (dy j6);refine⟨.pointer (some ⟨i,0,none⟩),?_,?_⟩
    ·simp only[Q4,Zi,hx.1,hp,hg,Option.isSome_some,and_true];rw[if_pos (by omega)]
    ·simp only[SR,DR];exact .inr ⟨i,xs.length,cap,by rw[hp];rfl,aF,rfl⟩
  ·cases h
 ·cases h
theorem P0 {size:Nat}{i o len cap l h:Nat}{c:List Value}{e:El}{wr t:Bool}(hg:σ.get i=some (.cells c e wr t)) (he:e.sz=size) (h1:l≤h) (h2:h≤cap) :
  Y7 size σ (.slice (some ⟨i,o,none⟩) len cap) l h none=some (.slice (some ⟨i,o+l*size,none⟩) (h-l) (cap-l),σ):=by
 simp only[Y7,hg];rw[if_pos ⟨he,h1,h2⟩]
theorem Q59 {H:Heap}{k:Kind}{l:List k.T}{v:Value}(h:KC H (.list k) l [v]):∃ a c,v=.slice a l.length c:=by
 obtain⟨v',e,hs⟩:=h;obtain rfl:=(List.cons.inj e).1;rcases hs with⟨rfl,rfl⟩|⟨i,o,cap,c,e',wr,t,rfl,_⟩
 ·exact⟨_,_,rfl⟩
 ·exact⟨_,_,rfl⟩
theorem Az {H:Heap}(hle:H.Le σ) {k:Kind}{l:List k.T}{v:Value}{a b:Nat}(h:KC H (.list k) l [v]) (k1:a≤b) (k2:b≤l.length) :
  ∃ u,Y7 k.size σ v a b none=some (u,σ)∧KC H (.list k) ((l.drop a).take (b-a)) [u]:=by
 obtain⟨v',e,hs⟩:=h;obtain rfl:=(List.cons.inj e).1;rcases hs with⟨rfl,rfl⟩|⟨i,o,cap,c,e',wr,t,rfl,h4,h5,h6,h7,h8⟩
 ·simp only[List.length_nil] at k2;have za:a=0:=by omega
  have zb:b=0:=by omega
  subst za;subst zb;exact⟨.slice none 0 0,by simp only[Y7];rfl,_,rfl,.inl ⟨by simp,rfl⟩⟩
 ·have hlen:((l.drop a).take (b-a)).length=b-a:=by simp;omega
  refine⟨.slice (some ⟨i,o+a*k.size,none⟩) (b-a) (cap-a),P0 (hle.2 _ _ h5) h6 (by omega) (by omega),_,rfl,.inr ⟨i,o+a*k.size,cap-a,c,e',wr,t,by rw[hlen],by rw[hlen];omega,h5,h6,?_,?_⟩⟩
  ·rw[hlen];have:(a+(b-a))*k.size≤l.length*k.size:=Nat.mul_le_mul_right _ (by omega);rw[Nat.add_mul] at this;omega
  ·rw[hlen];have:=(h8.drop KC.rows_len a).take KC.rows_len (b-a);have e3:(((c.drop o).take (l.length*k.size)).drop (a*k.size)).take ((b-a)*k.size)=(c.drop (o+a*k.size)).take ((b-a)*k.size):=by
    apply List.ext_getElem?;intro j;simp only[List.getElem?_take,List.getElem?_drop];split
    ·have:(a+(b-a))*k.size≤l.length*k.size:=Nat.mul_le_mul_right _ (by omega);rw[Nat.add_mul] at this;rw[if_pos (by omega),Nat.add_assoc]
    ·rfl
   rw[e3] at this;exact this
theorem Q1f (af:∀ x,SR P B pl tb (ev x) (evV x)) (hle:B.Le σ) (av:∀ d,OR P B pl tb σ (pl d) (Qc own d)) {size:Nat}{x:Operand}{lo hi mx:Option Operand}(h:gq kt raw (.slice size x lo hi mx) ev own=some (cs,v)) (hc:∀ c∈cs,c):QOk P B pl tb σ (.slice size x lo hi mx) evV v:=by
 have ha:=af x;cases mx with
 |some m=>cases h
 |none =>
 simp only[gq] at h;split at h
 ·rename_i o heq;rw[heq] at ha;simp only[SR] at ha;have ak:=av o;split at h
  ·rename_i ty k xs nl ho;rw[ho] at ak;split at h
   ·rename_i aB;split at h
    ·rename_i a b h1 h2;obtain⟨rfl,rfl⟩:=Z4 h;have k0:0≤a:=hc _ (by simp);have k1:a≤b:=hc _ (by simp);have k2:b≤xs.length:=hc _ (by simp);have e1:=Z7 (evV:=evV) (d:=0) af h1 k0;have e2:=Z7 (evV:=evV) af h2 (by omega);rcases ak with⟨_,rfl,h3⟩|⟨_,i,cap,c,t,h3,h4,h5,h6,h7⟩
     ·simp only[List.length_nil] at k2 e2;have za:a.toNat=0:=by omega
      have zb:b.toNat=0:=by omega
      have zc:(b-a).toNat=0:=by omega
      refine⟨.slice none 0 0,?_,?_⟩
      ·simp only[Q4,ha.1,h3,e1,e2,za,zb,Y7];rfl
      ·rw[za,zc];simp only[SR];exact .inl ⟨trivial,trivial,trivial,h3⟩
     ·refine⟨.slice (some ⟨i,0+a.toNat*size,none⟩) (b.toNat-a.toNat) (cap-a.toNat),?_,?_⟩
      ·simp only[Q4,ha.1,h3,e1,e2];exact P0 h5 aB (by omega) (by omega)
      ·simp only[SR];refine .inr ⟨i,_,cap,cap-a.toNat,h3,by omega,by omega,?_⟩;rw[Nat.zero_add,show (b-a).toNat=b.toNat-a.toNat by omega]
    ·cases h
   ·cases h
  ·cases h
 ·rename_i o l0 n sz heq;rw[heq] at ha;simp only[SR] at ha;have ak:=av o;split at h
  ·rename_i ty k xs nl ho;rw[ho] at ak;split at h
   ·rename_i aB;obtain⟨aB,rfl⟩:=aB;split at h
    ·rename_i a b h1 h2;obtain⟨rfl,rfl⟩:=Z4 h;have k0:0≤a:=hc _ (by simp);have k1:a≤b:=hc _ (by simp);have k2:b≤n:=hc _ (by simp);have e1:=Z7 (evV:=evV) (d:=0) af h1 k0;have e2:=Z7 (evV:=evV) af h2 (by omega);rcases ha with⟨rfl,rfl,hv,hp⟩|⟨i,len,cap,ao,h3,h4,h5,hv⟩
     ·have za:a.toNat=0:=by omega
      have zb:b.toNat=0:=by omega
      have zc:(b-a).toNat=0:=by omega
      refine⟨.slice none 0 0,?_,?_⟩
      ·simp only[Q4,hv,e1,e2,za,zb,Y7];rfl
      ·rw[za,zc];simp only[SR];exact .inl ⟨trivial,trivial,trivial,hp⟩
     ·rcases ak with⟨_,_,h6⟩|⟨_,i',ek,c,t,h6,h7,h8,h9,bL⟩
      ·rw[h3] at h6;cases h6
      ·rw[h3] at h6;obtain⟨rfl,rfl,rfl⟩:=(by simpa using h6:i=i'∧len=xs.length∧cap=ek);refine⟨.slice (some ⟨i,l0*sz+a.toNat*sz,none⟩) (b.toNat-a.toNat) (ao-a.toNat),?_,?_⟩
       ·simp only[Q4,hv,e1,e2];exact P0 h8 aB (by omega) (by omega)
       ·simp only[SR];refine .inr ⟨i,_,cap,ao-a.toNat,h3,by omega,by omega,?_⟩;rw[Nat.add_mul,show (b-a).toNat=b.toNat-a.toNat by omega]
    ·cases h
   ·cases h
  ·cases h
 ·rename_i k l heq;rw[heq] at ha;simp only[SR] at ha;split at h
  ·rename_i aB;split at h
   ·rename_i a b h1 h2;obtain⟨rfl,rfl⟩:=Z4 h;have k0:0≤a:=hc _ (by simp);have k1:a≤b:=hc _ (by simp);have k2:b≤l.length:=hc _ (by simp);have e1:=Z7 (evV:=evV) (d:=0) af h1 k0;have e2:=Z7 (evV:=evV) af h2 (by omega);obtain⟨v',e⟩:=List.length_eq_one_iff.1 (KC.length ha);obtain⟨u,g1,g2⟩:=Az hle (a:=a.toNat) (b:=b.toNat) ha (by omega) (by omega);obtain⟨n,cap,e3⟩:=Q59 ha;refine⟨u,?_,?_⟩
    ·simp only[Q4,e3,e1,e2];rw[←aB,←e3];exact g1
    ·simp only[SR];rw[show (b-a).toNat=b.toNat-a.toNat by omega];exact g2
   ·cases h
  ·cases h
 ·rename_i o w heq;rw[heq] at ha;simp only[SR] at ha;have ak:=av o;split at h
  ·rename_i ty q k xs nl hole ho;rw[ho] at ak
   have key:∀ (k:Kind) (l:List k.T),KC (Xf (pl o)) (.list k) l [evV x]→(if k.size=size then (match W3 ev lo 0,W3 ev hi l.length with
     |some a,some b=>some ([0≤a,a≤b,b≤(l.length:Int)],SV.dd o (.inn k ((l.drop a.toNat).take (b-a).toNat)))
     |_,_=>none) else none)=some (cs,v)→QOk P B pl tb σ (.slice size x lo hi none) evV v:=by
    intro k l ha h;split at h
    ·rename_i aB;split at h
     ·rename_i a b h1 h2;obtain⟨rfl,rfl⟩:=Z4 h;have k0:0≤a:=hc _ (by simp);have k1:a≤b:=hc _ (by simp);have k2:b≤l.length:=hc _ (by simp);have e1:=Z7 (evV:=evV) (d:=0) af h1 k0;have e2:=Z7 (evV:=evV) af h2 (by omega);obtain⟨u,g1,g2⟩:=Az (DP.le ak) (a:=a.toNat) (b:=b.toNat) ha (by omega) (by omega);obtain⟨n,cap,e3⟩:=(T6 ha).len;refine⟨u,?_,?_⟩
      ·simp only[Q4,e3,e1,e2];rw[←aB,←e3];exact g1
      ·simp only[SR,DR];rw[show (b-a).toNat=b.toNat-a.toNat by omega];exact g2
     ·cases h
    ·cases h
   split at h
   ·exact key _ _ ha h
   ·exact key _ _ ha.1 h
   ·cases h
  ·cases h
 ·rename_i heq;rw[heq] at ha;simp only[SR] at ha;split at h
  ·rename_i a b h1 h2;obtain⟨rfl,rfl⟩:=Z4 h;have k0:a=0:=hc _ (by simp);have k1:b=0:=hc _ (by simp);subst k0;subst k1;have e1:=Z7 (evV:=evV) (d:=0) af h1 (Int.le_refl _);have e2:=Z7 (evV:=evV) (d:=0) af h2 (Int.le_refl _);refine⟨.slice none 0 0,?_,?_⟩
   ·simp only[Q4,ha,e1,e2,Y7];rfl
   ·simp only[SR]
  ·cases h
 ·cases h
theorem Q2d (af:∀ x,SR P B pl tb (ev x) (evV x)) {neg:Bool}{x y:Operand}(av:∀ d,OR P B pl tb σ (pl d) (Qc own d)) (h:gq kt raw (.ext (.eqNil 1 neg x y)) ev own=some (cs,v)) (hc:∀ c∈cs,c):QOk P B pl tb σ (.ext (.eqNil 1 neg x y)) evV v:=by
 have ha:=af x;have hb:=af y;simp only[gq] at h;split at h
 ·rename_i h1 h2;rw[h1] at ha;rw[h2] at hb;simp only[SR] at ha hb;obtain⟨rfl,rfl⟩:=Z4 h;refine⟨.bool (!neg),?_,Z_ _⟩;simp only[Q4,Zi,ha,hb,Jj];cases neg<;>rfl
 ·rename_i o h1 h2;rw[h1] at ha;rw[h2] at hb;simp only[SR] at ha hb;have ak:=av o;split at h
  ·rename_i ty k xs nl ho;rw[ho] at ak;obtain⟨rfl,rfl⟩:=Z4 h;refine⟨.bool (bif neg then !nl else nl),?_,Z_ _⟩;rcases ak with⟨rfl,_,h3⟩|⟨rfl,i,cap,c,t,h3,_⟩
   ·simp only[Q4,Zi,ha.1,h3,hb,Jj];cases neg<;>rfl
   ·simp only[Q4,Zi,ha.1,h3,hb,Jj];cases neg<;>rfl
  ·cases h
 ·rename_i o h1 h2;rw[h1] at ha;rw[h2] at hb;simp only[SR] at ha hb;have ak:=av o;split at h
  ·rename_i ty q k xs nl hole ho;rw[ho] at ak;obtain⟨rfl,rfl⟩:=Z4 h;refine⟨.bool (bif neg then !nl else nl),?_,Z_ _⟩;obtain⟨is,_,_,g2,_,_,g5⟩:=ak;obtain⟨e1,_⟩:=ha;rcases g2 with⟨_,h3,_⟩|⟨i,cap,c,t,js,h3,_⟩
   ·obtain rfl:=g5.2 h3;simp only[Q4,Zi,e1,h3,hb,Jj];cases neg<;>rfl
   ·have hn:nl=false:=by
     cases nl with
     |false=>rfl
     |true=>rw[g5.1 rfl] at h3;cases h3
    subst hn;simp only[Q4,Zi,e1,h3,hb,Jj];cases neg<;>rfl
  ·cases h
 ·rename_i k l h1 h2;rw[h1] at ha;rw[h2] at hb;simp only[SR] at ha hb;obtain⟨rfl,rfl⟩:=Z4 h;have hl:=hc (l≠[]) (by simp);refine⟨.bool neg,?_,Z_ _⟩;obtain⟨u,hu,hs⟩:=ha;obtain rfl:=(List.cons.inj hu).1;rcases hs with⟨e,_⟩|⟨i,o,cap,c,e,wr,t,h3,_⟩
  ·exact absurd e hl
  ·simp only[Q4,Zi,h3,hb,Jj];cases neg<;>rfl
 ·cases h
theorem Q0f (af:∀ x,SR P B pl tb (ev x) (evV x)) {mk:MK}{z:Value}{ok:Bool}{x i:Operand}(_hle:B.Le σ) (av:∀ d,OR P B pl tb σ (pl d) (Qc own d)) (h:gq kt raw (.ext (.lookup mk z ok x i)) ev own=some (cs,v)):QOk P B pl tb σ (.ext (.lookup mk z ok x i)) evV v:=by
 have ha:=af x;simp only[gq] at h;split at h
 ·rename_i o h1;rw[h1] at ha;simp only[SR] at ha;have ak:=av o;split at h
  ·rename_i kk vk m ho;rw[ho] at ak;obtain⟨id,es,clock,h2,h3,h4⟩:=ak;split at h
   ·rename_i bO;obtain⟨bO,hz⟩:=bO;split at h
    ·rename_i key bB;have hk:=Vd bB (af i) QE;have bE:=VO bO hk;have hall:=MR.keys bO h4.1;have py:KV B vk vk.dflt z:=Bs hz;have aD:σ.mapAt id=some (es,clock,true):=by simp[Heap.mapAt,h3]
     have aH:=MR.find bO hk py h4.1
     have base:∀ u,(match Qg (evV i) es with
      |some e=>some (if ok then Value.tuple #[e.2.1,.bool true] else e.2.1,σ)
      |none=>some (if ok then .tuple #[z,.bool false] else z,σ))=some (u,σ)→Q4 (.ext (.lookup mk z ok x i)) evV σ=some (u,σ):=fun u hu=>by
      simp only[Q4,Zi,bE,if_true,ha.1,h2,aD,hall];exact hu
     cases ok with
     |true =>
      simp only[if_true] at h;obtain⟨rfl,rfl⟩:=Z4 h;rcases aH with⟨e,k1,k2,k3⟩|⟨k1,k2,k3⟩
      ·refine⟨.tuple #[e.2.1,.bool true],base _ (by rw[k1];rfl),?_⟩;simp only[SR];refine⟨[e.2.1,.bool true],rfl,?_⟩;simp only[SRs,SR];exact⟨_,_,rfl,X1 k3,_,_,rfl,by simp[KC,k2],rfl⟩
      ·refine⟨.tuple #[z,.bool false],base _ (by rw[k1];rfl),?_⟩;simp only[SR];refine⟨[z,.bool false],rfl,?_⟩;simp only[SRs,SR];exact⟨_,_,rfl,by rw[k3];exact X1 py,_,_,rfl,by simp[KC,k2],rfl⟩
     |false =>
      simp only[Bool.false_eq_true,if_false] at h;obtain⟨rfl,rfl⟩:=Z4 h;rcases aH with⟨e,k1,k2,k3⟩|⟨k1,k2,k3⟩
      ·exact⟨e.2.1,base _ (by rw[k1];rfl),X1 k3⟩
      ·exact⟨z,base _ (by rw[k1];rfl),by rw[k3];exact X1 py⟩
    ·cases h
   ·cases h
  ·cases h
 ·cases h
theorem OY (af:∀ x,SR P B pl tb (ev x) (evV x)) {x:Operand}(av:∀ d,OR P B pl tb σ (pl d) (Qc own d)) (h:gq kt raw (.ext (.lenMap x)) ev own=some (cs,v)):QOk P B pl tb σ (.ext (.lenMap x)) evV v:=by
 have ha:=af x;simp only[gq] at h;split at h
 ·rename_i o h1;rw[h1] at ha;simp only[SR] at ha;have ak:=av o;split at h
  ·rename_i kk vk m ho;rw[ho] at ak;obtain⟨id,es,clock,h2,h3,h4⟩:=ak;obtain⟨rfl,rfl⟩:=Z4 h;have aD:σ.mapAt id=some (es,clock,true):=by simp[Heap.mapAt,h3]
   refine⟨.int .i64 es.length,by simp only[Q4,Zi,ha.1,h2,aD],?_⟩;rw[h4.1.length];exact Xa _ _
  ·cases h
 ·cases h
theorem MR.at {kk vk:Kind}:∀ {m:List (kk.T×vk.T)}{es:List JA}{r:Nat}{e:JA},MR B kk vk m es→es[r]?=some e→∃ h:r<m.length,KV B kk m[r].1 e.1∧KV B vk m[r].2 e.2.1
 |[],es,r,e,h,he=>by simp only[MR] at h;subst h;simp at he
 |x::m,es,r,e,h,he=>by
  obtain⟨e',bH,rfl,h1,h2,h3⟩:=h;cases r with
  |zero=>simp only[List.getElem?_cons_zero,Option.some.injEq] at he;subst he;exact⟨by simp,h1,h2⟩
  |succ r =>obtain⟨k1,k2,k3⟩:=MR.at h3 (by simpa using he);exact⟨by simpa using k1,k2,k3⟩
theorem Gx:∀ {k:Kind},k.keyk=true→∀ {x:k.T}{cs:List Value},KC B k x cs→cs.all QO=true
 |.pair a b,hk,x,cs,h=>by simp only[Kind.keyk,Bool.and_eq_true] at hk;obtain⟨c1,c2,rfl,h1,h2⟩:=h;rw[List.all_append,Gx hk.1 h1,Gx hk.2 h2];rfl
 |.i _,_,x,cs,h=>by simp only[KC] at h;subst h;rfl
 |.bo,_,x,cs,h=>by simp only[KC] at h;subst h;rfl
 |.st,_,x,cs,h=>by simp only[KC] at h;subst h;rfl
 |.list _,hk,_,_,_=>by cases hk
theorem C3 {k:Kind}(hk:k.keyk=true) {x:k.T}{v:Value}(h:KV B k x v):KS v=true:=by
 rcases h with⟨ho,h⟩|⟨ho,cs,rfl,h⟩
 ·have:=Gx hk h;rw[List.all_cons,Bool.and_eq_true] at this;have hp:=this.1;cases v<;>first|exact hp|cases hp
 ·show cs.toArray.toList.all QO=true;exact Gx hk h
theorem Gb {es:List JA}{clock:Nat}(h:SOk es clock) {r r':Nat}{e e':JA}(h1:es[r]?=some e) (h2:es[r']?=some e') (he:e.2.2=e'.2.2):r=r':=by
 obtain⟨k1,rfl⟩:=List.getElem?_eq_some_iff.1 h1;obtain⟨k2,rfl⟩:=List.getElem?_eq_some_iff.1 h2;have:=h.1;rw[List.nodup_iff_pairwise_ne,List.pairwise_iff_getElem] at this;rcases Nat.lt_trichotomy r r' with ah|ah|ah
 ·exact absurd (by rw[List.getElem_map,List.getElem_map];exact he) (this r r' (by simpa using k1) (by simpa using k2) ah)
 ·exact ah
 ·exact absurd (by rw[List.getElem_map,List.getElem_map];exact he.symm) (this r' r (by simpa using k2) (by simpa using k1) ah)
theorem Eu {es:List JA}{clock:Nat}(h:SOk es clock) {r:Nat}{e:JA}(h1:es[r]?=some e):es.find? (fun e'=>e'.2.2==e.2.2)=some e:=by
 obtain⟨k1,rfl⟩:=List.getElem?_eq_some_iff.1 h1;rw[List.find?_eq_some_iff_getElem];refine⟨by simp,r,k1,rfl,fun j hj=>?_⟩;have b7:j<es.length:=by omega
 simp only[Bool.not_eq_true',beq_eq_false_iff_ne];intro he;have:=Gb h (List.getElem?_eq_getElem b7) h1 he;omega
theorem Q26 (af:∀ x,SR P B pl tb (ev x) (evV x)) (hle:B.Le σ) (av:∀ d,OR P B pl tb σ (pl d) (Qc own d)) {x:Operand}(h:gq kt raw (.ext (.entry x)) ev own=some (cs,v)) (hc:∀ c∈cs,c):QOk P B pl tb σ (.ext (.entry x)) evV v:=by
 simp only[gq] at h;split at h
 ·rename_i o f h1;split at h
  ·rename_i kk vk m dn ho;split at h
   ·rename_i aj;obtain⟨rfl,hk,hv⟩:=aj;obtain⟨rfl,rfl⟩:=Z4 h;have mF:dn≠[]:=hc _ (by simp);have e1:=af x;rw[h1] at e1;simp only[SR] at e1;obtain⟨b,e2,e3⟩:=e1;have ak:=av o;rw[ho] at ak;obtain⟨j,i,es,clock,wr,seen,h2,h3,h4,h5,h6⟩:=ak;rw[h2] at e2;obtain rfl:j=b:=by simpa using e2
    have dV:0<dn.length:=List.length_pos_iff.2 mF;have di:dn[dn.length-1]?=some (dn.getLastD 0):=by rw[List.getLastD_eq_getLast?,List.getLast?_eq_getElem?];rw[List.getElem?_eq_getElem (show dn.length-1<dn.length by omega)];rfl
    obtain⟨e,jd,iD⟩:=h6.2 _ _ di;have k_:seen.getLast?=some e.2.2:=by rw[List.getLast?_eq_getElem?,h6.1];exact iD
    obtain⟨hr,k1,k2⟩:=MR.at h5.1 jd;have k2:=k2.kc hv;have aD:σ.mapAt i=some (es,clock,wr):=by simp[Heap.mapAt,hle.2 _ _ h4]
    have cG:=Eu h5.2 jd;refine⟨.tuple #[e.1,e.2.1],?_,?_⟩
    ·simp only[Q4,Zi,e3,h3,aD,k_,cG,if_true];rw[if_pos (C3 hk k1)]
    ·simp only[SR,SRs];refine⟨[e.1,e.2.1],rfl,e.1,[e.2.1],rfl,?_,e.2.1,[],rfl,?_,rfl⟩
     ·have:m.getD (dn.getLastD 0) (kk.dflt,vk.dflt)=m[dn.getLastD 0]:=by rw[List.getD_eq_getElem?_getD,List.getElem?_eq_getElem hr];rfl
      rw[this];exact X1 k1
     ·have:m.getD (dn.getLastD 0) (kk.dflt,vk.dflt)=m[dn.getLastD 0]:=by rw[List.getD_eq_getElem?_getD,List.getElem?_eq_getElem hr];rfl
      rw[this];exact k2
   ·cases h
  ·cases h
 ·cases h
theorem Se (af:∀ x,SR P B pl tb (ev x) (evV x)) (fz:∀ c,evV (.const c)=c) (hle:B.Le σ) (av:∀ d,OR P B pl tb σ (pl d) (Qc own d)) {o:VOp}(h:gq kt raw o ev own=some (cs,v)) (hc:∀ c∈cs,c):QOk P B pl tb σ o evV v:=by
 cases o with
 |move x=>obtain⟨rfl,rfl⟩:=Z4 h;exact⟨evV x,rfl,af x⟩
 |arith=>exact Q29 af h hc
 |div=>exact Q86 af h hc
 |bits=>exact Q5d af h
 |shift=>exact Q1o af h hc
 |cmp=>exact Q8j af h
 |str=>exact Q7q af h hc
 |eqB=>exact Q7s af h
 |un=>exact Z17 af h hc
 |convI=>exact Q2l af h hc
 |convS=>exact Q27 af h
 |build=>exact Q1s af h
 |load=>exact Q66 af hle av h
 |fieldAddr=>exact CU af h
 |field=>exact Q2m af h
 |indexAddr=>exact CN af hle av h hc
 |indexAddrArr=>exact TV af fz h
 |indexStr=>exact Er af h hc
 |indexArr=>exact EN af fz h
 |slice=>exact Q1f af hle av h hc
 |sliceStr=>exact EP af h hc
 |len=>exact Q7c af av h
 |lenStr=>exact OQ af h
 |max=>exact Q87 af h
 |max4=>exact Q4h af h
 |min=>exact Q7l af h
 |makeFunc=>exact Ee af h
 |extract=>exact IG af h
 |nilCheck=>exact Fm af h
 |ext x =>
  cases x with
  |eqNil k neg a b =>
   match k with
   |1=>exact Q2d af av h hc
   |0=>exact Oh af av h hc
   |(n+2)=>cases h
  |eqAgg n s a b=>exact Q1i af h
  |toUnsafe a=>exact Fk af av h
  |fromUnsafe u size a=>exact Ca af av h
  |sliceData a=>exact CX af av h hc
  |bytesStr a=>exact Fa af hle av h
  |lookup=>exact Q0f af hle av h
  |lenMap=>exact OY af av h
  |entry a=>exact Q26 af hle av h hc
  |_=>cases h
 |_=>cases h
end
end
end Go.V