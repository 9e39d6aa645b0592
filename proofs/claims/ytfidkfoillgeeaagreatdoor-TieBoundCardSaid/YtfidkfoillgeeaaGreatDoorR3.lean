/- A framework for walks, contracts of functions, and their proofs: part 3. -/
import Derived.Test.YtfidkfoillgeeaaGreatDoorProg
import Derived.Laws.Closers25b
import Derived.Test.YtfidkfoillgeeaaGreatDoorR2
noncomputable section
namespace Go.V
open Go
structure FRel (e:ET) (env:Env):Prop where
 m:e.m=List.length env
 sm:e.m≤1000000
 get:∀ i,env.getD i undef=e.get i
theorem ET.get_lt {e:ET}{i:Nat}(hi:i<e.m):e.get i=e.t.get undef i:=by unfold ET.get;rw[show Nat.blt i e.m=true from Nat.ble_eq_true_of_le hi]
theorem ET.get_ge {e:ET}{i:Nat}(hi:e.m≤i):e.get i=undef:=by
 unfold ET.get;cases hb:Nat.blt i e.m with
 |false=>rfl
 |true=>have:=Nat.le_of_ble_eq_true hb;omega
theorem ET.set_lt {e:ET}{i:Nat}{v:Value}(hi:i<e.m):e.set i v=⟨e.t.set undef 32 i v,e.m⟩:=by unfold ET.set;rw[show Nat.blt i e.m=true from Nat.ble_eq_true_of_le hi]
theorem ET.set_ge {e:ET}{i:Nat}{v:Value}(hi:e.m≤i):e.set i v=e:=by
 unfold ET.set;cases hb:Nat.blt i e.m with
 |false=>rfl
 |true=>have:=Nat.le_of_ble_eq_true hb;omega
theorem ET.set_m (e:ET) (i:Nat) (v:Value):(e.set i v).m=e.m:=by
 rcases Nat.lt_or_ge i e.m with h|h
 ·rw[ET.set_lt h]
 ·rw[ET.set_ge h]
theorem ET.get_set {e:ET}(hs:e.m≤1000000) (i:Nat) (v:Value) (j:Nat):(e.set i v).get j=if j=i∧i<e.m then v else e.get j:=by
 rcases Nat.lt_or_ge i e.m with hi|hi
 ·rw[ET.set_lt hi];rcases Nat.lt_or_ge j e.m with hj|hj
  ·rw[ET.get_lt (e:=⟨e.t.set undef 32 i v,e.m⟩) hj,ET.get_lt hj];show (e.t.set undef 32 i v).get undef j=_;rw[GT.get_set undef 32 _ _ _ _ (by omega)];by_cases h:j=i
   ·rw[if_pos h,if_pos ⟨h,hi⟩]
   ·rw[if_neg h,if_neg (fun e=>h e.1)]
  ·rw[ET.get_ge (e:=⟨e.t.set undef 32 i v,e.m⟩) hj,ET.get_ge hj,if_neg (by rintro⟨rfl,_⟩;omega)]
 ·rw[ET.set_ge hi,if_neg (by rintro⟨_,h⟩;omega)]
theorem FRel.set {e:ET}{env:Env}(h:FRel e env) (i:Nat) (v:Value):FRel (e.set i v) (env.set i v):=by
 refine⟨by rw[ET.set_m,List.length_set];exact h.m,by rw[ET.set_m];exact h.sm,fun j=>?_⟩;rw[ET.get_set h.sm,←h.get,List.getD_eq_getElem?_getD,List.getD_eq_getElem?_getD,List.getElem?_set,h.m];by_cases cm:i=j
 ·subst cm;rcases Nat.lt_or_ge i (List.length env) with hi|hi
  ·rw[if_pos rfl,if_pos hi,if_pos ⟨rfl,hi⟩];rfl
  ·rw[if_pos rfl,if_neg (by omega),if_neg (by rintro⟨_,h⟩;omega),List.getElem?_eq_none hi]
 ·rw[if_neg cm,if_neg (fun e=>cm e.1.symm)]
theorem FRel.put {e:ET}{env:Env}(h:FRel e env) (d:Option Nat) (v:Value):FRel (e.put d v) (Js env d v):=by
 cases d with
 |none=>exact h
 |some d=>exact h.set d v
theorem GZ {e:ET}{env:Env}(h:FRel e env):N4 e=Q5 env:=by
 funext x
 cases x with
 |tmp t=>exact(h.get t).symm
 |_=>rfl
theorem C4 {e:ET}{env:Env}(h:FRel e env) (g:Option (Nat×Bool)):FB e g=Zl env g:=by
 cases g with
 |none=>rfl
 |some p =>obtain⟨d,w⟩:=p;simp only[FB,Zl,h.get];cases e.get d<;>rfl
theorem Hk:∀ (ps:List Nat) (vs:List Value) {e:ET}{env:Env},FRel e env→FRel (Q01 e ps vs) (Da env ps vs)
 |[],vs,e,env,h=>by cases vs<;>exact h
 |p::ps,[],e,env,h=>h
 |p::ps,v::vs,e,env,h=>Hk ps vs (h.set p v)
theorem Es:∀ (l:List Value) (i:Nat) (t:GT Value) (j:Nat),i+l.length≤1000000→(etL l i t).get undef j=if i≤j∧j<i+l.length then l.getD (j-i) undef else t.get undef j
 |[],i,t,j,_=>by rw[if_neg (by simp only[List.length_nil];omega)];rfl
 |v::l,i,t,j,h=>by
  have h:i+(l.length+1)≤1000000:=h;show (etL l (i+1) (t.set undef 32 i v)).get undef j=_;rw[Es l (i+1) _ j (by omega),GT.get_set undef 32 _ _ _ _ (by omega)];by_cases aM:j=i
  ·subst aM;rw[if_neg (by omega),if_pos rfl,if_pos (by simp)];simp
  ·by_cases hc:i+1≤j∧j<i+1+l.length
   ·rw[if_pos hc,if_pos (by simp;omega),show j-i=j-(i+1)+1 by omega];rfl
   ·rw[if_neg hc,if_neg aM,if_neg (by simp;omega)]
theorem ET.of_rel {args:List Value}{nt:Nat}(h:(ET.of args nt).m≤1000000):FRel (ET.of args nt) (args++List.replicate (nt-args.length) undef):=by
 refine⟨by simp[ET.of],h,fun i=>?_⟩;have hm:(ET.of args nt).m=args.length+(nt-args.length):=rfl;rw[hm] at h;rcases Nat.lt_or_ge i (ET.of args nt).m with hi|hi
 ·rw[ET.get_lt hi];show _=(etL args 0 .nil).get undef i;rw[Es _ _ _ _ (by omega),List.getD_eq_getElem?_getD,List.getElem?_append];rw[hm] at hi;by_cases hl:i<args.length
  ·rw[if_pos hl,if_pos (by omega)];simp[List.getD_eq_getElem?_getD]
  ·rw[if_neg hl,if_neg (by omega),List.getElem?_replicate,if_pos (by omega)];rfl
 ·rw[ET.get_ge hi];rw[hm] at hi;rw[List.getD_eq_getElem?_getD,List.getElem?_eq_none (by simp;omega)];rfl
def QJ (P:Program) (f:FuncId) (m:Memo):Prop :=
 VCalled P f m.args (Ja m.bl []) (fun u τ=>u=m.v∧τ=Ja m.bl m.fr)∧(∀ b∈m.bl,b.c.all Qv=true)∧∀ b∈m.fr,b.c.all Qv=true
structure TabOk (P:Program) (T:Tab):Prop where
 code:∀ f vc rs nt,T f=some (.code vc rs nt)→Fun P f vc rs nt
 codeJ:∀ f vc rs nt,T f=some (.codeJ vc rs nt)→Fun P f vc rs nt
 codeM:∀ f vc rs nt ms,T f=some (.codeM vc rs nt ms)→Fun P f vc rs nt∧∀ m∈ms,QJ P f m
 same:∀ f,T f=some .same→∀ (v:Value) (σ:Heap) (K:Value→Heap→Prop),K v σ→VCalled P f [v] σ K
section
variable {P:Program}{T:Tab}{ev:Q3r}
abbrev Ka:=Nat→Env×Loop
def YOk (P:Program) (ys:Ys) (rs:Ka) (n:Nat):Prop :=
 ∀ i c,ys.find i=some c→i<n∧FRel c.env (rs i).1∧YR P i (L5 (vwp (Q2 P) c.a (some i)) (vwp (Q2 P) c.b (some i)) c.ps (rs i).1 (rs i).2 i)
theorem YOk.mono {ys:Ys}{rs bn:Ka}{n n':Nat}(h:YOk P ys rs n) (hn:n≤n') (hr:∀ i,i<n→bn i=rs i):YOk P ys bn n':=fun i c hc=>by obtain⟨h1,h2,h3⟩:=h i c hc;rw[hr i h1];exact⟨by omega,h2,h3⟩
def Q3o {A:Type}(G:A→Prop) (rs:Ka) (h:CH) (k:Value→CH→A) (K:Value→Heap→Prop):Prop :=
 ∀ v h' bn σ',h.n≤h'.n→(∀ i,i<h.n→bn i=rs i)→CSim bn h' σ'→G (k v h')→K v σ'
def O6 {A:Type}(G:A→Prop) (rs:Ka) (h:CH) (m:Nat) (k:Exit→ET→CH→A) (Q:Exit→Env→Heap→Prop):Prop :=
 ∀ e dB h' bn σ' ah,h.n≤h'.n→(∀ i,i<h.n→bn i=rs i)→CSim bn h' σ'→FRel dB ah→List.length ah=m→G (k e dB h')→Q e ah σ'
def Od {A:Type}(G:A→Prop) (rs:Ka) (h:CH) (m:Nat) (k:ET→CH→A) (K:Env→Heap→Prop):Prop :=
 ∀ dB h' bn σ' ah,h.n≤h'.n→(∀ i,i<h.n→bn i=rs i)→CSim bn h' σ'→FRel dB ah→List.length ah=m→G (k dB h')→K ah σ'
def Sd (P:Program) (ev:Q3r):Prop:=∀ {A:Type}(R:AnsOps A) (G:A→Prop),Good R G→∀ (ys:Ys) (c:VCode) (ro:Option Nat) (et:ET) (env:Env) (h:CH) (k:Exit→ET→CH→A) (rs:Ka) (σ:Heap) (Q:Exit→Env→Heap→Prop),
 YOk P ys rs h.n→CSim rs h σ→FRel et env→G (ev R ys c ro et h k)→O6 G rs h (List.length env) k Q→vwp (Q2 P) c ro Q env σ
theorem M1 {rs:Ka}{h:CH}{σ:Heap}(hs:CSim rs h σ) {et:ET}{env:Env}(hE:FRel et env) {r:VResult}{v:Value}(hr:DJ et h r=some v):ZO env σ r=some v:=by
 cases r with
 |tmp t=>simp only[DJ] at hr;simp only[ZO,hE.get];exact hr
 |cell a agg size =>
  simp only[DJ] at hr;split at hr
  ·rename_i p hp;rw[←hE.get] at hp;obtain⟨_,σ',h1,_⟩:=Yl (o:=.load agg size (.tmp a)) (ev:=Q5 env) hs hp;simp only[ZO,h1,Option.map_some];exact hr
  ·cases hr
theorem UD {rs:Ka}{h:CH}{σ:Heap}(hs:CSim rs h σ) {et:ET}{env:Env}(hE:FRel et env):∀ (l:List VResult) (vs:List Value),M4 et h l=some vs→l.mapM (ZO env σ)=some vs
 |[],vs,hr=>by simp[M4] at hr;subst hr;rfl
 |r::l,vs,hr=>by
  simp only[M4] at hr;split at hr
  ·cases hr
  ·rename_i v hv;split at hr
   ·cases hr
   ·rename_i ws hw;obtain rfl:=osj hr;rw[List.mapM_cons,M1 hs hE hv];simp[UD hs hE l ws hw]
theorem Uz {rs:Ka}{h:CH}{σ:Heap}(hs:CSim rs h σ) {et:ET}{env:Env}(hE:FRel et env) {l:List VResult}{v:Value}(hr:U4 et h l=some v):J4 env σ l=some v:=by
 unfold U4 at hr;split at hr
 ·exact M1 hs hE hr
 ·rename_i aF;split at hr
  ·rename_i vs cD;unfold J4;split
   ·rename_i r;exact absurd rfl (aF r)
   ·rw[UD hs hE _ _ cD];exact hr
  ·cases hr
variable {A:Type}{R:AnsOps A}{G:A→Prop}
theorem VU (hG:Good R G) {rl:List VResult}{k:Value→CH→A}{rs:Ka}{h:CH}{σ:Heap}{K:Value→Heap→Prop}{m:Nat}(hk:Q3o G rs h k K):O6 G rs h m (Q16 R.fail rl k) (Q6r σ rl K):=by
 intro e dB h' bn σ' ah hn hr aX bY _ hg;have fin:G (match U4 dB h' rl with|some v=>k v h'|none=>R.fail)→QR (J4 ah σ' rl) fun v=>∃ v' aL,DropTo σ v σ' v' aL∧K v' aL:=by
  intro hg;split at hg
  ·rename_i v hv;rw[Uz aX bY hv];exact⟨v,σ',.refl _ _ _,hk v h' bn σ' hn hr aX hg⟩
  ·exact(hG.fail hg).elim
 cases e with
 |normal=>exact fin hg
 |ret=>exact fin hg
 |_=>exact(hG.fail hg).elim
def CH.toHeap (rs:Ka) (h:CH):Heap:=⟨fun i=>(h.get i).map (EB.to (rs i)),h.n,fun i hi=>by rw[CH.get_ge hi];rfl⟩
theorem Mw {rs:Ka}{h:CH}(hr:h.n≤1000000001):CSim rs h (h.toHeap rs):=⟨rfl,hr,fun _=>rfl⟩
theorem CSim.eq {rs:Ka}{h:CH}{σ:Heap}(hs:CSim rs h σ):σ=h.toHeap rs:=Heap.ext' (fun j=>hs.get j) hs.n.symm
def AE (x:Value×CH) (a:Option (Value×CH)):Prop:=∃ y,a=some y∧y.1=x.1∧y.2.n=x.2.n∧∀ i,y.2.get i=x.2.get i
theorem LF {h h':CH}(hs:h.same h'=true):h.n=h'.n∧∀ i,h.get i=h'.get i:=by
 simp only[CH.same,Bool.and_eq_true,List.all_eq_true,List.mem_range,Nat.beq_eq] at hs;refine⟨hs.1,fun i=>?_⟩;rcases Nat.lt_or_ge i h.n with hi|hi
 ·have:=hs.2 i hi;split at this
  ·rename_i h1 h2;rw[h1,h2]
  ·rename_i a b h1 h2;rw[h1,h2,EB.beq_eq this]
  ·cases this
 ·rw[CH.get_ge hi,CH.get_ge (by rw[←hs.1];exact hi)]
theorem PT (x:Value×CH):Good joinOps (AE x):=by
 refine⟨fun ⟨y,h,_⟩=>(by cases h),fun a b h=>?_⟩;obtain⟨y,h1,h2,h3,h4⟩:=h;cases a with
 |none=>cases h1
 |some xa =>
  cases b with
  |none=>cases h1
  |some xb =>
   simp only[joinOps] at h1;split at h1
   ·rename_i hc;obtain rfl:=osj h1;have e1:=V1 _ _ _ hc.1;obtain⟨e2,e3⟩:=LF hc.2;exact⟨⟨xa,rfl,h2,h3,h4⟩,xb,rfl,by rw[←e1];exact h2,by rw[←e2];exact h3,fun i=>by rw[←e3 i];exact h4 i⟩
   ·cases h1
theorem F_ {b:EB}{q:Env×Loop}(h:b.plainE=true):(b.to q).plain=true∧∀ q',b.to q'=b.to q:=by cases b<;>first|exact⟨h,fun _=>rfl⟩|cases h
def gcP (n0:Nat) (refs:List Nat) (i:Nat):Nat:=if i<n0 then i else refs.getD (i-n0) 0
def RExt (n0:Nat) (a b:List Nat):Prop:=(∃ t,b=a++t∧∀ x∈t,n0≤x)∧(a.Nodup→b.Nodup)
theorem RExt.refl (n0:Nat) (a:List Nat):RExt n0 a a:=⟨⟨[],by simp,fun x hx=>by cases hx⟩,id⟩
theorem RExt.trans {n0:Nat}{a b c:List Nat}(h:RExt n0 a b) (k:RExt n0 b c):RExt n0 a c:=by obtain⟨⟨t,rfl,ht⟩,h2⟩:=h;obtain⟨⟨u,rfl,hu⟩,k2⟩:=k;exact⟨⟨t++u,by simp,fun x hx=>(List.mem_append.1 hx).elim (ht x) (hu x)⟩,fun h=>k2 (h2 h)⟩
def Sub (a b:List Nat):Prop:=∃ t,b=a++t
theorem Sub.trans {a b c:List Nat}(h:Sub a b) (k:Sub b c):Sub a c:=by obtain⟨t,rfl⟩:=h;obtain⟨u,rfl⟩:=k;exact⟨t++u,by simp⟩
theorem RExt.sub {n0:Nat}{a b:List Nat}(h:RExt n0 a b):Sub a b:=by obtain⟨⟨t,h,_⟩,_⟩:=h;exact⟨t,h⟩
theorem Pg (n0:Nat) (refs:List Nat) (i:Nat):RExt n0 refs (gcI n0 refs i).2∧∀ (all:List Nat),Sub (gcI n0 refs i).2 all→(gcI n0 refs i).1<n0+all.length∧gcP n0 all (gcI n0 refs i).1=i:=by
 unfold gcI;split
 ·rename_i hi;exact⟨RExt.refl _ _,fun all _=>⟨by simp only;omega,by simp[gcP,hi]⟩⟩
 ·rename_i hi;split
  ·rename_i hc;have hm:i∈refs:=by simpa using hc
   have ai:=List.idxOf_lt_length_of_mem hm;refine⟨RExt.refl _ _,fun all ⟨t,ht⟩=>?_⟩;simp only at ht;have bZ:refs.idxOf i<all.length:=by rw[ht,List.length_append];omega
   refine⟨by simp only;omega,?_⟩;simp only[gcP,if_neg (show ¬ n0+refs.idxOf i<n0 by omega),show n0+refs.idxOf i-n0=refs.idxOf i by omega,List.getD_eq_getElem?_getD];rw[ht,List.getElem?_append_left ai,List.getElem?_eq_getElem ai];simp
  ·rename_i hc;have hm:i∉refs:=by simpa using hc
   refine⟨⟨⟨[i],rfl,fun x hx=>by simp at hx;omega⟩,fun h1=>List.nodup_append.2 ⟨h1,by simp,fun a ha b hb=>by simp at hb;subst hb;rintro rfl;exact hm ha⟩⟩,fun all ⟨t,ht⟩=>?_⟩;simp only at ht;have ai:refs.length<all.length:=by rw[ht];simp
   refine⟨by simp only;omega,?_⟩;simp only[gcP,if_neg (show ¬ n0+refs.length<n0 by omega),show n0+refs.length-n0=refs.length by omega];simp[ht,List.getD_eq_getElem?_getD]
def Q5j (n0:Nat) (refs fy:List Nat) (v' v:Value):Prop:=RExt n0 refs fy∧∀ (all:List Nat),Sub fy all→Ren (n0+all.length) (gcP n0 all) v' v
def Q70 (n0:Nat) (refs fy:List Nat) (v' v:List Value):Prop:=RExt n0 refs fy∧∀ (all:List Nat),Sub fy all→LRen (n0+all.length) (gcP n0 all) v' v
theorem WY {n0:Nat}{g:List Nat→Value→Option (Value×List Nat)}(hg:∀ refs v p,g refs v=some p→Q5j n0 refs p.2 p.1 v):∀ (vs:List Value) (refs:List Nat) (p:List Value×List Nat),Ir g vs refs=some p→Q70 n0 refs p.2 p.1 vs
 |[],refs,p,h=>by obtain rfl:=osj h;exact⟨RExt.refl _ _,fun all _=>⟨rfl,fun i a b ha=>by simp at ha⟩⟩
 |v::vs,refs,p,h=>by
  simp only[Ir] at h;split at h
  ·cases h
  ·rename_i p1 h1;split at h
   ·cases h
   ·rename_i p2 h2;obtain rfl:=osj h;obtain⟨a1,a2⟩:=hg _ _ _ h1;obtain⟨b1,b2⟩:=WY hg vs _ _ h2;refine⟨a1.trans b1,fun all hall=>?_⟩;have c1:=a2 all (b1.sub.trans hall);have c2:=b2 all hall;refine⟨by simp[c2.1],fun i a b ha hb=>?_⟩;cases i with
    |zero=>simp at ha hb;subst ha;subst hb;exact c1
    |succ i=>exact c2.2 i a b (by simpa using ha) (by simpa using hb)
theorem LRen.agg {n:Nat}{π:Nat→Nat}{cT:List Value}{cs:Array Value}(h:LRen n π cT cs.toList):Ren n π (.agg cT.toArray) (.agg cs) :=
 .agg _ _ (by simpa using h.1) fun i h1 h2=>h.2 i _ _ (by simp) (by simp)
theorem LRen.tuple {n:Nat}{π:Nat→Nat}{cT:List Value}{cs:Array Value}(h:LRen n π cT cs.toList):Ren n π (.tuple cT.toArray) (.tuple cs) :=
 .tuple _ _ (by simpa using h.1) fun i h1 h2=>h.2 i _ _ (by simp) (by simp)
theorem D4 (n0:Nat):∀ (f:Nat) (refs:List Nat) (v:Value) (p:Value×List Nat),gcX n0 f refs v=some p→Q5j n0 refs p.2 p.1 v:=by
 intro f;induction f with
 |zero=>intro refs v p h;cases h
 |succ f ih =>
  intro refs v p h;unfold gcX at h;split at h
  ·rename_i i o;obtain rfl:=osj h;obtain⟨h1,h2⟩:=Pg n0 refs i;refine⟨h1,fun all hall=>?_⟩;obtain⟨k1,k2⟩:=h2 all hall;have:=Ren.ptr (n:=n0+all.length) (π:=gcP n0 all) (gcI n0 refs i).1 o k1
   rwa [k2] at this
  ·rename_i i o l c;obtain rfl:=osj h;obtain⟨h1,h2⟩:=Pg n0 refs i;refine⟨h1,fun all hall=>?_⟩;obtain⟨k1,k2⟩:=h2 all hall;have:=Ren.sl (n:=n0+all.length) (π:=gcP n0 all) (gcI n0 refs i).1 o l c k1
   rwa [k2] at this
  ·rename_i i;obtain rfl:=osj h;obtain⟨h1,h2⟩:=Pg n0 refs i;refine⟨h1,fun all hall=>?_⟩;obtain⟨k1,k2⟩:=h2 all hall;have:=Ren.map (n:=n0+all.length) (π:=gcP n0 all) (gcI n0 refs i).1 k1
   rwa [k2] at this
  ·obtain rfl:=osj h;exact⟨RExt.refl _ _,fun all _=>.poison _⟩
  ·split at h
   ·rename_i q hq;obtain rfl:=osj h;obtain⟨h1,h2⟩:=ih _ _ _ hq;exact⟨h1,fun all hall=>.iface _ _ _ (h2 all hall)⟩
   ·cases h
  ·split at h
   ·rename_i q hq;obtain rfl:=osj h;obtain⟨h1,h2⟩:=WY ih _ _ _ hq;exact⟨h1,fun all hall=>(h2 all hall).agg⟩
   ·cases h
  ·split at h
   ·rename_i q hq;obtain rfl:=osj h;obtain⟨h1,h2⟩:=WY ih _ _ _ hq;exact⟨h1,fun all hall=>(h2 all hall).tuple⟩
   ·cases h
  ·split at h
   ·rename_i q hq;split at h
    ·rename_i q2 kg;obtain rfl:=osj h;obtain⟨h1,h2⟩:=WY ih _ _ _ hq;obtain⟨h3,h4⟩:=WY ih _ _ _ kg;refine⟨h1.trans h3,fun all hall=>?_⟩;have c1:=h2 all (h3.sub.trans hall);have c2:=h4 all hall;exact .func _ _ _ _ _ (by simpa using c1.1) (by simpa using c2.1) (fun i h1 h2=>c1.2 i _ _ (by simp) (by simp)) (fun i h1 h2=>c2.2 i _ _ (by simp) (by simp))
    ·cases h
   ·cases h
  ·split at h
   ·rename_i hp;obtain rfl:=osj h;exact⟨RExt.refl _ _,fun all _=>.plain _ hp⟩
   ·cases h
theorem TR (n0:Nat):∀ (es:List Jk) (refs:List Nat) (p:List Jk×List Nat),Q6o n0 es refs=some p→RExt n0 refs p.2∧∀ (all:List Nat),Sub p.2 all →
  p.1.length=es.length∧∀ (k:Nat) (a b:Jk),p.1[k]?=some a→es[k]?=some b→a.1=b.1∧a.2.2=b.2.2∧Ren (n0+all.length) (gcP n0 all) a.2.1 b.2.1
 |[],refs,p,h=>by obtain rfl:=osj h;exact⟨RExt.refl _ _,fun all _=>⟨rfl,fun i a b ha=>by simp at ha⟩⟩
 |e::es,refs,p,h=>by
  simp only[Q6o] at h;split at h
  ·cases h
  ·rename_i p1 h1;split at h
   ·cases h
   ·rename_i p2 h2;obtain rfl:=osj h;obtain⟨a1,a2⟩:=D4 n0 _ _ _ _ h1;obtain⟨b1,b2⟩:=TR n0 es _ _ h2;refine⟨a1.trans b1,fun all hall=>?_⟩;have c1:=a2 all (b1.sub.trans hall);obtain⟨c2,c3⟩:=b2 all hall;refine⟨by simp[c2],fun i a b ha hb=>?_⟩;cases i with
    |zero=>simp at ha hb;subst ha;subst hb;exact⟨rfl,rfl,c1⟩
    |succ i=>exact c3 i a b (by simpa using ha) (by simpa using hb)
theorem Oh {n0:Nat}{refs:List Nat}{b:EB}{p:EB×List Nat}(h:gcB n0 refs b=some p):RExt n0 refs p.2∧∀ (all:List Nat),Sub p.2 all→∀ q q',BRen (n0+all.length) (gcP n0 all) (p.1.to q') (b.to q):=by
 unfold gcB at h;split at h
 ·split at h
  ·rename_i q hq;obtain rfl:=osj h;obtain⟨h1,h2⟩:=WY (D4 n0 8) _ _ _ hq;exact⟨h1,fun all hall _ _=>⟨rfl,rfl,rfl,h2 all hall⟩⟩
  ·cases h
 ·split at h
  ·rename_i q hq;obtain rfl:=osj h;obtain⟨h1,h2⟩:=TR n0 _ _ _ hq;exact⟨h1,fun all hall _ _=>⟨rfl,rfl,(h2 all hall).1,(h2 all hall).2⟩⟩
  ·cases h
 ·cases h
theorem Cq {h':CH}{n0:Nat}:∀ (f k:Nat) (refs:List Nat) (acc:CH) (r:CH×List Nat),IN h' n0 f k refs acc=some r→acc.n=n0+k→acc.n≤1000000001 →
  RExt n0 refs r.2∧r.1.n=n0+r.2.length∧r.1.n≤1000000001∧(∀ i,i<acc.n→r.1.get i=acc.get i) ∧
  ∀ j,k≤j→j<r.2.length→∃ b b',h'.get (r.2.getD j 0)=some b∧r.1.get (n0+j)=some b'∧∀ q q',BRen (n0+r.2.length) (gcP n0 r.2) (b'.to q') (b.to q):=by
 intro f;induction f with
 |zero=>intro k refs acc r h;cases h
 |succ f ih =>
  intro k refs acc r h hn hs;simp only[IN] at h;split at h
  ·split at h
   ·rename_i hk;obtain rfl:=osj h;exact⟨RExt.refl _ _,by rw[hn,hk],hs,fun _ _=>rfl,fun j h1 h2=>by simp only at h2;omega⟩
   ·cases h
  ·rename_i hk;split at h
   ·cases h
   ·rename_i b hb;split at h
    ·cases h
    ·rename_i p hp;split at h
     ·rename_i aY;have aY:acc.n≤1000000000:=Nat.le_of_ble_eq_true aY;obtain⟨a1,a2⟩:=Oh hp;have jc:(acc.push p.1).n=acc.n+1:=rfl;obtain⟨b1,b2,b3,b4,b5⟩:=ih (k+1) p.2 (acc.push p.1) r h (by rw[jc];omega) (by rw[jc];omega);refine⟨a1.trans b1,b2,b3,fun i hi=>?_,fun j qe fl=>?_⟩
      ·rw[b4 i (by rw[jc];omega),CH.get_push hs,if_neg (by omega)]
      ·by_cases eK:j=k
       ·subst eK;have bq:j<refs.length:=by omega
        obtain⟨t,ht⟩:=(a1.trans b1).sub;have hg:r.2.getD j 0=refs.getD j 0:=by rw[ht,List.getD_eq_getElem?_getD,List.getD_eq_getElem?_getD,List.getElem?_append_left bq]
        refine⟨b,p.1,by rw[hg];exact hb,?_,a2 r.2 b1.sub⟩;rw[←hn,b4 _ (by rw[jc];omega),CH.get_push hs,if_pos rfl]
       ·exact b5 j (by omega) fl
     ·cases h
theorem Gl {rs bn:Ka}{h h':CH}{σ σ':Heap}(hs:CSim rs h σ) (aX:CSim bn h' σ') (hr:∀ i,i<h.n→bn i=rs i) {v:Value}{y x:Value×CH}(hg:Rh h h' v=some y) (h1:y.1=x.1) (h2:y.2.n=x.2.n) (h3:∀ i,y.2.get i=x.2.get i) :
  DropTo σ v σ' x.1 (x.2.toHeap rs):=by
 unfold Rh at hg;split at hg
 ·cases hg
 ·rename_i p hp;split at hg
  ·cases hg
  ·rename_i q hq;obtain rfl:=osj hg;simp only at h1 h2 h3;obtain⟨f1,f2⟩:=D4 h.n 8 [] v p hp;unfold OP at hq;split at hq
   ·rename_i dK;simp only[CH.keepOk,Bool.and_eq_true,List.all_eq_true,List.mem_range] at dK;obtain⟨hle,dK⟩:=dK;have hle:h.n≤h'.n:=Nat.le_of_ble_eq_true hle;have mn:=hs.sm;obtain⟨g0,g1,g2,g3,g4⟩:=Cq _ 0 p.2 ⟨h'.t,h.n⟩ q hq rfl mn;have hall:=f1.trans g0;have jx:q.2.Nodup:=hall.2 List.nodup_nil;have bA:∀ x∈q.2,h.n≤x:=by
     obtain⟨⟨t,ht,hx⟩,_⟩:=hall;simpa [ht] using hx
    have hold:∀ i,i<h.n→q.1.get i=h'.get i:=fun i hi=>by rw[g3 i hi,CH.get_lt (h:=⟨h'.t,h.n⟩) hi,CH.get_lt (by omega)]
    have jz:(x.2.toHeap rs).n=h.n+q.2.length:=by show x.2.n=_;rw[←h2,g1]
    have rP:∀ i,(x.2.toHeap rs).get i=(q.1.get i).map (EB.to (rs i)):=fun i=>by show (x.2.get i).map _=_;rw[←h3 i]
    rw[←h1];refine DropTo.rename (gcP h.n q.2) (by rw[jz,←hs.n];omega) (fun i hi=>?_) (fun i ki ja=>?_) (fun i j ki ja qe fl he=>?_) (by rw[jz];exact f2 q.2 g0.sub)
    ·rw[←hs.n] at hi;refine⟨by simp[gcP,hi],by rw[rP,hold i hi,aX.get,hr i hi],?_⟩;have:=dK i hi;rw[aX.get,hs.get];split at this
     ·rename_i e1 e2;rw[e1,e2];exact .inl rfl
     ·rename_i a b e1 e2;rw[e1,e2];rw[Bool.or_eq_true] at this;rcases this with hb|hb
      ·exact .inr ⟨_,rfl,(F_ hb).1⟩
      ·rw[EB.beq_eq hb,hr i hi];exact .inl rfl
     ·cases this
    ·rw[←hs.n] at ki;rw[jz] at ja;obtain⟨b,b',e1,e2,e3⟩:=g4 (i-h.n) (by omega) (by omega);have gT:gcP h.n q.2 i=q.2.getD (i-h.n) 0:=by simp[gcP,Nat.not_lt.2 ki]
     have aP:q.2.getD (i-h.n) 0∈q.2:=by
      have:i-h.n<q.2.length:=by omega
      simp[List.getD_eq_getElem?_getD,this]
     rw[show h.n+(i-h.n)=i by omega] at e2;rw[gT];refine⟨by rw[←hs.n];exact bA _ aP,b'.to (rs i),b.to (bn (q.2.getD (i-h.n) 0)),by rw[rP,e2];rfl,by rw[aX.get,e1];rfl,by rw[jz];exact e3 _ _⟩
    ·rw[←hs.n] at ki qe;rw[jz] at ja fl;simp only[gcP,Nat.not_lt.2 ki,Nat.not_lt.2 qe,if_false] at he;have gV:i-h.n<q.2.length:=by omega
     have gW:j-h.n<q.2.length:=by omega
     simp only[List.getD_eq_getElem?_getD,List.getElem?_eq_getElem gV,List.getElem?_eq_getElem gW,Option.getD_some] at he;have:=(List.getElem_inj (h₀:=gV) (h₁:=gW) jx).1 he;omega
   ·cases hq
theorem Dp {a m d:Nat}{g:Value→Option Value}(hg:∀ v u,g v=some u→Sh a m d v u):∀ (vs us:List Value),Q4v g vs=some us→vs.length=us.length∧∀ (i:Nat) (v u:Value),vs[i]?=some v→us[i]?=some u→Sh a m d v u
 |[],us,h=>by obtain rfl:=osj h;exact⟨rfl,fun i v u h=>by simp at h⟩
 |v::vs,us,h=>by
  simp only[Q4v] at h;split at h
  ·cases h
  ·rename_i u hu;split at h
   ·cases h
   ·rename_i lB dQ;obtain rfl:=osj h;obtain⟨h1,h2⟩:=Dp hg vs lB dQ;refine⟨by simp[h1],fun i v' u' gg cA=>?_⟩;cases i with
    |zero=>simp at gg cA;subst gg;subst cA;exact hg _ _ hu
    |succ i=>exact h2 i v' u' (by simpa using gg) (by simpa using cA)
theorem IT (a m d:Nat):∀ (f:Nat) (v u:Value),shX a m d f v=some u→Sh a m d v u:=by
 intro f;induction f with
 |zero=>intro v u h;cases h
 |succ f ih =>
  intro v u h;unfold shX at h;split at h
  ·split at h
   ·rename_i hc;obtain rfl:=osj h;exact .ptr _ _ hc.1 hc.2
   ·cases h
  ·split at h
   ·rename_i hc;obtain rfl:=osj h;exact .sl _ _ _ _ hc.1 hc.2
   ·cases h
  ·split at h
   ·rename_i p hp;obtain rfl:=osj h;obtain⟨h1,h2⟩:=Dp ih _ _ hp;exact .agg _ _ (by simpa using h1) fun i k1 k2=>h2 i _ _ (by simp) (by simp)
   ·cases h
  ·split at h
   ·rename_i p hp;obtain rfl:=osj h;obtain⟨h1,h2⟩:=Dp ih _ _ hp;exact .tuple _ _ (by simpa using h1) fun i k1 k2=>h2 i _ _ (by simp) (by simp)
   ·cases h
  ·split at h
   ·rename_i hc;obtain rfl:=osj h;exact .plain _ hc
   ·cases h
theorem Ei {rs:Ka}{h:CH}{σ:Heap}(hs:CSim rs h σ) {i:Nat}{b:PB}(hb:Q7h h i b=true):∃ wr,σ.get i=some (b.blk wr):=by
 unfold Q7h at hb;split at hb
 ·rename_i c e w t hg;simp only[Bool.and_eq_true,decide_eq_true_eq,beq_iff_eq] at hb;obtain⟨rfl,rfl,h3⟩:=hb;obtain rfl:=Kn (V1 20) _ _ h3;exact⟨w,hs.cells hg⟩
 ·cases hb
theorem HQ {rs:Ka}{h:CH}{σ:Heap}(hs:CSim rs h σ):∀ (l:List Nat) (m:List PB),ED h l m=true→l.length=m.length∧∀ i b,m[i]?=some b→∃ wr,σ.get (l.getD i 0)=some (b.blk wr)
 |[],[],_=>⟨rfl,fun i b h=>by simp at h⟩
 |j::l,b::m,hb=>by
  simp only[ED,Bool.and_eq_true] at hb;obtain⟨h1,h2⟩:=HQ hs l m hb.2;refine⟨by simp[h1],fun i b' cr=>?_⟩;cases i with
  |zero=>simp at cr;subst cr;simpa using Ei hs hb.1
  |succ i=>simpa using h2 i b' (by simpa using cr)
 |[],_::_,h=>by cases h
 |_::_,[],h=>by cases h
theorem Vs {rs:Ka}:∀ (fr:List PB) {h:CH}{σ:Heap},CSim rs h σ→h.n+fr.length≤1000000000→CSim rs (YC fr h) (JV σ fr)∧(YC fr h).n=h.n+fr.length
 |[],h,σ,hs,_=>by
  have:JV σ []=σ:=Heap.ext' (fun j=>by
   show (if j<σ.n then σ.get j else _)=_;split
   ·rfl
   ·rename_i hj;rw[σ.wf j (by omega)];simp) rfl
  rw[this];exact⟨hs,rfl⟩
 |b::l,h,σ,hs,hr=>by
  have hr:h.n+(l.length+1)≤1000000000:=hr;have hn:=hs.n;have h1:CSim rs (h.push (.cells b.c b.esz true b.tight)) (σ.push (b.blk true)):=hs.push (Nat.ble_eq_true_of_le (by omega)) rfl;obtain⟨h2,h3⟩:=Vs l h1 (by show h.n+1+_≤_;omega);refine⟨?_,by rw[show YC (b::l) h=YC l (h.push (.cells b.c b.esz true b.tight)) from rfl,h3];show h.n+1+l.length=h.n+(l.length+1);omega⟩;have:JV σ (b::l)=JV (σ.push (b.blk true)) l:=Heap.ext' (fun j=>by
   show (if j<σ.n then σ.get j else _)=(if j<σ.n+1 then (σ.push (b.blk true)).get j else _);rcases Nat.lt_trichotomy j σ.n with hj|hj|hj
   ·rw[if_pos hj,if_pos (by omega),Heap.get_push_lt _ _ hj]
   ·subst hj;rw[if_neg (by omega),if_pos (by omega),Heap.get_push_self];simp
   ·rw[if_neg (by omega),if_neg (by omega)];rw[show j-σ.n=(j-(σ.push (b.blk true)).n)+1 by simp;omega];rfl) (by simp[JV];omega)
  rw[this];exact h2
theorem By {h:CH}{args:List Value}{refs:List Nat}:∀ (ms:List Memo) (m:Memo),LI h args refs ms=some m→m∈ms∧args=m.args∧ED h refs m.bl=true
 |[],m,h=>by cases h
 |m0::ms,m,h=>by
  simp only[LI] at h;split at h
  ·rename_i hc;obtain rfl:=osj h;rw[Bool.and_eq_true] at hc;exact⟨List.mem_cons_self,Kn (V1 20) _ _ hc.1,hc.2⟩
  ·obtain⟨h1,h2⟩:=By ms m h;exact⟨List.mem_cons_of_mem _ h1,h2⟩
theorem H7 {f:FuncId}{args:List Value}{ms:List Memo}(hm:∀ m∈ms,QJ P f m) {rs:Ka}{h:CH}{σ:Heap}(hs:CSim rs h σ) {p:Value×CH}(hp:PA h args ms=some p)
  {K:Value→Heap→Prop}(hK:∀ σ',h.n≤p.2.n→CSim rs p.2 σ'→K p.1 σ'):VCalled P f args σ K:=by
 unfold PA at hp;split at hp
 ·cases hp
 ·rename_i q hq;split at hp
  ·cases hp
  ·rename_i m pz;obtain⟨h1,h2,h3⟩:=By ms m pz;obtain⟨k1,k2,k3⟩:=hm m h1;obtain⟨l1,l2⟩:=HQ hs _ _ h3;split at hp
   ·cases hp
   ·rename_i hr;have hr:=Nat.le_of_ble_eq_true hr;split at hp
    ·rename_i v hv;obtain rfl:=osj hp;obtain⟨s1,s2⟩:=Vs m.fr hs hr;have hx:=(WY (D4 0 8) _ _ _ hq).2 q.2 ⟨[],by simp⟩;rw[h2,l1] at hx;refine VCalled.localize (π:=gcP 0 q.2) k1 k2 k3 (fun i b hb=>?_) (by simpa using hx) ?_ (hK _ (by rw[s2];omega) s1)
     ·have:=l2 i b hb;simpa [gcP] using this
     ·have:=IT _ _ _ _ _ _ hv
      rwa [hs.n] at this
    ·cases hp
theorem N8 (hm:P.follows .mixedOrders=true) (hT:TabOk P T) (cQ:Sd P ev) (hG:Good R G) {ys:Ys}{f:FuncId}{args:List Value}{h:CH}{k:Value→CH→A}{rs:Ka}{σ:Heap}{K:Value→Heap→Prop}
  (hY:YOk P ys rs h.n) (hs:CSim rs h σ) (he:G (Rf T ev R ys f args h k)) (hk:Q3o G rs h k K):VCalled P f args σ K:=by
 unfold Rf at he;split at he
 ·rename_i vc rl nt hf;have hF:=hT.code f vc rl nt hf;split at he
  ·rename_i hb;exact hF.calls hm P0 (cQ R G hG ys vc none _ _ h _ rs σ _ hY hs (ET.of_rel (Nat.le_of_ble_eq_true hb)) he (VU hG hk))
  ·exact(hG.fail he).elim
 ·rename_i vc rl nt hf;have hF:=hT.codeJ f vc rl nt hf;split at he
  ·rename_i hb;split at he
   ·rename_i x hx;split at he
    ·rename_i hc;have aY:x.2.n≤1000000000:=Nat.le_of_ble_eq_true hc.1;have hK:=hk x.1 x.2 rs _ (Nat.le_of_ble_eq_true hc.2) (fun _ _=>rfl) (Mw (by omega)) he;refine hF.calls hm P0 (cQ joinOps (AE x) (PT x) ys vc none _ _ h _ rs σ _ hY hs (ET.of_rel (Nat.le_of_ble_eq_true hb)) (show AE x _ from ⟨x,hx,rfl,rfl,fun _=>rfl⟩) ?_);intro e dB h' bn σ' ah hn hr aX bY _ hg;have fin:AE x (match U4 dB h' rl with|some v=>Rh h h' v|none=>none)→QR (J4 ah σ' rl) fun v=>∃ v' aL,DropTo σ v σ' v' aL∧K v' aL:=by
      rintro⟨y,hy,h1,h2,h3⟩;split at hy
      ·rename_i v hv;rw[Uz aX bY hv];exact⟨_,_,Gl hs aX hr hy h1 h2 h3,hK⟩
      ·cases hy
     cases e with
     |normal=>exact fin hg
     |ret=>exact fin hg
     |_=>obtain⟨y,hy,_⟩:=hg;cases hy
    ·exact(hG.fail he).elim
   ·exact(hG.fail he).elim
  ·exact(hG.fail he).elim
 ·rename_i vc rl nt ms hf;obtain⟨hF,hM⟩:=hT.codeM f vc rl nt ms hf;split at he
  ·rename_i p hp;exact H7 hM hs hp fun σ' hn aX=>hk _ _ rs σ' hn (fun _ _=>rfl) aX he
  ·split at he
   ·rename_i hb;exact hF.calls hm P0 (cQ R G hG ys vc none _ _ h _ rs σ _ hY hs (ET.of_rel (Nat.le_of_ble_eq_true hb)) he (VU hG hk))
   ·exact(hG.fail he).elim
 ·rename_i hf;split at he
  ·rename_i v;exact hT.same f hf v σ K (hk v h rs σ (Nat.le_refl _) (fun _ _=>rfl) hs he)
  ·exact(hG.fail he).elim
 ·exact(hG.fail he).elim
theorem Pj (hm:P.follows .mixedOrders=true) (cQ:Sd P ev) (hG:Good R G) {ys:Ys}{f:FuncId}{vc:VCode}{rl:List VResult}{nt:Nat}(hf:T f=some (.code vc rl nt)) (hF:Fun P f vc rl nt) {args:List Value}{h:CH}{k:Value→CH→A}{rs:Ka}{σ:Heap}{K:Value→Heap→Prop}
  (hY:YOk P ys rs h.n) (hs:CSim rs h σ) (he:G (Rf T ev R ys f args h k)) (hk:Q3o G rs h k K):VCallsTo P f args σ K:=by
 unfold Rf at he;rw[hf] at he;simp only at he;split at he
 ·rename_i hb;exact hF.callsTo hm P0 (cQ R G hG ys vc none _ _ h _ rs σ _ hY hs (ET.of_rel (Nat.le_of_ble_eq_true hb)) he (VU hG hk))
 ·exact(hG.fail he).elim
theorem TB (cQ:Sd P ev) (hG:Good R G) {ys:Ys}{i:Nat}{args:List Value}{h:CH}{k:Value→CH→A}{rs:Ka}{σ:Heap}{K:Value→Heap→Prop}
  (hY:YOk P ys rs h.n) (hs:CSim rs h σ) (he:G (FZ ev R ys i args h k)) (hk:Q3o G rs h k K):DH P i args σ K:=by
 unfold FZ at he;split at he
 ·rename_i c hc;obtain⟨aP,lh,ak⟩:=hY i c hc;split at he
  ·rename_i hg;split at he
   ·rename_i hlen;refine ak args σ K ⟨hs.lp hg,hlen,?_⟩;refine cQ R G hG ys c.a (some i) _ _ h _ rs σ _ hY hs (Hk c.ps args lh) he ?_;intro e kj h1 fz σ1 bu gk dO iH fF _ gH;cases e with
    |normal =>
     simp only[OE] at gH;split at gH
     ·rename_i ga;have e1:fz i=rs i:=dO i aP;have nD:=iH.lp ga;rw[e1] at nD;refine⟨nD,?_⟩;have ki:=iH.lt ga;refine cQ R G hG ys c.b (some i) kj bu _ _ fz _ _ (hY.mono (n':=(h1.upd i (.lp .busy none)).n) gk dO) (iH.upd ki (b:=.lp .busy none) (by rw[EB.to,e1])) fF gH ?_;intro e2 fK h2 dW σ2 aU eU cO dL fL _ cW;have lC:h1.n≤h2.n:=eU;have mq:dW i=rs i:=(cO i ki).trans e1;unfold E7 at cW;split at cW
      ·rename_i nE;have ja:=dL.lt nE;have nF:=dL.lp nE;rw[mq] at nF;refine⟨nF,?_⟩;have dM:∀ j,j<h.n→dW j=rs j:=fun j hj=>(cO j (Nat.lt_of_lt_of_le hj gk)).trans (dO j hj);cases e2 with
       |normal=>exact hk _ (h2.upd i (.lp .ready none)) dW _ (Nat.le_trans gk lC) dM (dL.upd ja (b:=.lp .ready none) (by simp only[EB.to,mq])) cW
       |ret=>exact hk _ (h2.upd i (.lp .done (some .ret))) dW _ (Nat.le_trans gk lC) dM (dL.upd ja (b:=.lp .done (some .ret)) (by simp only[EB.to,mq])) cW
       |exit id=>exact hk _ (h2.upd i (.lp .done (some (.exit id)))) dW _ (Nat.le_trans gk lC) dM (dL.upd ja (b:=.lp .done (some (.exit id))) (by simp only[EB.to,mq])) cW
       |_=>exact(hG.fail cW).elim
      ·exact(hG.fail cW).elim
     ·exact(hG.fail gH).elim
    |_=>exact(hG.fail gH).elim
   ·exact(hG.fail he).elim
  ·exact(hG.fail he).elim
 ·exact(hG.fail he).elim
theorem Gg (hG:Good R G) {i m since clock:Nat}{seen:List Nat}{h:CH}{k:Value→CH→A}:∀ (es:List Jk),
  (∀ e∈es,seen.contains e.2.2=true)∧UU R i m since clock seen h k es=none ∨
  ∃ a,UU R i m since clock seen h k es=some a∧(G a→∀ e∈es,seen.contains e.2.2=false→G (k (.tuple #[.bool true,e.1,e.2.1]) (h.upd i (.iter m since (seen++[e.2.2]) clock))))
 |[]=>.inl ⟨fun _ h=>(by cases h),rfl⟩
 |e::es=>by
  have ih:=Gg hG (i:=i) (m:=m) (since:=since) (clock:=clock) (seen:=seen) (h:=h) (k:=k) es;by_cases hc:seen.contains e.2.2=true
  ·have he:UU R i m since clock seen h k (e::es)=UU R i m since clock seen h k es:=by rw[UU,if_pos hc]
   rw[he];rcases ih with⟨h1,h2⟩|⟨a,h1,h2⟩
   ·exact .inl ⟨fun x hx=>by rcases List.mem_cons.1 hx with rfl|hx;exact hc;exact h1 x hx,h2⟩
   ·refine .inr ⟨a,h1,fun lD x hx bh=>?_⟩;rcases List.mem_cons.1 hx with rfl|hx
    ·rw[hc] at bh;cases bh
    ·exact h2 lD x hx bh
  ·rcases ih with⟨h1,h2⟩|⟨a,h1,h2⟩
   ·refine .inr ⟨k (.tuple #[.bool true,e.1,e.2.1]) (h.upd i (.iter m since (seen++[e.2.2]) clock)),by rw[UU,if_neg hc,h2],fun lD x hx bh=>?_⟩;rcases List.mem_cons.1 hx with rfl|hx
    ·exact lD
    ·rw[h1 x hx] at bh;cases bh
   ·refine .inr ⟨R.both (k (.tuple #[.bool true,e.1,e.2.1]) (h.upd i (.iter m since (seen++[e.2.2]) clock))) a,by rw[UU,if_neg hc,h1],fun lD x hx bh=>?_⟩;obtain⟨g1,g2⟩:=hG.both _ _ lD;rcases List.mem_cons.1 hx with rfl|hx
    ·exact g1
    ·exact h2 g2 x hx bh
theorem Se (hG:Good R G) {x:Value}{h:CH}{k:Value→CH→A}{rs:Ka}{σ:Heap}{K:Value→Heap→Prop}(hs:CSim rs h σ) (he:G (Q36 R x h k)) (hk:Q3o G rs h k K):Ez x σ K:=by
 unfold Q36 at he;unfold Ez;split at he
 ·rename_i i;split at he
  ·rename_i m since seen last hg;have hi:=hs.lt hg;simp only[hs.iter hg];split at he
   ·rename_i es clock wr gN;obtain⟨k1,_⟩:=hs.mapAt gN;simp only[k1];split at he
    ·rename_i hc;refine⟨hc.1,hc.2,?_⟩;rcases Gg hG (i:=i) (m:=m) (since:=since) (clock:=clock) (seen:=seen) (h:=h) (k:=k) es with⟨h1,h2⟩|⟨a,h1,h2⟩
     ·rw[h2] at he;simp only at he;split at he
      ·exact⟨fun _=>hk _ _ rs σ (Nat.le_refl _) (fun _ _=>rfl) hs he,fun e fY oU=>by rw[h1 e fY] at oU;cases oU⟩
      ·exact(hG.fail he).elim
     ·rw[h1] at he;simp only at he;have key:G a→∀ e∈es,seen.contains e.2.2=false→K (.tuple #[.bool true,e.1,e.2.1]) (σ.upd i (.obj (.iter m since (seen++[e.2.2]) clock) true)):=fun lD e fY oU =>
       hk _ (h.upd i (.iter m since (seen++[e.2.2]) clock)) rs _ (Nat.le_refl _) (fun _ _=>rfl) (hs.upd hi rfl) (h2 lD e fY oU)
      split at he
      ·obtain⟨g1,g2⟩:=hG.both _ _ he;exact⟨fun _=>hk _ _ rs σ (Nat.le_refl _) (fun _ _=>rfl) hs g1,key g2⟩
      ·rename_i hn;exact⟨fun hh=>absurd hh hn,key he⟩
    ·exact(hG.fail he).elim
   ·exact(hG.fail he).elim
  ·exact(hG.fail he).elim
 ·exact(hG.fail he).elim
theorem HG (hm:P.follows .mixedOrders=true) (hT:TabOk P T) (cQ:Sd P ev) (hG:Good R G) {ys:Ys}{o:VOp}{et:ET}{env:Env}(hE:FRel et env) {h:CH}{k:Value→CH→A}{rs:Ka}{σ:Heap}{K:Value→Heap→Prop}
  (hY:YOk P ys rs h.n) (hs:CSim rs h σ) (he:G (Q1c T ev R ys o et h k)) (hk:Q3o G rs h k K):vop (Q2 P) o env σ K:=by
 have al:=GZ hE;have other:∀ o':VOp,G (Ej R (Si o' (N4 et) h) k)→QR (Q8 o' (Q5 env) σ) fun p=>K p.1 p.2:=by
  intro o' hg;rw[al] at hg;unfold Ej at hg;split at hg
  ·rename_i p hp;obtain⟨h1,σ',h2,h3⟩:=Yl hs hp;rw[h2];exact hk _ _ rs σ' h1 (fun _ _=>rfl) h3 hg
  ·exact(hG.fail hg).elim
 cases o
 case callF f args =>
  simp only[Q1c,al] at he;exact N8 hm hT cQ hG hY hs he hk
 case callV f args =>
  simp only[Q1c,al] at he;simp only[vop];unfold OS at he;split at he
  ·rename_i g first cap hg
   simp only[hg];exact N8 hm hT cQ hG hY hs he hk
  ·rename_i i first cap hg
   simp only[hg];exact TB cQ hG hY hs he hk
  ·exact(hG.fail he).elim
 case ext x =>
  cases x
  case nextMap x =>
   simp only[Q1c,al] at he;exact Se hG hs he hk
  case delete a b c=>exact other (.ext (.delete a b c)) he
  case mapEntry a z b c=>exact other (.ext (.mapEntry a z b c)) he
  case entryStore a b c=>exact other (.ext (.entryStore a b c)) he
  all_goals exact other _ he
 case move a=>exact other (.move a) he
 case makeFunc a b c=>exact other (.makeFunc a b c) he
 case bad=>exact other .bad he
 all_goals exact other _ he
theorem DZ (hm:P.follows .mixedOrders=true) (hT:TabOk P T) (cQ:Sd P ev) (hG:Good R G) {ys:Ys}{k:ET→CH→A}{K:Env→Heap→Prop}:∀ (ops:List VOper) (et:ET) (env:Env) (h:CH) (rs:Ka) (σ:Heap),
  YOk P ys rs h.n→CSim rs h σ→FRel et env→G (AY T ev R ys ops et h k)→Od G rs h (List.length env) k K→H6 (Q2 P) ops env σ K:=by
 intro ops;induction ops with
 |nil=>intro et env h rs σ hY hs hE he hk;exact hk et h rs σ env (Nat.le_refl _) (fun _ _=>rfl) hs hE rfl he
 |cons o rest ih =>
  intro et env h rs σ hY hs hE he hk
  have he:G (match FB et o.guard with
   |none=>R.fail
   |some true=>Q1c T ev R ys o.op et h fun v h'=>AY T ev R ys rest (et.put o.dst v) h' k
   |some false=>AY T ev R ys rest (et.put o.dst undef) h k):=he
  rw[C4 hE] at he;simp only[H6];split at he
  ·exact(hG.fail he).elim
  ·rename_i hw;rw[hw];refine⟨fun _=>?_,fun hh=>by cases hh⟩;refine HG hm hT cQ hG hE hY hs he ?_;intro v h' bn σ' hn hr aX hg;refine ih _ _ h' bn σ' (hY.mono hn hr) aX (hE.put _ _) hg ?_;intro fK h2 dW σ2 aU eU cO dL fL hl cW;exact hk fK h2 dW σ2 aU (Nat.le_trans hn eU) (fun i hi=>(cO i (by omega)).trans (hr i hi)) dL fL (by rw[hl,Z2]) cW
  ·rename_i hw;rw[hw];refine⟨fun hh=>(by cases hh),fun _=>?_⟩;refine ih _ _ h rs σ hY hs (hE.put _ _) he ?_;intro fK h2 dW σ2 aU eU cO dL fL hl cW;exact hk fK h2 dW σ2 aU eU cO dL fL (by rw[hl,Z2]) cW
def CSims (rs:Ka) (n:Nat):List CH→List Heap→Prop
 |[],[]=>True
 |h::hs,σ::σs=>(CSim rs h σ∧h.n≤n)∧CSims rs n hs σs
 |_,_=>False
theorem CSims.mono {rs bn:Ka}{n n':Nat}(hn:n≤n') (hr:∀ i,i<n→bn i=rs i):∀ {hs:List CH}{σs:List Heap},CSims rs n hs σs→CSims bn n' hs σs
 |[],[],_=>trivial
 |h::hs,σ::σs,⟨⟨h1,h2⟩,h3⟩=>⟨⟨h1.rs fun i hi=>hr i (by omega),by omega⟩,CSims.mono hn hr h3⟩
 |[],_::_,h=>h.elim
 |_::_,[],h=>h.elim
theorem CSims.snoc {rs:Ka}{n:Nat}{h:CH}{σ:Heap}(hs:CSim rs h σ) (hn:h.n≤n):∀ {hl:List CH}{σl:List Heap},CSims rs n hl σl→CSims rs n (hl++[h]) (σl++[σ])
 |[],[],_=>⟨⟨hs,hn⟩,trivial⟩
 |_::_,_::_,⟨h1,h2⟩=>⟨h1,CSims.snoc hs hn h2⟩
 |[],_::_,h=>h.elim
 |_::_,[],h=>h.elim
theorem Gu {rs:Ka}{h:CH}{σ:Heap}(hs:CSim rs h σ) {op:VOp}{ev:Operand→Value}{v:Value}(hr:SZ op ev v h=true):Jf op ev v σ:=by
 unfold SZ at hr;split at hr
 ·rename_i q hq;obtain⟨_,σ',h2,_⟩:=Yl hs hq;unfold Jf;rw[h2];exact V1 _ _ _ hr
 ·cases hr
def Ip:List (Nat×(CH→Bool))→List (Nat×(Heap→Prop))→Prop
 |[],[]=>True
 |c::l,d::m=>(c.1=d.1∧∀ rs h σ,CSim rs h σ→c.2 h=true→d.2 σ)∧Ip l m
 |_,_=>False
theorem UY {rs:Ka}{h:CH}{σ:Heap}(hs:CSim rs h σ) {r:Nat}:∀ {l:List (Nat×(CH→Bool))}{m:List (Nat×(Heap→Prop))},Ip l m→E1 r h l=true→Ji r σ m
 |[],[],_,_=>trivial
 |c::l,d::m,⟨⟨h1,h2⟩,h3⟩,he=>by
  simp only[E1,Bool.and_eq_true,Bool.or_eq_true,Bool.not_eq_true'] at he;refine⟨fun hr=>h2 rs h σ hs ?_,UY hs h3 he.2⟩;rcases he.1 with h|h
  ·rw[h1,Nat.ble_eq_true_of_le hr] at h;cases h
  ·exact h
 |[],_::_,h,_=>h.elim
 |_::_,[],h,_=>h.elim
theorem CSims.mem {rs:Ka}{n:Nat}:∀ {hl:List CH}{σl:List Heap},CSims rs n hl σl→∀ (f:CH→Bool) (Q:Heap→Prop),(∀ rs h σ,CSim rs h σ→f h=true→Q σ)→∀ j,(hl.drop j).all f=true→∀ τ∈σl.drop j,Q τ
 |[],[],_,_,_,_,_,_,τ,hτ=>by simp at hτ
 |h::hl,σ::σl,⟨h1,h2⟩,f,Q,hQ,0,ha,τ,hτ=>by
  simp only[List.drop_zero,List.all_cons,Bool.and_eq_true,List.mem_cons] at ha hτ;rcases hτ with rfl|hτ
  ·exact hQ rs h τ h1.1 ha.1
  ·exact CSims.mem h2 f Q hQ 0 (by simpa using ha.2) τ (by simpa using hτ)
 |h::hl,σ::σl,⟨h1,h2⟩,f,Q,hQ,j+1,ha,τ,hτ=>CSims.mem h2 f Q hQ j (by simpa using ha) τ (by simpa using hτ)
 |[],_::_,h,_,_,_,_,_,_,_=>h.elim
 |_::_,[],h,_,_,_,_,_,_,_=>h.elim
theorem CSims.length {rs:Ka}{n:Nat}:∀ {hl:List CH}{σl:List Heap},CSims rs n hl σl→hl.length=σl.length
 |[],[],_=>rfl
 |_::_,_::_,⟨_,h⟩=>by simp[CSims.length h]
 |[],_::_,h=>h.elim
 |_::_,[],h=>h.elim
theorem G1 (hm:P.follows .mixedOrders=true) (hT:TabOk P T) (cQ:Sd P ev) (hG:Good R G) {ys:Ys}{k:ET→CH→A}{K:Env→Heap→Prop}:∀ (ops:List DOper) (et:ET) (env:Env) (hl:List CH) (h:CH) (pe:List (Nat×(CH→Bool))) (rs:Ka) (σl:List Heap) (σ:Heap) (pv:List (Nat×(Heap→Prop))),
  YOk P ys rs h.n→CSim rs h σ→FRel et env→CSims rs h.n hl σl→Ip pe pv→G (UN T ev R ys ops et hl h pe k)→Od G rs h (List.length env) k K→Z6 (Q2 P) ops env σl σ pv K:=by
 intro ops;induction ops with
 |nil=>intro et env hl h pe rs σl σ pv hY hs hE kn hp he hk;exact hk et h rs σ env (Nat.le_refl _) (fun _ _=>rfl) hs hE rfl he
 |cons o rest ih =>
  intro et env hl h pe rs σl σ pv hY hs hE kn fb he hk;have al:=GZ hE;simp only[UN,C4 hE,al] at he;simp only[Z6];have hlen:=kn.length;split at he
  ·exact(hG.fail he).elim
  ·rename_i hw;rw[hw];refine⟨fun _=>?_,fun hh=>by cases hh⟩;split at he
   ·rename_i au;rw[if_pos au];split at he
    ·rename_i p hp;split at he
     ·rename_i lE;obtain⟨nG,qf⟩:=lE;simp only[CH.newOk,Bool.and_eq_true,List.all_eq_true] at nG;obtain⟨n1,n2,n3⟩:=nG;have n1:h.n≤p.2.n:=Nat.le_of_ble_eq_true n1;have n2:p.2.n≤1000000000:=Nat.le_of_ble_eq_true n2;have lF:CSim rs p.2 (p.2.toHeap rs):=Mw (by omega);refine .inl ⟨p.1,p.2.toHeap rs,?_,?_,?_⟩
      ·refine HG hm hT cQ (Q1x p) hE hY hs hp ?_;intro v h' bn σ' hn hr aX hg;have hg:(v,h')=p:=osj hg;subst hg;refine⟨rfl,?_⟩;have:CSim rs h' σ':=by
        refine⟨aX.n,aX.sm,fun i=>?_⟩;rw[aX.get];cases ga:h'.get i with
        |none=>rfl
        |some b =>
         rcases Nat.lt_or_ge i h.n with hi|hi
         ·rw[hr i hi]
         ·have aP:=aX.lt ga;have:=n3 i (List.mem_range'_1.2 ⟨hi,by simp at n1 ⊢;omega⟩);simp only[ga] at this;cases b<;>first|rfl|cases this
       exact this.eq
      ·rw[←hlen];exact UY lF fb qf
      ·refine ih _ _ _ p.2 pe rs _ _ pv (hY.mono n1 (fun _ _=>rfl)) lF (hE.put _ _) ((kn.mono n1 (fun _ _=>rfl)).snoc lF (Nat.le_refl _)) fb he ?_;intro fK h2 dW σ2 aU eU cO dL fL cj cW;exact hk fK h2 dW σ2 aU (Nat.le_trans n1 eU) (fun i hi=>cO i (by omega)) dL fL (by rw[cj,Z2]) cW
     ·exact(hG.fail he).elim
    ·exact(hG.fail he).elim
   ·rename_i au;rw[if_neg au];have done:∀ (u:Value) (oV:List (Nat×(CH→Bool))) (oW:List (Nat×(Heap→Prop))),Ip oV oW→G (UN T ev R ys rest (et.put o.dst u) hl h oV k)→Z6 (Q2 P) rest (Js env o.dst u) σl σ oW K:=by
     intro u oV oW bE hg;refine ih _ _ hl h oV rs σl σ oW hY hs (hE.put _ _) kn bE hg ?_;intro fK h2 dW σ2 aU eU cO dL fL cj cW;exact hk fK h2 dW σ2 aU eU cO dL fL (by rw[cj,Z2]) cW
    split at he
    ·rename_i bO;rw[if_pos bO];split at he
     ·rename_i p hp;split at he
      ·rename_i hall;obtain⟨_,σ',h2,_⟩:=Yl hs hp;rw[h2];refine⟨kn.mem _ _ (fun rs h σ hc hf=>Gu hc hf) _ hall,?_⟩;refine done _ _ _ ?_ he;rw[←hlen];split
       ·exact⟨⟨rfl,fun rs h σ hc hf=>Gu hc hf⟩,fb⟩
       ·exact fb
      ·exact(hG.fail he).elim
     ·exact(hG.fail he).elim
    ·rename_i bO;rw[if_neg bO];split at he
     ·rename_i p hp;obtain⟨_,σ',h2,_⟩:=Yl hs hp;rw[h2];exact done _ _ _ fb he
     ·exact(hG.fail he).elim
  ·rename_i hw;rw[hw];refine⟨fun hh=>(by cases hh),fun _=>?_⟩;split at he
   ·rename_i au;rw[if_pos au];split at he
    ·rename_i qf;refine⟨by rw[←hlen];exact UY hs fb qf,?_⟩;refine ih _ _ _ h pe rs _ σ pv hY hs (hE.put _ _) (kn.snoc hs (Nat.le_refl _)) fb he ?_;intro fK h2 dW σ2 aU eU cO dL fL cj cW;exact hk fK h2 dW σ2 aU eU cO dL fL (by rw[cj,Z2]) cW
    ·exact(hG.fail he).elim
   ·rename_i au;rw[if_neg au];refine ih _ _ _ h pe rs _ σ pv hY hs (hE.put _ _) kn fb he ?_;intro fK h2 dW σ2 aU eU cO dL fL cj cW;exact hk fK h2 dW σ2 aU eU cO dL fL (by rw[cj,Z2]) cW
theorem ET.list_eq {e:ET}{env:Env}(h:FRel e env):e.list=env:=by
 apply List.ext_getElem?;intro i;unfold ET.list;rw[List.getElem?_map];rcases Nat.lt_or_ge i e.m with hi|hi
 ·rw[List.getElem?_range hi];have:=h.get i;rw[h.m] at hi;rw[List.getD_eq_getElem?_getD,List.getElem?_eq_getElem hi] at this;rw[List.getElem?_eq_getElem hi,Option.map_some,←this];rfl
 ·rw[List.getElem?_eq_none (by simpa using hi),List.getElem?_eq_none (by rw[←h.m];exact hi)];rfl
theorem T5 {ρ:Plc}{n:Nat}{vs:Array Value}{cs:List Value}(h:VRel ρ n (.tuple vs) (.tuple cs.toArray)):LRel ρ n vs.toList cs:=by
 obtain⟨ds,he,hl⟩:=h.tuple_inv;have:cs.toArray=ds:=by injection he
 subst this;simpa using hl
theorem Rj (hm:P.follows .mixedOrders=true) (hT:TabOk P T) (cQ:Sd P ev) {ys:Ys}{x:Value×CH}{vs:Array Value}(jB:x.1=.tuple vs) {K:Env→Heap→Prop}{et:ET}{env:Env}{h:CH}{rs:Ka}{σ:Heap}(hY:YOk P ys rs h.n) (hs:CSim rs h σ) (hE:FRel et env)
  (hk:K vs.toList (x.2.toHeap rs)):∀ (alts:List (List DOper)),AE x (C3 T ev ys et h alts)→∀ ops∈alts,Z6 (Q2 P) ops env [σ] σ [] fun bu σ1=>∃ aU σ2,DropE σ bu σ1 aU σ2∧K aU σ2:=by
 have one:∀ a:List DOper,AE x (Q2n T ev ys et h a)→Z6 (Q2 P) a env [σ] σ [] fun bu σ1=>∃ aU σ2,DropE σ bu σ1 aU σ2∧K aU σ2:=by intro a ha;refine G1 hm hT cQ (PT x) a et env [h] h [] rs [σ] σ [] hY hs hE ⟨⟨hs,Nat.le_refl _⟩,trivial⟩ trivial ha ?_;intro dB h' bn σ' ah hn hr aX bY hl hg;obtain⟨y,hy,h1,h2,h3⟩:=hg;unfold Q4z at hy;have hd:=Gl hs aX hr hy h1 h2 h3;rw[ET.list_eq bY,jB] at hd;refine⟨vs.toList,x.2.toHeap rs,?_,hk⟩;intro ρ0 w0 ρ w cs fT pS hH hL;obtain⟨ρ',d1,d2,d3⟩:=hd ρ0 w0 ρ w (.tuple cs.toArray) fT pS hH (VRel.tuple_of hL);exact⟨ρ',T5 d1,d2,d3⟩
 intro alts;induction alts with
 |nil=>rintro⟨y,hy,_⟩;cases hy
 |cons a l ih =>
  intro he ops ho;cases l with
  |nil =>obtain rfl:=List.mem_singleton.1 ho;exact one _ he
  |cons b r =>
   obtain⟨g1,g2⟩:=(PT x).both _ _ he;rcases List.mem_cons.1 ho with rfl|ho
   ·exact one _ g1
   ·exact ih g2 ops ho
theorem TK (hm:P.follows .mixedOrders=true) (hT:TabOk P T) (cQ:Sd P ev) (hG:Good R G) {ys:Ys}{k:ET→CH→A}{K:Env→Heap→Prop}:∀ (aT:List DSeg) (et:ET) (env:Env) (h:CH) (rs:Ka) (σ:Heap),
  YOk P ys rs h.n→CSim rs h σ→FRel et env→G (BB T ev R ys aT et h k)→Od G rs h (List.length env) k K→Ue (Q2 P) aT env σ K:=by
 intro aT;induction aT with
 |nil=>intro et env h rs σ hY hs hE he hk;exact hk et h rs σ env (Nat.le_refl _) (fun _ _=>rfl) hs hE rfl he
 |cons x rest ih =>
  intro et env h rs σ hY hs hE he hk;have next:Od G rs h (List.length env) (fun et h=>BB T ev R ys rest et h k) (fun env σ=>Ue (Q2 P) rest env σ K):=by intro kj h1 fz σ1 bu gk dO iH fF dz gH;refine ih kj bu h1 fz σ1 (hY.mono gk dO) iH fF gH ?_;intro fK h2 dW σ2 aU eU cO dL fL cj cW;exact hk fK h2 dW σ2 aU (Nat.le_trans gk eU) (fun i hi=>(cO i (by omega)).trans (dO i hi)) dL fL (cj.trans dz) cW
  cases x with
  |one o=>exact DZ hm hT cQ hG [o] et env h rs σ hY hs hE he next
  |alts l =>
   have many:G (match C3 T ev ys et h l with
     |some x=>(match x.1 with
      |.tuple vs=>if x.2.room=true∧Nat.ble h.n x.2.n=true∧vs.toList.length=et.m then BB T ev R ys rest (ET.of vs.toList 0) x.2 k else R.fail
      |_=>R.fail)
     |none=>R.fail)→Ue (Q2 P) (.alts l::rest) env σ K:=by
    intro he;split at he
    ·rename_i x hx;split at he
     ·rename_i vs jB;split at he
      ·rename_i hc;obtain⟨c1,c2,c3⟩:=hc;have aY:x.2.n≤1000000000:=Nat.le_of_ble_eq_true c1;have tZ:FRel (ET.of vs.toList 0) vs.toList:=by
        have:=ET.of_rel (args:=vs.toList) (nt:=0) (by show vs.toList.length+(0-vs.toList.length)≤_;have:=hE.sm;omega);simpa using this
       exact Rj hm hT cQ jB hY hs hE (next _ x.2 rs _ _ (Nat.le_of_ble_eq_true c2) (fun _ _=>rfl) (Mw (by omega)) tZ (by rw[c3,hE.m]) he) l ⟨x,hx,rfl,rfl,fun _=>rfl⟩
      ·exact(hG.fail he).elim
     ·exact(hG.fail he).elim
    ·exact(hG.fail he).elim
   match l,he with
   |[],he=>exact many he
   |[a],he =>intro ops ho;obtain rfl:=List.mem_singleton.1 ho;refine G1 hm hT cQ hG ops et env [h] h [] rs [σ] σ [] hY hs hE ⟨⟨hs,Nat.le_refl _⟩,trivial⟩ trivial he ?_;intro dB h' bn σ' ah hn hr aX bY hl hg;exact⟨ah,σ',.refl _ _ _,next dB h' bn σ' ah hn hr aX bY hl hg⟩
   |a::b::r,he=>exact many he
def Rr (P:Program) (T:Tab) (ev:Q3r) (c:VCode):Prop:=∀ {A:Type}(R:AnsOps A) (G:A→Prop),Good R G→∀ (ys:Ys) (ro:Option Nat) (et:ET) (env:Env) (h:CH) (k:Exit→ET→CH→A) (rs:Ka) (σ:Heap) (Q:Exit→Env→Heap→Prop),
 YOk P ys rs h.n→CSim rs h σ→FRel et env→G (T_ T ev R ys c ro et h k)→O6 G rs h (List.length env) k Q→vwp (Q2 P) c ro Q env σ
theorem TV (hm:P.follows .mixedOrders=true) (hT:TabOk P T) (cQ:Sd P ev) (hG:Good R G) {ys:Ys}{g:Operand}{ps:List Nat}{a b:VCode}{ro:Option Nat}{et:ET}{env:Env}{h:CH}{k:Exit→ET→CH→A}{rs:Ka}{σ:Heap}{Q:Exit→Env→Heap→Prop}
  (hY:YOk P ys rs h.n) (hs:CSim rs h σ) (hE:FRel et env) (he:G (EG T ev R ys (N4 et g) ps a b ro et h k)) (hk:O6 G rs h (List.length env) k Q):vwp (Q2 P) (.rangeF g ps a b) ro Q env σ:=by
 rw[GZ hE] at he;unfold EG at he;simp only[vwp,Rm];split at he
 ·rename_i f first cap hg
  simp only[hg];split at he
  ·rename_i vc rl nt hf;have hF:=hT.code f vc rl nt hf;split at he
   ·rename_i lE;obtain⟨aP,aY⟩:=lE;have mZ:(Q2 P).it f=some fun i Y args σ K=>YR P i Y→VCallsTo P f args σ K:=by
     simp only[Q2];rw[if_pos hF.enterable]
    rw[mZ];refine⟨?_,fun r t_=>?_⟩
    ·cases ro with
     |none=>trivial
     |some i =>
      simp only[OJ] at aP;split at aP
      ·rename_i st pend ga;exact⟨_,_,_,_,hs.lp ga⟩
      ·cases aP
    ·let fz:Ka:=fun i=>if i=h.n then (env,r) else rs i
     have fa:∀ i,i<h.n→fz i=rs i:=fun i hi=>by simp only[fz];rw[if_neg (by omega)]
     have iH:CSim fz (h.push (.lp .ready none)) (σ.push (.obj (.lp env r .ready none) true)) :=
      (hs.rs fa).push aY (by simp[EB.to,fz])
     have ua:YOk P ((h.n,⟨ps,a,b,et⟩)::ys) fz (h.push (.lp .ready none)).n:=by
      intro i c hc;simp only[Ys.find] at hc;split at hc
      ·rename_i eC;have eC:=Nat.eq_of_beq_eq_true eC;subst eC;obtain rfl:=osj hc;refine⟨Nat.lt_succ_self _,by simp only[fz,if_true];exact hE,?_⟩;rw[hs.n] at *
       simpa [fz,hs.n] using t_
      ·obtain⟨h1,h2,h3⟩:=hY i c hc;rw[fa i h1];exact⟨Nat.lt_succ_of_lt h1,h2,h3⟩
     rw[←hs.n];refine Pj hm cQ hG hf hF ua iH he ?_;intro v h' bn σ' hn hr aX dC;have ml:h.n+1≤h'.n:=hn;unfold Q50 at dC;unfold II;split at dC
     ·rename_i st pend ga;have hi:=aX.lt ga;simp only[aX.lp ga];split at dC
      ·rename_i cG;refine⟨(by rintro rfl;cases cG),?_⟩;have dM:∀ j,j<h.n→bn j=rs j:=fun j hj=>(hr j (Nat.lt_succ_of_lt hj)).trans (fa j hj);have bq:=aX.kill hi;split at dC
       ·exact hk _ _ _ bn _ _ (by show h.n≤h'.n;omega) dM bq hE rfl dC
       ·exact hk _ _ _ bn _ _ (by show h.n≤h'.n;omega) dM bq hE rfl dC
       ·exact hk _ _ _ bn _ _ (by show h.n≤h'.n;omega) dM bq hE rfl dC
       ·exact(hG.fail dC).elim
      ·exact(hG.fail dC).elim
     ·exact(hG.fail dC).elim
   ·exact(hG.fail he).elim
  ·exact(hG.fail he).elim
 ·exact(hG.fail he).elim
theorem Rq (hm:P.follows .mixedOrders=true) (hT:TabOk P T) (cQ:Sd P ev)
  (nH:∀ b,Rr P T ev b→Rr P T ev (.loop b)):∀ (c:VCode),Rr P T ev c:=by
 intro c;induction c with
 |skip=>intro A R G hG ys ro et env h k rs σ Q hY hs hE he hk;exact hk _ _ _ rs σ _ (Nat.le_refl _) (fun _ _=>rfl) hs hE rfl he
 |region ops =>intro A R G hG ys ro et env h k rs σ Q hY hs hE he hk;exact DZ hm hT cQ hG ops et env h rs σ hY hs hE he fun dB h' bn σ' ah h1 h2 h3 h4 h5 h6=>hk _ _ _ _ _ _ h1 h2 h3 h4 h5 h6
 |regionD aT =>intro A R G hG ys ro et env h k rs σ Q hY hs hE he hk;exact TK hm hT cQ hG aT et env h rs σ hY hs hE he fun dB h' bn σ' ah h1 h2 h3 h4 h5 h6=>hk _ _ _ _ _ _ h1 h2 h3 h4 h5 h6
 |rangeF g ps a b fw e7 =>intro A R G hG ys ro et env h k rs σ Q hY hs hE he hk;exact TV hm hT cQ hG hY hs hE he hk
 |seq a b fw e7 =>
  intro A R G hG ys ro et env h k rs σ Q hY hs hE he hk;simp only[vwp];refine fw R G hG ys ro et env h _ rs σ _ hY hs hE he ?_;intro e dB h' bn σ' ah hn hr aX bY hl hg;cases e with
  |normal =>refine e7 R G hG ys ro dB ah h' k bn σ' Q (hY.mono hn hr) aX bY hg ?_;intro e2 fK h2 dW σ2 aU eU cO dL fL cj cW;exact hk e2 fK h2 dW σ2 aU (Nat.le_trans hn eU) (fun i hi=>(cO i (by omega)).trans (hr i hi)) dL fL (cj.trans hl) cW
  |_=>exact hk _ dB h' bn σ' ah hn hr aX bY hl hg
 |cond c a b fw e7 =>
  intro A R G hG ys ro et env h k rs σ Q hY hs hE he hk;have he:G (Q3i R (N4 et c) (T_ T ev R ys a ro et h k) (T_ T ev R ys b ro et h k)):=he;rw[GZ hE] at he;unfold Q3i at he;simp only[vwp];split at he
  ·rename_i hc;rw[hc];exact⟨fun _=>fw R G hG ys ro et env h k rs σ Q hY hs hE he hk,fun hh=>by cases hh⟩
  ·rename_i hc;rw[hc];exact⟨fun hh=>(by cases hh),fun _=>e7 R G hG ys ro et env h k rs σ Q hY hs hE he hk⟩
  ·exact(hG.fail he).elim
 |block id b ih =>
  intro A R G hG ys ro et env h k rs σ Q hY hs hE he hk;simp only[vwp];refine ih R G hG ys ro et env h _ rs σ _ hY hs hE he ?_;intro e dB h' bn σ' ah hn hr aX bY hl hg;cases e with
  |exit g_ =>
   simp only[Ia] at hg;simp only[Lm];split at hg
   ·rename_i bH;rw[if_pos bH];exact hk _ dB h' bn σ' ah hn hr aX bY hl hg
   ·rename_i bH;rw[if_neg bH];exact hk _ dB h' bn σ' ah hn hr aX bY hl hg
  |_=>exact hk _ dB h' bn σ' ah hn hr aX bY hl hg
 |loop b ih =>intro A R G hG ys ro et env h k rs σ Q hY hs hE he hk;exact nH b ih R G hG ys ro et env h k rs σ Q hY hs hE he hk
 |exit id=>intro A R G hG ys ro et env h k rs σ Q hY hs hE he hk;exact hk _ _ _ rs σ _ (Nat.le_refl _) (fun _ _=>rfl) hs hE rfl he
 |ret=>intro A R G hG ys ro et env h k rs σ Q hY hs hE he hk;exact hk _ _ _ rs σ _ (Nat.le_refl _) (fun _ _=>rfl) hs hE rfl he
 |bad=>intro A R G hG ys ro et env h k rs σ Q hY hs hE he hk;exact(hG.fail he).elim
theorem HN {v:Value}(h:CO v=true):Qv v=true∨∃ vs,v=.tuple vs∧vs.toList.all Qv=true:=by unfold CO at h;split at h<;>first|exact .inl rfl|exact .inr ⟨_,rfl,h⟩|cases h
theorem Il {ρ:Plc}{n:Nat}{v c:Value}(h:CO v=true) (hv:VRel ρ n v c):c=v:=by
 rcases HN h with hp|⟨vs,rfl,hall⟩
 ·exact YH hp hv
 ·obtain⟨ds,rfl,hl⟩:=hv.tuple_inv;have hall:∀ x∈vs.toList,Qv x=true:=List.all_eq_true.1 hall;have:ds.toList=vs.toList:=by
   apply List.ext_getElem?;intro i;rcases Nat.lt_or_ge i vs.toList.length with hi|hi
   ·have cE:i<ds.toList.length:=by rw[←hl.1];exact hi
    rw[List.getElem?_eq_getElem hi,List.getElem?_eq_getElem cE];rw[YH (hall _ (List.getElem_mem hi)) (hl.2 i _ _ (List.getElem?_eq_getElem hi) (List.getElem?_eq_getElem cE))]
   ·rw[List.getElem?_eq_none hi,List.getElem?_eq_none (by rw[←hl.1];exact hi)]
  rw[HI this]
theorem Eg {ρ:Plc}{n:Nat}{v:Value}(h:CO v=true):VRel ρ n v v:=by
 rcases HN h with hp|⟨vs,rfl,hall⟩
 ·exact Xf hp
 ·exact .tuple _ _ rfl fun i h1 _=>Xf (List.all_eq_true.1 hall _ (by simp))
theorem MX (m:Nat) (env:Env) (h:List.length env=m):GH (List.range m) env=env:=by
 apply List.ext_getElem?;intro i;simp only[GH,List.getElem?_map];rcases Nat.lt_or_ge i m with hi|hi
 ·rw[List.getElem?_range hi];simp[List.getD_eq_getElem?_getD,h,hi]
 ·rw[List.getElem?_eq_none (by simpa using hi),List.getElem?_eq_none (by omega)];rfl
theorem Hw:∀ (l:List Nat) (vs base:List Value) (i:Nat),l.Nodup→vs.length=l.length→(∀ x∈l,x<base.length)→(JJ l vs base)[i]?=if i∈l then vs[l.idxOf i]? else base[i]?
 |[],[],base,i,_,_,_=>by simp[JJ]
 |[],_::_,_,_,_,h,_=>by simp at h
 |_::_,[],_,_,_,h,_=>by simp at h
 |x::l,v::vs,base,i,hn,h,hb=>by
  obtain⟨h1,h2⟩:=List.nodup_cons.1 hn;simp only[JJ];rw[Hw l vs _ i h2 (by simpa using h) (fun y hy=>by rw[List.length_set];exact hb y (by simp[hy]))];by_cases mr:i=x
  ·subst mr;rw[if_neg h1,if_pos (by simp),List.getElem?_set_self (hb i (by simp))];simp
  ·by_cases ij:i∈l
   ·have e:(x::l).idxOf i=l.idxOf i+1:=by rw[List.idxOf_cons,show (x==i)=false from by simpa using Ne.symm mr];rfl
    rw[if_pos ij,if_pos (by simp[ij]),e];rfl
   ·rw[if_neg ij,if_neg (by simp[mr,ij]),List.getElem?_set_ne (Ne.symm mr)]
theorem Rp (m:Nat) (vs:List Value) (h:vs.length=m):JJ (List.range m) vs (List.replicate m poison)=vs:=by
 apply List.ext_getElem?;intro i;rw[Hw _ _ _ _ List.nodup_range (by simpa using h) (fun x hx=>by simpa using hx)];split
 ·rename_i hi;have hi:=List.mem_range.1 hi;have:(List.range m).idxOf i=i:=by
   have h1:(List.range m).idxOf i<(List.range m).length:=List.idxOf_lt_length_of_mem (List.mem_range.2 hi);have h2:=List.getElem_idxOf h1;rw[List.getElem_range] at h2;exact h2
  rw[this]
 ·rename_i hi;have hi:m≤i:=by simpa using hi
  rw[List.getElem?_eq_none (by simpa using hi),List.getElem?_eq_none (by omega)]
theorem AN (hm:P.follows .mixedOrders=true) (hT:TabOk P T):∀ (n:Nat) (c:VCode),Rr P T (PW T n) c:=by
 intro n;induction n using Nat.strongRecOn with
 |ind n oS =>
  have cQ:Sd P (PW T n):=by
   cases n with
   |zero=>intro A R G hG ys c ro et env h k rs σ Q hY hs hE he hk;exact(hG.fail he).elim
   |succ n=>intro A R G hG ys c ro et env h k rs σ Q hY hs hE he hk;exact oS n (Nat.lt_succ_self _) c R G hG ys ro et env h k rs σ Q hY hs hE he hk
  refine Rq hm hT cQ fun b e7=>?_;intro A R G hG ys ro et env h k rs σ Q hY hs hE he hk;have nJ:∀ j,j≤n→Rr P T (PW T j) b:=fun j hj=>by
   rcases Nat.lt_or_ge j n with h'|h'
   ·exact oS j h' b
   ·obtain rfl:j=n:=by omega
    exact e7
  simp only[vwp];refine⟨List.range (List.length env),fun j vs σ1=>j≤n∧∃ kj h1 fz,h.n≤h1.n∧(∀ i,i<h.n→fz i=rs i)∧CSim fz h1 σ1∧FRel kj vs∧List.length vs=List.length env∧G (T_ T (PW T j) R ys (.loop b) ro kj h1 k),n,?_,?_⟩
  ·rw[MX _ _ rfl];exact⟨Nat.le_refl _,et,h,rs,Nat.le_refl _,fun _ _=>rfl,hs,hE,rfl,he⟩
  ·rintro j vs σ1 ⟨hj,kj,h1,fz,g1,g2,g3,gE,g4,g5⟩;rw[Rp _ _ g4];refine nJ j hj R G hG ys ro kj vs h1 _ fz σ1 _ (hY.mono g1 g2) g3 gE g5 ?_;intro e dB h' bn σ' ah hn hr aX bY hl hg;cases e with
   |normal =>
    cases j with
    |zero=>exact(hG.fail hg).elim
    |succ j =>
     refine⟨j,Nat.lt_succ_self _,by omega,dB,h',bn,Nat.le_trans g1 hn,fun i hi=>(hr i (by omega)).trans (g2 i hi),aX,?_,?_,?_⟩
     ·rw[MX _ _ (hl.trans g4)];exact bY
     ·rw[MX _ _ (hl.trans g4)];exact hl.trans g4
     ·exact hg
   |_=>exact hk _ dB h' bn σ' ah (Nat.le_trans g1 hn) (fun i hi=>(hr i (by omega)).trans (g2 i hi)) aX bY (hl.trans g4) hg
theorem D8 (hm:P.follows .mixedOrders=true) (hT:TabOk P T) (n:Nat):Sd P (PW T n):=by
 cases n with
 |zero=>intro A R G hG ys c ro et env h k rs σ Q hY hs hE he hk;exact(hG.fail he).elim
 |succ n=>intro A R G hG ys c ro et env h k rs σ Q hY hs hE he hk;exact AN hm hT n c R G hG ys ro et env h k rs σ Q hY hs hE he hk
theorem HRel.forget {ρ:Plc}{σ:Heap}{w:World}(hH:HRel ρ σ w):HRel (fun _=>none) Heap.empty w :=
 ⟨⟨fun i b h=>(by cases h),fun _ _=>rfl,fun i p h=>(by cases h),fun i j p q b _ h=>(by cases h)⟩,fun g cs hg=>⟨(hH.tab g cs hg).1,fun ⟨_,_,_,h,_⟩=>by cases h⟩⟩
theorem RC {f:FuncId}{args:List Value}(ha:args.all Qv=true) {v:Value}(hv:CO v=true) (he:Jy P f) (h0:VCallsTo P f args Heap.empty (fun u _=>u=v)) {σ:Heap}{K:Value→Heap→Prop}(hK:K v σ):VCalled P f args σ K:=by
 refine VCallsTo.called he ?_;intro ρ w az hH hL;refine (h0 (fun _=>none) w az hH.forget ?_).mono ?_
 ·refine⟨hL.1,fun i a c jR hc=>?_⟩;have hp:=List.all_eq_true.1 ha a (List.mem_of_getElem? jR);have:=YH hp (hL.2 i a c jR hc);subst this;exact Xf hp
 ·rintro e w' ⟨c,rfl,u,ρ',σ',rfl,d_,gw,hE⟩;refine⟨c,rfl,u,ρ,σ,hK,?_,?_,?_⟩
  ·have:c=u:=Il hv d_;subst this;exact Eg hv
  ·exact hH.world hE.size (fun i p hp=>hE.keep _ (hH.lt i p hp) (fun ⟨_,_,_,h,_⟩=>by cases h)) fun g cs hg=>hE.keep _ (hH.tab.lt hg) (fun ⟨_,_,_,h,_⟩=>by cases h)
  ·exact⟨hE.os,hE.tape,hE.output,hE.size,fun B hB _=>hE.keep B hB (fun ⟨_,_,_,h,_⟩=>by cases h),fun _ _ h=>h,Nat.le_refl _,fun _ _ _ h=>h⟩
theorem Io (hm:P.follows .mixedOrders=true) (hT:TabOk P T) (n:Nat) {f:FuncId}{vc:VCode}{rl:List VResult}{nt:Nat}(hF:Fun P f vc rl nt) (args:List Value) (ha:args.all Qv=true) (v:Value) (hv:CO v=true) (p:Value→Bool) (hp:∀ u,p u=true→u=v)
  (dP:Nat.ble (ET.of args nt).m 1000000=true) (he:PW T n YJ [] vc none (ET.of args nt) CH.empty (Q16 false rl fun v _=>p v)=true) {σ:Heap}{K:Value→Heap→Prop}(hK:K v σ):VCalled P f args σ K:=by
 refine RC ha hv hF.enterable ?_ hK;refine hF.callsTo hm P0 ?_
 exact D8 hm hT n YJ (·=true) Ps [] vc none _ _ CH.empty _ (fun _=>([],default)) Heap.empty _ (fun i c h=>by cases h) ⟨rfl,by decide,fun i=>rfl⟩ (ET.of_rel (Nat.le_of_ble_eq_true dP)) he
  (VU (R:=YJ) Ps fun v' h' bn σ' _ _ _ hg=>hp v' hg)
end
end Go.V
namespace Go.V
open Go
def O7 (P:Program) (f:FuncId):Option FEnt→Prop
 |none=>True
 |some (.code vc rs nt)=>Fun P f vc rs nt
 |some (.codeJ vc rs nt)=>Fun P f vc rs nt
 |some (.codeM vc rs nt ms)=>Fun P f vc rs nt∧∀ m∈ms,QJ P f m
 |some .same=>∀ (v:Value) (σ:Heap) (K:Value→Heap→Prop),K v σ→VCalled P f [v] σ K
def EntsOk (P:Program):Nat→List (Option FEnt)→Prop
 |_,[]=>True
 |i,e::l=>O7 P i e∧EntsOk P (i+1) l
theorem EntsOk.get {P:Program}:∀ {l:List (Option FEnt)}{i j:Nat}{e:FEnt},EntsOk P i l→l[j]?=some (some e)→O7 P (i+j) (some e)
 |[],_,_,_,_,h=>by simp at h
 |x::l,i,0,e,h,hj=>by simp at hj;subst hj;exact h.1
 |x::l,i,j+1,e,h,hj=>by have:=EntsOk.get (l:=l) (i:=i+1) (j:=j) h.2 (by simpa using hj);rw[Nat.add_assoc,Nat.add_comm 1 j] at this;exact this
theorem LK {P:Program}{l:List (Option FEnt)}(h:EntsOk P 0 l):TabOk P (fun f=>(l[f]?).join):=by
 have key:∀ f e,(l[f]?).join=some e→O7 P f (some e):=fun f e he=>by
  have:=EntsOk.get (j:=f) (e:=e) h (by
   cases hl:l[f]? with
   |none=>rw[hl] at he;cases he
   |some x=>rw[hl] at he;simp at he;rw[he])
  simpa using this
 exact⟨fun f vc rs nt he=>key f _ he,fun f vc rs nt he=>key f _ he,fun f vc rs nt ms he=>key f _ he,fun f he=>key f _ he⟩
theorem Iq {P:Program}{f:FuncId}{fn:Func}{e:Array Value→Sem Value}(hf:P.funcs[f]?=some fn) (h1:(fn.name=="runtime.NumGoroutine")=false) (h2:fn.body.isNone=true) (h3:Extern.findNext fn=none) (h4:Extern.find fn=some e) (h5:∀ (c:Value) w,(e #[c]).run P w=.ok c w)
  (v:Value) (σ:Heap) (K:Value→Heap→Prop) (hK:K v σ):VCalled P f [v] σ K:=by
 intro ρ w az hH hL;obtain⟨c,hc⟩:∃ c,az=#[c]:=by
  have hl:=hL.1
  match az,hl with
  |⟨[c]⟩,_=>exact⟨c,rfl⟩
 subst hc;refine .inr ⟨c,⟨v,ρ,σ,hK,hL.2 0 v c rfl rfl,hH,Ext.refl _ _ _⟩,fun w' _=>?_⟩;have gW:fn.body=none:=by simpa using h2
 have gV:¬ fn.name="runtime.NumGoroutine":=by simpa using h1
 simp[callFunc,hf,gV,gW,h3,h4,h5]
def isTrue:Value→Bool
 |.bool true=>true
 |_=>false
theorem EA {v:Value}(h:isTrue v=true):v=.bool true:=by
 unfold isTrue at h;split at h
 ·rfl
 ·cases h
theorem Oe {P:Program}(hm:P.follows .mixedOrders=true) {T:Tab}(hT:TabOk P T) (n:Nat) {f:FuncId}{vc:VCode}{rl:List VResult}{nt:Nat}(hF:Fun P f vc rl nt) (dP:Nat.ble (ET.of [] nt).m 1000000=true)
  (he:PW T n YJ [] vc none (ET.of [] nt) CH.empty (Q16 false rl fun v _=>isTrue v)=true) {σ:Heap}{K:Value→Heap→Prop}(hK:K (.bool true) σ):VCalled P f [] σ K :=
 Io hm hT n hF [] rfl (.bool true) rfl isTrue (fun _ h=>EA h) dP he hK
def UM:List PB→CH→CH
 |[],h=>h
 |b::l,h=>UM l (h.push (.cells b.c b.esz false b.tight))
def RK (σ:Heap) (l:List PB):Heap where
 get i:=if i<σ.n then σ.get i else (l[i-σ.n]?).map (PB.blk false)
 n:=σ.n+l.length
 wf i h:=by rw[if_neg (by omega),List.getElem?_eq_none (by omega)];rfl
theorem Hr {rs:Ka}:∀ (fr:List PB) {h:CH}{σ:Heap},CSim rs h σ→h.n+fr.length≤1000000000→CSim rs (UM fr h) (RK σ fr)∧(UM fr h).n=h.n+fr.length
 |[],h,σ,hs,_=>by
  have:RK σ []=σ:=Heap.ext' (fun j=>by
   show (if j<σ.n then σ.get j else _)=_;split
   ·rfl
   ·rename_i hj;rw[σ.wf j (by omega)];simp) rfl
  rw[this];exact⟨hs,rfl⟩
 |b::l,h,σ,hs,hr=>by
  have hr:h.n+(l.length+1)≤1000000000:=hr;have hn:=hs.n;have h1:CSim rs (h.push (.cells b.c b.esz false b.tight)) (σ.push (b.blk false)):=hs.push (Nat.ble_eq_true_of_le (by omega)) rfl;obtain⟨h2,h3⟩:=Hr l h1 (by show h.n+1+_≤_;omega);refine⟨?_,by rw[show UM (b::l) h=UM l (h.push (.cells b.c b.esz false b.tight)) from rfl,h3];show h.n+1+l.length=h.n+(l.length+1);omega⟩;have:RK σ (b::l)=RK (σ.push (b.blk false)) l:=Heap.ext' (fun j=>by
   show (if j<σ.n then σ.get j else _)=(if j<σ.n+1 then (σ.push (b.blk false)).get j else _);rcases Nat.lt_trichotomy j σ.n with hj|hj|hj
   ·rw[if_pos hj,if_pos (by omega),Heap.get_push_lt _ _ hj]
   ·subst hj;rw[if_neg (by omega),if_pos (by omega),Heap.get_push_self];simp
   ·rw[if_neg (by omega),if_neg (by omega)];rw[show j-σ.n=(j-(σ.push (b.blk false)).n)+1 by simp;omega];rfl) (by simp[RK];omega)
  rw[this];exact h2
theorem TJ (bl fr:List PB):JV (RK Heap.empty bl) fr=Ja bl fr:=Heap.ext' (fun j=>by
 have hn:(RK Heap.empty bl).n=bl.length:=by simp[RK,Heap.empty]
 show (if j<(RK Heap.empty bl).n then (RK Heap.empty bl).get j else (fr[j-(RK Heap.empty bl).n]?).map (PB.blk true))=(if j<bl.length then _ else _);rw[hn];split
 ·simp[RK,Heap.empty]
 ·rfl) (by simp[JV,RK,Ja,Heap.empty])
def LG (m:Memo):Bool:=Nat.ble (m.bl.length+m.fr.length) 1000000000&&(m.bl.all (fun b=>b.c.all Qv)&&m.fr.all (fun b=>b.c.all Qv))
theorem Qn {P:Program}(hm:P.follows .mixedOrders=true) {T:Tab}(hT:TabOk P T) (n:Nat) {f:FuncId}{m:Memo}(hf:LG m=true)
  (he:Rf T (PW T n) YJ [] f m.args (UM m.bl CH.empty) (fun u h'=>SX 20 u m.v&&h'.same (YC m.fr (UM m.bl CH.empty)))=true):QJ P f m:=by
 simp only[LG,Bool.and_eq_true,List.all_eq_true] at hf;obtain⟨h1,h2,h3⟩:=hf;have h1:=Nat.le_of_ble_eq_true h1;have e0:∀ rs:Ka,CSim rs CH.empty Heap.empty:=fun rs=>⟨rfl,by decide,fun i=>rfl⟩;have s1:∀ rs:Ka,CSim rs (UM m.bl CH.empty) (RK Heap.empty m.bl)∧(UM m.bl CH.empty).n=0+m.bl.length:=fun rs=>Hr m.bl (e0 rs) (by show 0+_≤_;omega);have s2:∀ rs:Ka,CSim rs (YC m.fr (UM m.bl CH.empty)) (Ja m.bl m.fr):=fun rs=>by rw[←TJ];exact(Vs m.fr (s1 rs).1 (by rw[(s1 rs).2];omega)).1
 have mn:RK Heap.empty m.bl=Ja m.bl []:=by
  rw[←TJ];exact Heap.ext' (fun j=>by
   show _=(if j<(RK Heap.empty m.bl).n then _ else _);split
   ·rfl
   ·rename_i hj;rw[(RK Heap.empty m.bl).wf j (by omega)];simp) rfl
 refine⟨?_,fun b hb=>List.all_eq_true.2 (h2 b hb),fun b hb=>List.all_eq_true.2 (h3 b hb)⟩;rw[←mn];refine N8 (R:=YJ) (G:=(·=true)) (rs:=fun _=>([],default)) hm hT (fun {A}=>D8 hm hT n (A:=A)) Ps (fun i c h=>by cases h) (s1 _).1 he ?_;intro v h' bn σ' _ _ aX hg;rw[Bool.and_eq_true] at hg;refine⟨V1 20 _ _ hg.1,?_⟩;obtain⟨g1,g2⟩:=LF hg.2;refine Heap.ext' (fun j=>?_) ?_
 ·rw[aX.get,g2,(s2 bn).get]
 ·rw[←aX.n,g1,(s2 bn).n]
end Go.V
namespace Go.Proofs.Tryz
open Go Go.V Go.Proofs
theorem mixed:Tryz.prog.follows .mixedOrders=true:=by kernel_rfl
def cof (fn:Func):VCode:=match fn.body.bind (comp Tryz.prog) with|some c=>c|none=>.bad
theorem Q4 {fn:Func}(h:(fn.body.bind (comp Tryz.prog)).isSome=true):fn.body.bind (comp Tryz.prog)=some (cof fn):=by
 unfold cof;cases h2:fn.body.bind (comp Tryz.prog) with
 |none=>rw[h2] at h;cases h
 |some c=>rfl
def c2:VCode:=cof Tryz.f2
theorem Q9g:Fun Tryz.prog 2 c2 [] 1:=⟨Tryz.f2,Tryz.func2,Q4 (by kernel_rfl),by kernel_rfl,rfl,rfl⟩
def c3:VCode:=cof Tryz.f3
theorem Q91:Fun Tryz.prog 3 c3 [.tmp 4] 113:=⟨Tryz.f3,Tryz.func3,Q4 (by kernel_rfl),by kernel_rfl,rfl,rfl⟩
def c4:VCode:=cof Tryz.f4
theorem Q93:Fun Tryz.prog 4 c4 [.tmp 4] 298:=⟨Tryz.f4,Tryz.func4,Q4 (by kernel_rfl),by kernel_rfl,rfl,rfl⟩
def c5:VCode:=cof Tryz.f5
theorem fun5:Fun Tryz.prog 5 c5 [.tmp 4] 185:=⟨Tryz.f5,Tryz.func5,Q4 (by kernel_rfl),by kernel_rfl,rfl,rfl⟩
def c6:VCode:=cof Tryz.f6
theorem Q90:Fun Tryz.prog 6 c6 [.tmp 2] 33:=⟨Tryz.f6,Tryz.func6,Q4 (by kernel_rfl),by kernel_rfl,rfl,rfl⟩
def c7:VCode:=cof Tryz.f7
theorem Q9a:Fun Tryz.prog 7 c7 [.tmp 6] 15:=⟨Tryz.f7,Tryz.func7,Q4 (by kernel_rfl),by kernel_rfl,rfl,rfl⟩
def c8:VCode:=cof Tryz.f8
theorem Q9f:Fun Tryz.prog 8 c8 [.tmp 6] 35:=⟨Tryz.f8,Tryz.func8,Q4 (by kernel_rfl),by kernel_rfl,rfl,rfl⟩
def c9:VCode:=cof Tryz.f9
theorem Q8f:Fun Tryz.prog 9 c9 [.tmp 0] 239:=⟨Tryz.f9,Tryz.func9,Q4 (by kernel_rfl),by kernel_rfl,rfl,rfl⟩
def c10:VCode:=cof Tryz.f10
theorem Q1w:Fun Tryz.prog 10 c10 [.cell 2 true 2] 10:=⟨Tryz.f10,Tryz.func10,Q4 (by kernel_rfl),by kernel_rfl,rfl,rfl⟩
def c11:VCode:=cof Tryz.f11
theorem Q25:Fun Tryz.prog 11 c11 [.tmp 4,.tmp 5,.tmp 6] 40:=⟨Tryz.f11,Tryz.func11,Q4 (by kernel_rfl),by kernel_rfl,rfl,rfl⟩
def c12:VCode:=cof Tryz.f12
theorem Q5n:Fun Tryz.prog 12 c12 [.tmp 4] 38:=⟨Tryz.f12,Tryz.func12,Q4 (by kernel_rfl),by kernel_rfl,rfl,rfl⟩
def c13:VCode:=cof Tryz.f13
theorem Q49:Fun Tryz.prog 13 c13 [.tmp 4] 31:=⟨Tryz.f13,Tryz.func13,Q4 (by kernel_rfl),by kernel_rfl,rfl,rfl⟩
def c14:VCode:=cof Tryz.f14
theorem Q5x:Fun Tryz.prog 14 c14 [.tmp 6] 22:=⟨Tryz.f14,Tryz.func14,Q4 (by kernel_rfl),by kernel_rfl,rfl,rfl⟩
def c15:VCode:=cof Tryz.f15
theorem Q68:Fun Tryz.prog 15 c15 [.tmp 2] 22:=⟨Tryz.f15,Tryz.func15,Q4 (by kernel_rfl),by kernel_rfl,rfl,rfl⟩
def c16:VCode:=cof Tryz.f16
theorem Q59:Fun Tryz.prog 16 c16 [.tmp 4] 46:=⟨Tryz.f16,Tryz.func16,Q4 (by kernel_rfl),by kernel_rfl,rfl,rfl⟩
def c17:VCode:=cof Tryz.f17
theorem Q5o:Fun Tryz.prog 17 c17 [.cell 4 true 2] 8:=⟨Tryz.f17,Tryz.func17,Q4 (by kernel_rfl),by kernel_rfl,rfl,rfl⟩
def c18:VCode:=cof Tryz.f18
theorem Q3h:Fun Tryz.prog 18 c18 [.cell 2 true 2] 48:=⟨Tryz.f18,Tryz.func18,Q4 (by kernel_rfl),by kernel_rfl,rfl,rfl⟩
def c19:VCode:=cof Tryz.f19
theorem Q1r:Fun Tryz.prog 19 c19 [.cell 2 true 2] 51:=⟨Tryz.f19,Tryz.func19,Q4 (by kernel_rfl),by kernel_rfl,rfl,rfl⟩
def c20:VCode:=cof Tryz.f20
theorem Q5h:Fun Tryz.prog 20 c20 [.cell 4 true 2,.tmp 5] 48:=⟨Tryz.f20,Tryz.func20,Q4 (by kernel_rfl),by kernel_rfl,rfl,rfl⟩
def c21:VCode:=cof Tryz.f21
theorem Q6h:Fun Tryz.prog 21 c21 [.tmp 2,.tmp 3] 39:=⟨Tryz.f21,Tryz.func21,Q4 (by kernel_rfl),by kernel_rfl,rfl,rfl⟩
def c22:VCode:=cof Tryz.f22
theorem Q27:Fun Tryz.prog 22 c22 [.tmp 4,.tmp 5] 43:=⟨Tryz.f22,Tryz.func22,Q4 (by kernel_rfl),by kernel_rfl,rfl,rfl⟩
def c23:VCode:=cof Tryz.f23
theorem Q2j:Fun Tryz.prog 23 c23 [.cell 2 true 2] 10:=⟨Tryz.f23,Tryz.func23,Q4 (by kernel_rfl),by kernel_rfl,rfl,rfl⟩
def c24:VCode:=cof Tryz.f24
theorem Q19:Fun Tryz.prog 24 c24 [.tmp 6] 25:=⟨Tryz.f24,Tryz.func24,Q4 (by kernel_rfl),by kernel_rfl,rfl,rfl⟩
def c25:VCode:=cof Tryz.f25
theorem Q2s:Fun Tryz.prog 25 c25 [.tmp 2] 55:=⟨Tryz.f25,Tryz.func25,Q4 (by kernel_rfl),by kernel_rfl,rfl,rfl⟩
def c26:VCode:=cof Tryz.f26
theorem Q4b:Fun Tryz.prog 26 c26 [.tmp 2,.tmp 3] 37:=⟨Tryz.f26,Tryz.func26,Q4 (by kernel_rfl),by kernel_rfl,rfl,rfl⟩
def c27:VCode:=cof Tryz.f27
theorem Q5r:Fun Tryz.prog 27 c27 [.cell 4 true 2,.tmp 5,.tmp 6] 78:=⟨Tryz.f27,Tryz.func27,Q4 (by kernel_rfl),by kernel_rfl,rfl,rfl⟩
def c28:VCode:=cof Tryz.f28
theorem Q44:Fun Tryz.prog 28 c28 [.cell 8 true 4] 14:=⟨Tryz.f28,Tryz.func28,Q4 (by kernel_rfl),by kernel_rfl,rfl,rfl⟩
def c29:VCode:=cof Tryz.f29
theorem Q0w:Fun Tryz.prog 29 c29 [.cell 6 true 2,.tmp 7,.tmp 8] 84:=⟨Tryz.f29,Tryz.func29,Q4 (by kernel_rfl),by kernel_rfl,rfl,rfl⟩
def c30:VCode:=cof Tryz.f30
theorem Q2z:Fun Tryz.prog 30 c30 [.cell 6 false 1,.tmp 7] 49:=⟨Tryz.f30,Tryz.func30,Q4 (by kernel_rfl),by kernel_rfl,rfl,rfl⟩
def c31:VCode:=cof Tryz.f31
theorem Q1t:Fun Tryz.prog 31 c31 [.cell 6 false 1,.tmp 7] 42:=⟨Tryz.f31,Tryz.func31,Q4 (by kernel_rfl),by kernel_rfl,rfl,rfl⟩
def c32:VCode:=cof Tryz.f32
theorem Q47:Fun Tryz.prog 32 c32 [.cell 4 true 2,.tmp 5] 33:=⟨Tryz.f32,Tryz.func32,Q4 (by kernel_rfl),by kernel_rfl,rfl,rfl⟩
def c33:VCode:=cof Tryz.f33
theorem Q69:Fun Tryz.prog 33 c33 [.tmp 4,.tmp 5,.tmp 6,.tmp 7] 30:=⟨Tryz.f33,Tryz.func33,Q4 (by kernel_rfl),by kernel_rfl,rfl,rfl⟩
def c34:VCode:=cof Tryz.f34
theorem Q6k:Fun Tryz.prog 34 c34 [.cell 2 true 2,.cell 3 true 2,.tmp 4] 20:=⟨Tryz.f34,Tryz.func34,Q4 (by kernel_rfl),by kernel_rfl,rfl,rfl⟩
def c35:VCode:=cof Tryz.f35
theorem Q4l:Fun Tryz.prog 35 c35 [.tmp 2,.tmp 3] 30:=⟨Tryz.f35,Tryz.func35,Q4 (by kernel_rfl),by kernel_rfl,rfl,rfl⟩
def c36:VCode:=cof Tryz.f36
theorem Q6f:Fun Tryz.prog 36 c36 [.tmp 4] 28:=⟨Tryz.f36,Tryz.func36,Q4 (by kernel_rfl),by kernel_rfl,rfl,rfl⟩
def c37:VCode:=cof Tryz.f37
theorem Q2f:Fun Tryz.prog 37 c37 [.tmp 2] 27:=⟨Tryz.f37,Tryz.func37,Q4 (by kernel_rfl),by kernel_rfl,rfl,rfl⟩
def c38:VCode:=cof Tryz.f38
theorem Q2g:Fun Tryz.prog 38 c38 [.tmp 6] 11:=⟨Tryz.f38,Tryz.func38,Q4 (by kernel_rfl),by kernel_rfl,rfl,rfl⟩
def c39:VCode:=cof Tryz.f39
theorem Q3k:Fun Tryz.prog 39 c39 [.cell 4 true 2] 59:=⟨Tryz.f39,Tryz.func39,Q4 (by kernel_rfl),by kernel_rfl,rfl,rfl⟩
def c40:VCode:=cof Tryz.f40
theorem Q1l:Fun Tryz.prog 40 c40 [.tmp 2,.cell 3 true 2] 47:=⟨Tryz.f40,Tryz.func40,Q4 (by kernel_rfl),by kernel_rfl,rfl,rfl⟩
def c41:VCode:=cof Tryz.f41
theorem Q6d:Fun Tryz.prog 41 c41 [.tmp 4] 22:=⟨Tryz.f41,Tryz.func41,Q4 (by kernel_rfl),by kernel_rfl,rfl,rfl⟩
def c42:VCode:=cof Tryz.f42
theorem Q64:Fun Tryz.prog 42 c42 [.tmp 4] 56:=⟨Tryz.f42,Tryz.func42,Q4 (by kernel_rfl),by kernel_rfl,rfl,rfl⟩
def c43:VCode:=cof Tryz.f43
theorem Q5l:Fun Tryz.prog 43 c43 [.tmp 4] 50:=⟨Tryz.f43,Tryz.func43,Q4 (by kernel_rfl),by kernel_rfl,rfl,rfl⟩
def c44:VCode:=cof Tryz.f44
theorem Q5a:Fun Tryz.prog 44 c44 [.tmp 2] 25:=⟨Tryz.f44,Tryz.func44,Q4 (by kernel_rfl),by kernel_rfl,rfl,rfl⟩
def c45:VCode:=cof Tryz.f45
theorem Q6i:Fun Tryz.prog 45 c45 [.tmp 2] 36:=⟨Tryz.f45,Tryz.func45,Q4 (by kernel_rfl),by kernel_rfl,rfl,rfl⟩
def c46:VCode:=cof Tryz.f46
theorem Q5p:Fun Tryz.prog 46 c46 [.tmp 4] 26:=⟨Tryz.f46,Tryz.func46,Q4 (by kernel_rfl),by kernel_rfl,rfl,rfl⟩
def c47:VCode:=cof Tryz.f47
theorem Q1s:Fun Tryz.prog 47 c47 [.tmp 2] 28:=⟨Tryz.f47,Tryz.func47,Q4 (by kernel_rfl),by kernel_rfl,rfl,rfl⟩
def c48:VCode:=cof Tryz.f48
theorem Q10:Fun Tryz.prog 48 c48 [.tmp 4] 22:=⟨Tryz.f48,Tryz.func48,Q4 (by kernel_rfl),by kernel_rfl,rfl,rfl⟩
def c49:VCode:=cof Tryz.f49
theorem Q67:Fun Tryz.prog 49 c49 [.tmp 5] 23:=⟨Tryz.f49,Tryz.func49,Q4 (by kernel_rfl),by kernel_rfl,rfl,rfl⟩
def c50:VCode:=cof Tryz.f50
theorem Q4q:Fun Tryz.prog 50 c50 [.tmp 4] 48:=⟨Tryz.f50,Tryz.func50,Q4 (by kernel_rfl),by kernel_rfl,rfl,rfl⟩
def c51:VCode:=cof Tryz.f51
theorem Q6g:Fun Tryz.prog 51 c51 [.tmp 2] 32:=⟨Tryz.f51,Tryz.func51,Q4 (by kernel_rfl),by kernel_rfl,rfl,rfl⟩
def c52:VCode:=cof Tryz.f52
theorem Q2p:Fun Tryz.prog 52 c52 [.tmp 6] 11:=⟨Tryz.f52,Tryz.func52,Q4 (by kernel_rfl),by kernel_rfl,rfl,rfl⟩
def c53:VCode:=cof Tryz.f53
theorem Q2h:Fun Tryz.prog 53 c53 [.tmp 2,.tmp 3] 102:=⟨Tryz.f53,Tryz.func53,Q4 (by kernel_rfl),by kernel_rfl,rfl,rfl⟩
def c54:VCode:=cof Tryz.f54
theorem Q38:Fun Tryz.prog 54 c54 [] 64:=⟨Tryz.f54,Tryz.func54,Q4 (by kernel_rfl),by kernel_rfl,rfl,rfl⟩
def c55:VCode:=cof Tryz.f55
theorem Q1q:Fun Tryz.prog 55 c55 [.tmp 4] 21:=⟨Tryz.f55,Tryz.func55,Q4 (by kernel_rfl),by kernel_rfl,rfl,rfl⟩
def c56:VCode:=cof Tryz.f56
theorem Q4x:Fun Tryz.prog 56 c56 [.tmp 4] 16:=⟨Tryz.f56,Tryz.func56,Q4 (by kernel_rfl),by kernel_rfl,rfl,rfl⟩
def c57:VCode:=cof Tryz.f57
theorem Q4w:Fun Tryz.prog 57 c57 [.tmp 4,.tmp 5,.tmp 6,.tmp 7] 47:=⟨Tryz.f57,Tryz.func57,Q4 (by kernel_rfl),by kernel_rfl,rfl,rfl⟩
def c58:VCode:=cof Tryz.f58
theorem Q4d:Fun Tryz.prog 58 c58 [.cell 4 true 2] 47:=⟨Tryz.f58,Tryz.func58,Q4 (by kernel_rfl),by kernel_rfl,rfl,rfl⟩
def c59:VCode:=cof Tryz.f59
theorem Q4y:Fun Tryz.prog 59 c59 [.cell 2 true 2,.tmp 3] 61:=⟨Tryz.f59,Tryz.func59,Q4 (by kernel_rfl),by kernel_rfl,rfl,rfl⟩
def c60:VCode:=cof Tryz.f60
theorem Q4k:Fun Tryz.prog 60 c60 [.tmp 2] 17:=⟨Tryz.f60,Tryz.func60,Q4 (by kernel_rfl),by kernel_rfl,rfl,rfl⟩
def c61:VCode:=cof Tryz.f61
theorem Q6j:Fun Tryz.prog 61 c61 [] 11:=⟨Tryz.f61,Tryz.func61,Q4 (by kernel_rfl),by kernel_rfl,rfl,rfl⟩
def c62:VCode:=cof Tryz.f62
theorem Q5m:Fun Tryz.prog 62 c62 [.tmp 4] 19:=⟨Tryz.f62,Tryz.func62,Q4 (by kernel_rfl),by kernel_rfl,rfl,rfl⟩
def c63:VCode:=cof Tryz.f63
theorem Q1b:Fun Tryz.prog 63 c63 [.tmp 4] 9:=⟨Tryz.f63,Tryz.func63,Q4 (by kernel_rfl),by kernel_rfl,rfl,rfl⟩
def c64:VCode:=cof Tryz.f64
theorem Q0v:Fun Tryz.prog 64 c64 [.tmp 4] 13:=⟨Tryz.f64,Tryz.func64,Q4 (by kernel_rfl),by kernel_rfl,rfl,rfl⟩
def c65:VCode:=cof Tryz.f65
theorem Q2x:Fun Tryz.prog 65 c65 [.tmp 6] 36:=⟨Tryz.f65,Tryz.func65,Q4 (by kernel_rfl),by kernel_rfl,rfl,rfl⟩
def c66:VCode:=cof Tryz.f66
theorem Q4j:Fun Tryz.prog 66 c66 [.tmp 2] 20:=⟨Tryz.f66,Tryz.func66,Q4 (by kernel_rfl),by kernel_rfl,rfl,rfl⟩
def c67:VCode:=cof Tryz.f67
theorem Q5e:Fun Tryz.prog 67 c67 [.tmp 4] 27:=⟨Tryz.f67,Tryz.func67,Q4 (by kernel_rfl),by kernel_rfl,rfl,rfl⟩
def c68:VCode:=cof Tryz.f68
theorem Q12:Fun Tryz.prog 68 c68 [.tmp 4] 17:=⟨Tryz.f68,Tryz.func68,Q4 (by kernel_rfl),by kernel_rfl,rfl,rfl⟩
def c69:VCode:=cof Tryz.f69
theorem Q1a:Fun Tryz.prog 69 c69 [.tmp 2] 4:=⟨Tryz.f69,Tryz.func69,Q4 (by kernel_rfl),by kernel_rfl,rfl,rfl⟩
def c70:VCode:=cof Tryz.f70
theorem Q1e:Fun Tryz.prog 70 c70 [.tmp 6] 17:=⟨Tryz.f70,Tryz.func70,Q4 (by kernel_rfl),by kernel_rfl,rfl,rfl⟩
def c71:VCode:=cof Tryz.f71
theorem Q30:Fun Tryz.prog 71 c71 [.tmp 2] 14:=⟨Tryz.f71,Tryz.func71,Q4 (by kernel_rfl),by kernel_rfl,rfl,rfl⟩
def c72:VCode:=cof Tryz.f72
theorem Q5w:Fun Tryz.prog 72 c72 [.tmp 4,.tmp 5] 30:=⟨Tryz.f72,Tryz.func72,Q4 (by kernel_rfl),by kernel_rfl,rfl,rfl⟩
def c73:VCode:=cof Tryz.f73
theorem Q5i:Fun Tryz.prog 73 c73 [.tmp 2] 5:=⟨Tryz.f73,Tryz.func73,Q4 (by kernel_rfl),by kernel_rfl,rfl,rfl⟩
def c74:VCode:=cof Tryz.f74
theorem Q4a:Fun Tryz.prog 74 c74 [.tmp 4] 6:=⟨Tryz.f74,Tryz.func74,Q4 (by kernel_rfl),by kernel_rfl,rfl,rfl⟩
def c75:VCode:=cof Tryz.f75
theorem Q1d:Fun Tryz.prog 75 c75 [.tmp 4] 13:=⟨Tryz.f75,Tryz.func75,Q4 (by kernel_rfl),by kernel_rfl,rfl,rfl⟩
def c76:VCode:=cof Tryz.f76
theorem Q13:Fun Tryz.prog 76 c76 [.cell 4 true 4] 20:=⟨Tryz.f76,Tryz.func76,Q4 (by kernel_rfl),by kernel_rfl,rfl,rfl⟩
def c77:VCode:=cof Tryz.f77
theorem Q2k:Fun Tryz.prog 77 c77 [.tmp 6] 29:=⟨Tryz.f77,Tryz.func77,Q4 (by kernel_rfl),by kernel_rfl,rfl,rfl⟩
def c78:VCode:=cof Tryz.f78
theorem Q3b:Fun Tryz.prog 78 c78 [.tmp 4] 81:=⟨Tryz.f78,Tryz.func78,Q4 (by kernel_rfl),by kernel_rfl,rfl,rfl⟩
def c79:VCode:=cof Tryz.f79
theorem Q1y:Fun Tryz.prog 79 c79 [.tmp 2] 4:=⟨Tryz.f79,Tryz.func79,Q4 (by kernel_rfl),by kernel_rfl,rfl,rfl⟩
def c80:VCode:=cof Tryz.f80
theorem Q31:Fun Tryz.prog 80 c80 [.cell 6 true 4,.tmp 7] 40:=⟨Tryz.f80,Tryz.func80,Q4 (by kernel_rfl),by kernel_rfl,rfl,rfl⟩
def c81:VCode:=cof Tryz.f81
theorem Q2i:Fun Tryz.prog 81 c81 [.tmp 3] 18:=⟨Tryz.f81,Tryz.func81,Q4 (by kernel_rfl),by kernel_rfl,rfl,rfl⟩
def c82:VCode:=cof Tryz.f82
theorem Q37:Fun Tryz.prog 82 c82 [.tmp 4] 27:=⟨Tryz.f82,Tryz.func82,Q4 (by kernel_rfl),by kernel_rfl,rfl,rfl⟩
def c83:VCode:=cof Tryz.f83
theorem Q5t:Fun Tryz.prog 83 c83 [.tmp 4] 25:=⟨Tryz.f83,Tryz.func83,Q4 (by kernel_rfl),by kernel_rfl,rfl,rfl⟩
def c84:VCode:=cof Tryz.f84
theorem Q20:Fun Tryz.prog 84 c84 [] 37:=⟨Tryz.f84,Tryz.func84,Q4 (by kernel_rfl),by kernel_rfl,rfl,rfl⟩
def c85:VCode:=cof Tryz.f85
theorem Q2q:Fun Tryz.prog 85 c85 [] 50:=⟨Tryz.f85,Tryz.func85,Q4 (by kernel_rfl),by kernel_rfl,rfl,rfl⟩
def c86:VCode:=cof Tryz.f86
theorem Q60:Fun Tryz.prog 86 c86 [.tmp 4] 23:=⟨Tryz.f86,Tryz.func86,Q4 (by kernel_rfl),by kernel_rfl,rfl,rfl⟩
def c87:VCode:=cof Tryz.f87
theorem Q6n:Fun Tryz.prog 87 c87 [.tmp 4] 20:=⟨Tryz.f87,Tryz.func87,Q4 (by kernel_rfl),by kernel_rfl,rfl,rfl⟩
def c88:VCode:=cof Tryz.f88
theorem Q5y:Fun Tryz.prog 88 c88 [.tmp 2] 4:=⟨Tryz.f88,Tryz.func88,Q4 (by kernel_rfl),by kernel_rfl,rfl,rfl⟩
def c89:VCode:=cof Tryz.f89
theorem Q57:Fun Tryz.prog 89 c89 [] 134:=⟨Tryz.f89,Tryz.func89,Q4 (by kernel_rfl),by kernel_rfl,rfl,rfl⟩
def c90:VCode:=cof Tryz.f90
theorem Q41:Fun Tryz.prog 90 c90 [.tmp 2] 8:=⟨Tryz.f90,Tryz.func90,Q4 (by kernel_rfl),by kernel_rfl,rfl,rfl⟩
def c91:VCode:=cof Tryz.f91
theorem Q2a:Fun Tryz.prog 91 c91 [.tmp 4] 19:=⟨Tryz.f91,Tryz.func91,Q4 (by kernel_rfl),by kernel_rfl,rfl,rfl⟩
def c92:VCode:=cof Tryz.f92
theorem Q2m:Fun Tryz.prog 92 c92 [] 20:=⟨Tryz.f92,Tryz.func92,Q4 (by kernel_rfl),by kernel_rfl,rfl,rfl⟩
def c93:VCode:=cof Tryz.f93
theorem Q4c:Fun Tryz.prog 93 c93 [.tmp 4,.tmp 5] 17:=⟨Tryz.f93,Tryz.func93,Q4 (by kernel_rfl),by kernel_rfl,rfl,rfl⟩
def c94:VCode:=cof Tryz.f94
theorem Q61:Fun Tryz.prog 94 c94 [.tmp 4,.tmp 5] 51:=⟨Tryz.f94,Tryz.func94,Q4 (by kernel_rfl),by kernel_rfl,rfl,rfl⟩
def c95:VCode:=cof Tryz.f95
theorem Q66:Fun Tryz.prog 95 c95 [.tmp 4] 13:=⟨Tryz.f95,Tryz.func95,Q4 (by kernel_rfl),by kernel_rfl,rfl,rfl⟩
def c96:VCode:=cof Tryz.f96
theorem Q3z:Fun Tryz.prog 96 c96 [] 22:=⟨Tryz.f96,Tryz.func96,Q4 (by kernel_rfl),by kernel_rfl,rfl,rfl⟩
def c97:VCode:=cof Tryz.f97
theorem Q22:Fun Tryz.prog 97 c97 [.tmp 3] 20:=⟨Tryz.f97,Tryz.func97,Q4 (by kernel_rfl),by kernel_rfl,rfl,rfl⟩
def c98:VCode:=cof Tryz.f98
theorem Q5k:Fun Tryz.prog 98 c98 [.tmp 3] 13:=⟨Tryz.f98,Tryz.func98,Q4 (by kernel_rfl),by kernel_rfl,rfl,rfl⟩
def c99:VCode:=cof Tryz.f99
theorem Q4g:Fun Tryz.prog 99 c99 [.tmp 4] 43:=⟨Tryz.f99,Tryz.func99,Q4 (by kernel_rfl),by kernel_rfl,rfl,rfl⟩
def Q82:VCode:=cof Tryz.f100
theorem Q0t:Fun Tryz.prog 100 Q82 [.tmp 4] 9:=⟨Tryz.f100,Tryz.func100,Q4 (by kernel_rfl),by kernel_rfl,rfl,rfl⟩
def Q78:VCode:=cof Tryz.f101
theorem OX:Fun Tryz.prog 101 Q78 [] 19:=⟨Tryz.f101,Tryz.func101,Q4 (by kernel_rfl),by kernel_rfl,rfl,rfl⟩
def Q7j:VCode:=cof Tryz.f102
theorem Oo:Fun Tryz.prog 102 Q7j [] 49:=⟨Tryz.f102,Tryz.func102,Q4 (by kernel_rfl),by kernel_rfl,rfl,rfl⟩
def Q83:VCode:=cof Tryz.f103
theorem Q05:Fun Tryz.prog 103 Q83 [] 56:=⟨Tryz.f103,Tryz.func103,Q4 (by kernel_rfl),by kernel_rfl,rfl,rfl⟩
def Q7d:VCode:=cof Tryz.f104
theorem Q0g:Fun Tryz.prog 104 Q7d [] 65:=⟨Tryz.f104,Tryz.func104,Q4 (by kernel_rfl),by kernel_rfl,rfl,rfl⟩
def Q7y:VCode:=cof Tryz.f105
theorem Ox:Fun Tryz.prog 105 Q7y [.tmp 6,.tmp 7] 57:=⟨Tryz.f105,Tryz.func105,Q4 (by kernel_rfl),by kernel_rfl,rfl,rfl⟩
def Q8h:VCode:=cof Tryz.f106
theorem O_:Fun Tryz.prog 106 Q8h [] 32:=⟨Tryz.f106,Tryz.func106,Q4 (by kernel_rfl),by kernel_rfl,rfl,rfl⟩
def Q8m:VCode:=cof Tryz.f107
theorem OQ:Fun Tryz.prog 107 Q8m [.tmp 6] 133:=⟨Tryz.f107,Tryz.func107,Q4 (by kernel_rfl),by kernel_rfl,rfl,rfl⟩
def Q75:VCode:=cof Tryz.f108
theorem Q0b:Fun Tryz.prog 108 Q75 [.tmp 4] 17:=⟨Tryz.f108,Tryz.func108,Q4 (by kernel_rfl),by kernel_rfl,rfl,rfl⟩
def Q8c:VCode:=cof Tryz.f109
theorem On:Fun Tryz.prog 109 Q8c [.tmp 8] 84:=⟨Tryz.f109,Tryz.func109,Q4 (by kernel_rfl),by kernel_rfl,rfl,rfl⟩
def Q8a:VCode:=cof Tryz.f110
theorem OD:Fun Tryz.prog 110 Q8a [.tmp 8,.tmp 9] 168:=⟨Tryz.f110,Tryz.func110,Q4 (by kernel_rfl),by kernel_rfl,rfl,rfl⟩
def Q76:VCode:=cof Tryz.f111
theorem Q0q:Fun Tryz.prog 111 Q76 [.tmp 2] 19:=⟨Tryz.f111,Tryz.func111,Q4 (by kernel_rfl),by kernel_rfl,rfl,rfl⟩
def Q87:VCode:=cof Tryz.f112
theorem OW:Fun Tryz.prog 112 Q87 [.tmp 2] 25:=⟨Tryz.f112,Tryz.func112,Q4 (by kernel_rfl),by kernel_rfl,rfl,rfl⟩
def Q7s:VCode:=cof Tryz.f114
theorem Q0r:Fun Tryz.prog 114 Q7s [.tmp 4] 17:=⟨Tryz.f114,Tryz.func114,Q4 (by kernel_rfl),by kernel_rfl,rfl,rfl⟩
def Q7q:VCode:=cof Tryz.f115
theorem OC:Fun Tryz.prog 115 Q7q [.tmp 4] 23:=⟨Tryz.f115,Tryz.func115,Q4 (by kernel_rfl),by kernel_rfl,rfl,rfl⟩
def Q80:VCode:=cof Tryz.f116
theorem ON:Fun Tryz.prog 116 Q80 [.cell 2 true 256,.tmp 3] 21:=⟨Tryz.f116,Tryz.func116,Q4 (by kernel_rfl),by kernel_rfl,rfl,rfl⟩
def Q7p:VCode:=cof Tryz.f117
theorem OV:Fun Tryz.prog 117 Q7p [.tmp 4] 16:=⟨Tryz.f117,Tryz.func117,Q4 (by kernel_rfl),by kernel_rfl,rfl,rfl⟩
def Q7l:VCode:=cof Tryz.f118
theorem Q0h:Fun Tryz.prog 118 Q7l [.tmp 4] 22:=⟨Tryz.f118,Tryz.func118,Q4 (by kernel_rfl),by kernel_rfl,rfl,rfl⟩
def Q7i:VCode:=cof Tryz.f119
theorem OM:Fun Tryz.prog 119 Q7i [.tmp 4] 23:=⟨Tryz.f119,Tryz.func119,Q4 (by kernel_rfl),by kernel_rfl,rfl,rfl⟩
def Q6y:VCode:=cof Tryz.f120
theorem Q0n:Fun Tryz.prog 120 Q6y [.tmp 4] 34:=⟨Tryz.f120,Tryz.func120,Q4 (by kernel_rfl),by kernel_rfl,rfl,rfl⟩
def Q7c:VCode:=cof Tryz.f121
theorem Q0s:Fun Tryz.prog 121 Q7c [.tmp 4] 19:=⟨Tryz.f121,Tryz.func121,Q4 (by kernel_rfl),by kernel_rfl,rfl,rfl⟩
def Q86:VCode:=cof Tryz.f122
theorem OO:Fun Tryz.prog 122 Q86 [] 76:=⟨Tryz.f122,Tryz.func122,Q4 (by kernel_rfl),by kernel_rfl,rfl,rfl⟩
def Q7x:VCode:=cof Tryz.f123
theorem OU:Fun Tryz.prog 123 Q7x [.tmp 2] 7:=⟨Tryz.f123,Tryz.func123,Q4 (by kernel_rfl),by kernel_rfl,rfl,rfl⟩
def Q7u:VCode:=cof Tryz.f124
theorem Q0k:Fun Tryz.prog 124 Q7u [.tmp 2] 33:=⟨Tryz.f124,Tryz.func124,Q4 (by kernel_rfl),by kernel_rfl,rfl,rfl⟩
def Q72:VCode:=cof Tryz.f125
theorem Q0u:Fun Tryz.prog 125 Q72 [.tmp 6] 15:=⟨Tryz.f125,Tryz.func125,Q4 (by kernel_rfl),by kernel_rfl,rfl,rfl⟩
def Q8p:VCode:=cof Tryz.f126
theorem OG:Fun Tryz.prog 126 Q8p [.tmp 10] 36:=⟨Tryz.f126,Tryz.func126,Q4 (by kernel_rfl),by kernel_rfl,rfl,rfl⟩
def Q89:VCode:=cof Tryz.f127
theorem Om:Fun Tryz.prog 127 Q89 [.tmp 2] 6:=⟨Tryz.f127,Tryz.func127,Q4 (by kernel_rfl),by kernel_rfl,rfl,rfl⟩
def Q7w:VCode:=cof Tryz.f128
theorem Ov:Fun Tryz.prog 128 Q7w [.tmp 4] 10:=⟨Tryz.f128,Tryz.func128,Q4 (by kernel_rfl),by kernel_rfl,rfl,rfl⟩
def Q74:VCode:=cof Tryz.f129
theorem Q03:Fun Tryz.prog 129 Q74 [.tmp 2,.tmp 3] 19:=⟨Tryz.f129,Tryz.func129,Q4 (by kernel_rfl),by kernel_rfl,rfl,rfl⟩
def Q7a:VCode:=cof Tryz.f130
theorem Q00:Fun Tryz.prog 130 Q7a [.tmp 4] 9:=⟨Tryz.f130,Tryz.func130,Q4 (by kernel_rfl),by kernel_rfl,rfl,rfl⟩
def Q7k:VCode:=cof Tryz.f131
theorem Ou:Fun Tryz.prog 131 Q7k [.tmp 2,.tmp 3] 51:=⟨Tryz.f131,Tryz.func131,Q4 (by kernel_rfl),by kernel_rfl,rfl,rfl⟩
def Q88:VCode:=cof Tryz.f132
theorem Q0j:Fun Tryz.prog 132 Q88 [.tmp 8,.tmp 9] 28:=⟨Tryz.f132,Tryz.func132,Q4 (by kernel_rfl),by kernel_rfl,rfl,rfl⟩
def Q73:VCode:=cof Tryz.f133
theorem Q0l:Fun Tryz.prog 133 Q73 [.tmp 2,.tmp 3] 117:=⟨Tryz.f133,Tryz.func133,Q4 (by kernel_rfl),by kernel_rfl,rfl,rfl⟩
def Q7o:VCode:=cof Tryz.f134
theorem OL:Fun Tryz.prog 134 Q7o [.tmp 4] 187:=⟨Tryz.f134,Tryz.func134,Q4 (by kernel_rfl),by kernel_rfl,rfl,rfl⟩
def Q8g:VCode:=cof Tryz.f135
theorem Q04:Fun Tryz.prog 135 Q8g [.tmp 2] 6:=⟨Tryz.f135,Tryz.func135,Q4 (by kernel_rfl),by kernel_rfl,rfl,rfl⟩
def Q77:VCode:=cof Tryz.f136
theorem Q0d:Fun Tryz.prog 136 Q77 [.tmp 4] 8:=⟨Tryz.f136,Tryz.func136,Q4 (by kernel_rfl),by kernel_rfl,rfl,rfl⟩
def Q7b:VCode:=cof Tryz.f137
theorem Q02:Fun Tryz.prog 137 Q7b [.tmp 2] 17:=⟨Tryz.f137,Tryz.func137,Q4 (by kernel_rfl),by kernel_rfl,rfl,rfl⟩
def Q8j:VCode:=cof Tryz.f138
theorem Q0m:Fun Tryz.prog 138 Q8j [.tmp 2] 6:=⟨Tryz.f138,Tryz.func138,Q4 (by kernel_rfl),by kernel_rfl,rfl,rfl⟩
def Q7z:VCode:=cof Tryz.f140
theorem Q0c:Fun Tryz.prog 140 Q7z [.tmp 4] 8:=⟨Tryz.f140,Tryz.func140,Q4 (by kernel_rfl),by kernel_rfl,rfl,rfl⟩
theorem Po:O7 Tryz.prog 113 (some .same):=Iq (e:=Extern.AbiNoEscape.same) Tryz.func113 (by kernel_rfl) (by kernel_rfl) (by kernel_rfl) (by kernel_rfl) (fun _ _=>rfl)
end Go.Proofs.Tryz
namespace Go.V
open Go
inductive Kind where
 |i (k:IntKind)
 |bo
 |st
 |list (k:Kind)
 |pair (a b:Kind)
 deriving DecidableEq,Inhabited
abbrev Kind.T:Kind→Type
 |.i _=>Int
 |.bo=>Bool
 |.st=>List UInt8
 |.list k=>List k.T
 |.pair a b=>a.T×b.T
def Kind.size:Kind→Nat
 |.pair a b=>a.size+b.size
 |_=>1
def Kind.dflt:(k:Kind)→k.T
 |.i _=>(0:Int)
 |.bo=>false
 |.st=>([]:List UInt8)
 |.list _=>[]
 |.pair a b=>(a.dflt,b.dflt)
def Kind.one:Kind→Bool
 |.pair _ _=>false
 |_=>true
theorem Kind.size_pos:∀ k:Kind,0<k.size
 |.pair a b=>by have:=a.size_pos;simp only[Kind.size];omega
 |.i _|.bo|.st|.list _=>by simp[Kind.size]
theorem Kind.one_size:∀ {k:Kind},k.one=true→k.size=1
 |.pair _ _,h=>by cases h
 |.i _,_|.bo,_|.st,_|.list _,_=>rfl
def Kind.prim:Kind→Bool
 |.i _|.bo|.st=>true
 |_=>false
def Kind.keyk:Kind→Bool
 |.pair a b=>a.keyk&&b.keyk
 |k=>k.prim
abbrev AT:List Kind→Type
 |[]=>Unit
 |[k]=>k.T
 |k::k'::ks=>k.T×AT (k'::ks)
structure Gd where
 id:Nat
 want:Bool
 c:Bool
inductive DW where
 |out
 |el (i:Int) (off sz:Nat)
 |row (k:Kind) (x:List k.T) (i:Int)
 |rowp (k:Kind) (x:List k.T) (i j:Int) (off:Nat)
 |inn (k:Kind) (x:List k.T)
 |inp (k:Kind) (l:List k.T) (j:Int) (off:Nat)
 |dat
 |obx (c:Bool)
 |yv
inductive SV where
 |dd (o:Nat) (w:DW)
 |any
 |val (k:Kind) (x:k.T)
 |bid (n:Nat) (c:Bool)
 |grd (gs:List Gd) (v:SV)
 |nilS
 |nilP
 |nilM
 |nilF
 |lst (o:Nat)
 |sub (o:Nat) (lo n sz:Nat)
 |elp (o:Nat) (i:Int) (off sz:Nat)
 |rop (k:Kind) (l:List k.T) (i:Int) (off:Nat)
 |box (o:Nat) (off:Nat)
 |cp (l:List SV) (off:Nat)
 |map (o:Nat)
 |agg (l:List SV)
 |tup (l:List SV)
 |fn (f:Nat) (first dt:List SV)
 |pf (ks:List Kind) (r:Kind) (cR:AT ks→Prop) (p:AT ks→r.T)
structure LpD where
 i:Nat
 vals:List Value
 r:Loop
inductive LpS where
 |busy
 |rdy
 |ret
 |exit (id:Nat)
def LpS.st:LpS→LoopState
 |.busy=>.busy
 |.rdy=>.ready
 |.ret=>.done
 |.exit _=>.done
def LpS.pend:LpS→Option Code
 |.busy=>none
 |.rdy=>none
 |.ret=>some .ret
 |.exit id=>some (.exit id)
def LpS.live:LpS→Bool
 |.busy=>false
 |_=>true
inductive OB where
 |dead
 |lst (ty:Nat) (k:Kind) (xs:List k.T) (nl:Bool)
 |cells (l:List SV) (u:Option Nat)
 |map (kk vk:Kind) (m:List (kk.T×vk.T))
 |stk (l:List SV) (vals:List Value)
 |deep (ty:Nat) (q:Option Nat) (k:Kind) (xs:List k.T) (nl:Bool) (hole:Option Nat)
 |iter (kk vk:Kind) (m:List (kk.T×vk.T)) (dn:List Nat)
 |mapE (kk vk:Kind) (m:List (kk.T×vk.T)) (key:kk.T) (n:Int)
 |lpf (l:List SV) (q:LpD) (s:LpS)
instance:Inhabited SV:=⟨.any⟩
instance:Inhabited OB:=⟨.dead⟩
inductive Rows {α:Type}(R:α→List Value→Prop):List α→List Value→Prop
 |nil:Rows R [] []
 |cons {x:α}{xs:List α}{c cs:List Value}(h:R x c) (t:Rows R xs cs):Rows R (x::xs) (c++cs)
def SlRel (h:Heap) (sz:Nat) {α:Type}(R:α→List Value→Prop) (l:List α) (v:Value):Prop :=
 (l=[]∧v=.slice none 0 0)∨∃ i o cap c e wr t,v=.slice (some ⟨i,o,none⟩) l.length cap∧l.length≤cap∧h.get i=some (.cells c e wr t)∧e.sz=sz∧o+l.length*sz≤c.length∧Rows R l ((c.drop o).take (l.length*sz))
def KC (h:Heap):(k:Kind)→k.T→List Value→Prop
 |.i ik,x,cs=>cs=[.int ik x]
 |.bo,x,cs=>cs=[.bool x]
 |.st,x,cs=>cs=[.string ⟨x.toArray⟩]
 |.list k,l,cs=>∃ v,cs=[v]∧SlRel h k.size (fun x c=>KC h k x c) l v
 |.pair a b,x,cs=>∃ c1 c2,cs=c1++c2∧KC h a x.1 c1∧KC h b x.2 c2
theorem Rows.length {α:Type}{R:α→List Value→Prop}{n:Nat}(hR:∀ x c,R x c→c.length=n) {xs:List α}{cs:List Value}(h:Rows R xs cs):cs.length=xs.length*n:=by
 induction h with
 |nil=>simp
 |cons h _ ih=>simp only[List.length_append,hR _ _ h,ih,List.length_cons,Nat.add_mul,Nat.one_mul];omega
theorem Rows.mono {α:Type}{R R':α→List Value→Prop}(hR:∀ x c,R x c→R' x c) {xs:List α}{cs:List Value}(h:Rows R xs cs):Rows R' xs cs:=by
 induction h with
 |nil=>exact .nil
 |cons h _ ih=>exact .cons (hR _ _ h) ih
theorem Rows.append {α:Type}{R:α→List Value→Prop}{xs ys:List α}{cs ds:List Value}(h:Rows R xs cs) (h':Rows R ys ds):Rows R (xs++ys) (cs++ds):=by
 induction h with
 |nil=>exact h'
 |cons h _ ih=>rw[List.append_assoc];exact .cons h ih
theorem Rows.at {α:Type}{R:α→List Value→Prop}{n:Nat}(hR:∀ x c,R x c→c.length=n) {xs:List α}{cs:List Value}(h:Rows R xs cs) {k:Nat}(hk:k<xs.length):R xs[k] ((cs.drop (k*n)).take n):=by
 induction h generalizing k with
 |nil=>simp at hk
 |@cons x xs c cs h t ih =>
  have hc:=hR _ _ h;cases k with
  |zero=>simp only[Nat.zero_mul,List.drop_zero,List.getElem_cons_zero];rw[←hc,List.take_left];exact h
  |succ k =>
   have:=ih (k:=k) (by simpa using hk);rw[List.getElem_cons_succ,Nat.add_mul,Nat.one_mul];have e:(c++cs).drop (k*n+n)=cs.drop (k*n):=by rw[List.drop_append,hc];rw[List.drop_eq_nil_of_le (by omega)];simp
   rw[e];exact this
theorem Rows.take {α:Type}{R:α→List Value→Prop}{n:Nat}(hR:∀ x c,R x c→c.length=n) {xs:List α}{cs:List Value}(h:Rows R xs cs) (k:Nat):Rows R (xs.take k) (cs.take (k*n)):=by
 induction h generalizing k with
 |nil=>simp;exact .nil
 |@cons x xs c cs h t ih =>
  have hc:=hR _ _ h;cases k with
  |zero=>simp;exact .nil
  |succ k =>have e1:c.take ((k+1)*n)=c:=List.take_of_length_le (by rw[hc,Nat.add_mul];omega);rw[List.take_succ_cons,List.take_append,hc,show (k+1)*n-n=k*n by rw[Nat.add_mul];omega,e1];exact .cons h (ih k)
theorem Rows.drop {α:Type}{R:α→List Value→Prop}{n:Nat}(hR:∀ x c,R x c→c.length=n) {xs:List α}{cs:List Value}(h:Rows R xs cs) (k:Nat):Rows R (xs.drop k) (cs.drop (k*n)):=by
 induction h generalizing k with
 |nil=>simp;exact .nil
 |@cons x xs c cs h t ih =>
  have hc:=hR _ _ h;cases k with
  |zero=>simp;exact .cons h t
  |succ k =>have e1:c.drop ((k+1)*n)=[]:=List.drop_eq_nil_of_le (by rw[hc,Nat.add_mul];omega);rw[List.drop_succ_cons,List.drop_append,hc,show (k+1)*n-n=k*n by rw[Nat.add_mul];omega,e1,List.nil_append];exact ih k
theorem Rows.set {α:Type}{R:α→List Value→Prop}{n:Nat}(hR:∀ x c,R x c→c.length=n) {xs:List α}{cs:List Value}(h:Rows R xs cs) {k:Nat}(hk:k<xs.length) {y:α}{d:List Value}(hd:R y d):Rows R (xs.set k y) (cs.take (k*n)++d++cs.drop (k*n+n)):=by
 have e:xs.set k y=xs.take k++([y]++xs.drop (k+1)):=by rw[List.set_eq_take_append_cons_drop,if_pos hk];rfl
 rw[e,List.append_assoc];have h2:=h.drop hR (k+1);rw[Nat.add_mul,Nat.one_mul] at h2;exact(h.take hR k).append ((show Rows R [y] d by simpa using Rows.cons hd .nil).append h2)
theorem Rows.replicate {α:Type}{R:α→List Value→Prop}{x:α}{c:List Value}(h:R x c):∀ n,Rows R (List.replicate n x) (List.replicate n c).flatten
 |0=>by simp;exact .nil
 |n+1=>by simp only[List.replicate_succ,List.flatten_cons];exact .cons h (Rows.replicate h n)
theorem KC.length {h:Heap}:∀ {k:Kind}{x:k.T}{cs:List Value},KC h k x cs→cs.length=k.size
 |.i _,_,_,e|.bo,_,_,e|.st,_,_,e=>by simp only[KC] at e;subst e;rfl
 |.list k,l,cs,e=>by obtain⟨v,rfl,_⟩:=e;rfl
 |.pair a b,x,cs,e=>by obtain⟨c1,c2,rfl,h1,h2⟩:=e;simp only[List.length_append,KC.length h1,KC.length h2,Kind.size]
theorem SlRel.mono {h h':Heap}(hl:h.Le h') {sz:Nat}{α:Type}{R R':α→List Value→Prop}(hR:∀ x c,R x c→R' x c) {l:List α}{v:Value}(hs:SlRel h sz R l v):SlRel h' sz R' l v:=by
 rcases hs with hs|⟨i,o,cap,c,e,wr,t,h1,h2,h3,h4,h5,h6⟩
 ·exact .inl hs
 ·exact .inr ⟨i,o,cap,c,e,wr,t,h1,h2,hl.2 _ _ h3,h4,h5,h6.mono hR⟩
theorem KC.mono {h h':Heap}(hl:h.Le h'):∀ {k:Kind}{x:k.T}{cs:List Value},KC h k x cs→KC h' k x cs
 |.i _,_,_,e|.bo,_,_,e|.st,_,_,e=>e
 |.list k,l,cs,e=>by obtain⟨v,hv,hs⟩:=e;exact⟨v,hv,hs.mono hl fun x c hx=>KC.mono (k:=k) hl hx⟩
 |.pair a b,x,cs,e=>by obtain⟨c1,c2,hc,h1,h2⟩:=e;exact⟨c1,c2,hc,KC.mono hl h1,KC.mono hl h2⟩
theorem KC.cellOk {h:Heap}:∀ {k:Kind}{x:k.T}{cs:List Value},KC h k x cs→cs.all cellOk=true
 |.i _,_,_,e|.bo,_,_,e|.st,_,_,e=>by simp only[KC] at e;subst e;rfl
 |.list k,l,cs,e=>by obtain⟨v,rfl,hs⟩:=e;rcases hs with⟨_,rfl⟩|⟨i,o,cap,c,e,wr,t,rfl,_⟩<;>rfl
 |.pair a b,x,cs,e=>by obtain⟨c1,c2,rfl,h1,h2⟩:=e;rw[List.all_append,KC.cellOk h1,KC.cellOk h2];rfl
def VM:(k:Kind)→k.T→List SV
 |.pair a b,x=>VM a x.1++VM b x.2
 |.i k,x=>[.val (.i k) x]
 |.bo,x=>[.val .bo x]
 |.st,x=>[.val .st x]
 |.list k,x=>[.val (.list k) x]
def Ic:(k:Kind)→k.T→SV
 |.pair a b,x=>.agg (VM (.pair a b) x)
 |.i k,x=>.val (.i k) x
 |.bo,x=>.val .bo x
 |.st,x=>.val .st x
 |.list k,x=>.val (.list k) x
inductive RowsO {α:Type}(R:α→List Value→List Nat→Prop):List α→List Value→List Nat→Prop
 |nil:RowsO R [] [] []
 |cons {x:α}{xs:List α}{c cs:List Value}{is js:List Nat}(h:R x c is) (t:RowsO R xs cs js):RowsO R (x::xs) (c++cs) (is++js)
def KO (H:Heap):(q:Option Nat)→(k:Kind)→k.T→List Value→List Nat→Prop
 |_,.i ik,x,cs,is=>cs=[.int ik x]∧is=[]
 |_,.bo,x,cs,is=>cs=[.bool x]∧is=[]
 |_,.st,x,cs,is=>cs=[.string ⟨x.toArray⟩]∧is=[]
 |q,.list k,l,cs,is=>(l=[]∧cs=[.slice none 0 0]∧is=[])∨∃ i cap c e t js,cs=[.slice (some ⟨i,0,none⟩) l.length cap]∧is=i::js∧l.length≤cap∧H.get i=some (.cells c e true t)∧e.sz=k.size∧(∀ ty,q=some ty→e.ty=ty)∧cap*k.size≤c.length ∧
   RowsO (fun x c is=>KO H none k x c is) l (c.take (l.length*k.size)) js
 |_,.pair a b,x,cs,is=>∃ c1 c2 i1 i2,cs=c1++c2∧is=i1++i2∧KO H none a x.1 c1 i1∧KO H none b x.2 c2 i2
def Q9p (i:Nat):Blk→Value
 |.cells c e _ t=>.tuple #[.int .i64 (i:Nat),.agg c.toArray,.int .i64 (e.sz:Nat),.int .i64 (e.ty:Nat),.bool t]
 |_=>.bool true
def Q9b:Value→Option (Nat×Blk)
 |.tuple ⟨[.int _ i,.agg c,.int _ sz,.int _ ty,.bool t]⟩=>some (i.toNat,.cells c.toList ⟨sz.toNat,ty.toNat⟩ true t)
 |_=>none
def Q5f:List Value→List (Nat×Blk)
 |[]=>[]
 |v::vs=>match Q9b v with|some p=>p::Q5f vs|none=>Q5f vs
def PX:List (Nat×Blk)→Nat→Option Blk
 |[],_=>none
 |(j,b)::r,i=>if i=j then some b else PX r i
def Ng:List (Nat×Blk)→Nat
 |[]=>0
 |(j,_)::r=>max (j+1) (Ng r)
theorem R4:∀ (l:List (Nat×Blk)) (i:Nat),Ng l≤i→PX l i=none
 |[],_,_=>rfl
 |(j,b)::r,i,h=>by
  simp only[Ng] at h;have:¬ i=j:=by omega
  simp only[PX,if_neg this];exact R4 r i (by omega)
def Q1v (l:List (Nat×Blk)):Heap:=⟨PX l,Ng l,fun i h=>R4 l i h⟩
def phd:Value→Value
 |.tuple ⟨v::_⟩=>v
 |v=>v
def Jw:Value→Heap
 |.tuple ⟨_::vs⟩=>Q1v (Q5f vs)
 |_=>Q1v []
def DR (p:Value):DW→Value→Prop
 |.out,v=>v=phd p∧∃ a n c,v=.slice a n c
 |.el i off sz,v=>∃ b len cap,phd p=.slice (some ⟨b,0,none⟩) len cap∧0≤i∧i<len∧v=.pointer (some ⟨b,i.toNat*sz+off,none⟩)
 |.row k x i,v=>KC (Jw p) (.list k) x [v]∧(∀ a n c,v=.slice (some a) n c→a.off=0)∧∃ b len cap c e t,phd p=.slice (some ⟨b,0,none⟩) len cap∧0≤i∧i<len∧(Jw p).get b=some (.cells c e true t)∧c[i.toNat]?=some v
 |.rowp k x i j off,v=>∃ b len cap c e t r rl rc bM re rt,phd p=.slice (some ⟨b,0,none⟩) len cap∧0≤i∧i<len∧(Jw p).get b=some (.cells c e true t)∧c[i.toNat]?=some (.slice (some ⟨r,0,none⟩) rl rc)∧0≤j∧j<rl∧x.length=rl∧(Jw p).get r=some (.cells bM re true rt)∧rl*k.size≤bM.length∧Rows (KC (Jw p) k) x (bM.take (rl*k.size))∧v=.pointer (some ⟨r,j.toNat*k.size+off,none⟩)
 |.inn k x,v=>KC (Jw p) (.list k) x [v]
 |.inp k l j off,v=>∃ b o c e wr t,0≤j∧j<l.length∧(Jw p).get b=some (.cells c e wr t)∧v=.pointer (some ⟨b,o+j.toNat*k.size+off,none⟩)∧o+l.length*k.size≤c.length∧Rows (KC (Jw p) k) l ((c.drop o).take (l.length*k.size))
 |.dat,v=>(phd p=.slice none 0 0∧v=.pointer none)∨∃ b n cap,phd p=.slice (some ⟨b,0,none⟩) n cap∧0<n∧v=.pointer (some ⟨b,0,none⟩)
 |.yv,v=>∃ i,p=.pointer (some ⟨i,0,none⟩)∧v=.func (.yield i) #[] #[]
 |.obx c,v=>(c=false∧v=.pointer none)∨(c=true∧∃ b,phd p=.pointer (some ⟨b,0,none⟩)∧v=.pointer (some ⟨b,0,none⟩))
def KV (h:Heap) (k:Kind) (x:k.T) (v:Value):Prop:=(k.one=true∧KC h k x [v])∨(k.one=false∧∃ cs,v=.agg cs.toArray∧KC h k x cs)
theorem KV.mono {h h':Heap}(hl:h.Le h') {k:Kind}{x:k.T}{v:Value}(e:KV h k x v):KV h' k x v:=by
 rcases e with⟨ho,e⟩|⟨ho,cs,hv,e⟩
 ·exact .inl ⟨ho,e.mono hl⟩
 ·exact .inr ⟨ho,cs,hv,e.mono hl⟩
def HU (h:Heap):(ks:List Kind)→AT ks→List Value→Prop
 |[],_,vs=>vs=[]
 |[k],x,vs=>∃ v,vs=[v]∧KV h k x v
 |k::k'::ks,x,vs=>∃ v cT,vs=v::cT∧KV h k x.1 v∧HU h (k'::ks) x.2 cT
def gtb (tb:Nat→Option Bool):SV→Prop
 |.bid n c=>tb n=some c
 |_=>True
section
variable (P:Program)
def PfRel (B:Heap) (ks:List Kind) (r:Kind) (cR:AT ks→Prop) (p:AT ks→r.T) (v:Value):Prop :=
 ∃ g first cap,v=.func (.func g) first cap∧∀ x,cR x→∀ σ vs,B.Le σ→HU σ ks x vs→VCalled P g (first.toList++vs++cap.toList) σ fun v' σ'=>σ'=σ∧KV σ r (p x) v'
mutual
def SR (B:Heap) (pl:Nat→Value) (tb:Nat→Option Bool):SV→Value→Prop
 |.any,_=>True
 |.val k x,v=>KC B k x [v]
 |.bid n c,v=>v=.bool c∧tb n=some c
 |.grd gs v,u=>((∀ g∈gs,tb g.id=some g.c)∧gtb tb v)∧((∀ g∈gs,g.c=g.want)→SR B pl tb v u)∧((∃ g∈gs,g.c≠g.want)→u=undef)
 |.nilS,v=>v=.slice none 0 0
 |.nilP,v=>v=.pointer none
 |.nilM,v=>v=.map none
 |.nilF,v=>v=.nilFunc
 |.lst o,v=>v=pl o∧∃ a n c,v=.slice a n c
 |.sub o lo n sz,v=>(lo=0∧n=0∧v=.slice none 0 0∧pl o=.slice none 0 0)∨∃ i len cap aw,pl o=.slice (some ⟨i,0,none⟩) len cap∧lo+n≤len∧n≤aw∧v=.slice (some ⟨i,lo*sz,none⟩) n aw
 |.elp o i off sz,v=>∃ b len cap,pl o=.slice (some ⟨b,0,none⟩) len cap∧0≤i∧i<len∧v=.pointer (some ⟨b,i.toNat*sz+off,none⟩)
 |.rop k l i off,v=>∃ b o c e wr t,0≤i∧i<l.length∧B.get b=some (.cells c e wr t)∧v=.pointer (some ⟨b,o+i.toNat*k.size+off,none⟩)∧o+l.length*k.size≤c.length∧Rows (KC B k) l ((c.drop o).take (l.length*k.size))
 |.box o off,v=>∃ b,pl o=.pointer (some ⟨b,0,none⟩)∧v=.pointer (some ⟨b,off,none⟩)
 |.cp l off,v=>∃ b c e wr t,B.get b=some (.cells c e wr t)∧v=.pointer (some ⟨b,off,none⟩)∧SRs B pl tb l c
 |.map o,v=>v=pl o∧∃ m,v=.map m
 |.agg l,v=>∃ cs,v=.agg cs.toArray∧SRs B pl tb l cs
 |.tup l,v=>∃ cs,v=.tuple cs.toArray∧SRs B pl tb l cs
 |.dd o w,v=>DR (pl o) w v
 |.fn f first dt,v=>∃ a b,v=.func (.func f) a.toArray b.toArray∧SRs B pl tb first a∧SRs B pl tb dt b
 |.pf ks r cR p,v=>PfRel P B ks r cR p v
def SRs (B:Heap) (pl:Nat→Value) (tb:Nat→Option Bool):List SV→List Value→Prop
 |[],vs=>vs=[]
 |s::ss,vs=>∃ v cT,vs=v::cT∧SR B pl tb s v∧SRs B pl tb ss cT
end
end
end Go.V
namespace Go.V
open Go
abbrev Own:=List (Nat×OB)
def Qe:Own→Nat→OB
 |[],_=>.dead
 |(k,b)::r,d=>bif Nat.beq k d then b else Qe r d
def oset:Own→Nat→OB→Own
 |[],d,b=>[(d,b)]
 |(k,c)::r,d,b=>bif Nat.beq k d then (d,b)::r else bif Nat.blt d k then (d,b)::(k,c)::r else (k,c)::oset r d b
structure St where
 env:List SV
 own:Own
 nx:Nat
mutual
def SV.kill (o:Nat):SV→SV
 |.lst o'=>bif Nat.beq o' o then .any else .lst o'
 |.sub o' lo n sz=>bif Nat.beq o' o then .any else .sub o' lo n sz
 |.elp o' i off sz=>bif Nat.beq o' o then .any else .elp o' i off sz
 |.dd o' w=>bif Nat.beq o' o then .any else .dd o' w
 |.box o' off=>bif Nat.beq o' o then .any else .box o' off
 |.map o'=>bif Nat.beq o' o then .any else .map o'
 |.grd gs v=>.grd gs (SV.kill o v)
 |.agg l=>.agg (SVs.kill o l)
 |.tup l=>.tup (SVs.kill o l)
 |.cp l off=>.cp (SVs.kill o l) off
 |.fn f a b=>.fn f (SVs.kill o a) (SVs.kill o b)
 |.any=>.any
 |.val k x=>.val k x
 |.bid n c=>.bid n c
 |.nilS=>.nilS
 |.nilP=>.nilP
 |.nilM=>.nilM
 |.nilF=>.nilF
 |.rop k l i off=>.rop k l i off
 |.pf ks r cR p=>.pf ks r cR p
def SVs.kill (o:Nat):List SV→List SV
 |[]=>[]
 |s::ss=>SV.kill o s::SVs.kill o ss
end
def OB.kill (o:Nat):OB→OB
 |.cells l u=>.cells (SVs.kill o l) u
 |.dead=>.dead
 |.lst ty k xs nl=>.lst ty k xs nl
 |.map kk vk m=>.map kk vk m
 |.stk l vals=>.stk (SVs.kill o l) vals
 |.deep ty q k xs nl h=>.deep ty q k xs nl h
 |.iter kk vk m dn=>.iter kk vk m dn
 |.mapE kk vk m key n=>.mapE kk vk m key n
 |.lpf l q s=>.lpf (SVs.kill o l) q s
def Ab (o:Nat):Own→Own
 |[]=>[]
 |(k,b)::r=>bif Nat.beq k o then Ab o r else (k,b.kill o)::Ab o r
def St.kill (s:St) (o:Nat):St:=⟨SVs.kill o s.env,Ab o s.own,s.nx⟩
def St.make (s:St) (o:Nat) (b:OB):St:=⟨(s.kill o).env,oset (s.kill o).own o b,s.nx⟩
def St.put (s:St) (d:Option Nat) (v:SV):St:=match d with
 |some d=>⟨s.env.set d v,s.own,s.nx⟩
 |none=>s
def cvp:Value→SV
 |.bool b=>.val .bo b
 |.int k x=>.val (.i k) x
 |.string s=>.val .st s.data.toList
 |.pointer none=>.nilP
 |.slice none 0 0=>.nilS
 |.map none=>.nilM
 |.nilFunc=>.nilF
 |_=>.any
def cv:Value→SV
 |.agg cs=>.agg (cs.toList.map cvp)
 |v=>cvp v
def Q3a:List Gd→List Gd→Bool
 |[],_=>true
 |_::_,[]=>false
 |a::l,b::m=>bif Nat.beq a.id b.id&&(a.want==b.want) then Q3a l m else Q3a (a::l) m
def EP (gs:List Gd):SV→SV
 |.grd g v=>bif Q3a g gs then v else .any
 |v=>v
def gev (gs:List Gd) (env:List SV):Operand→SV
 |.tmp t=>EP gs (env.getD t .any)
 |.const v=>cv v
 |.func f=>.fn f [] []
 |.global _=>.any
def Nk {k:Kind}(l:List k.T) (k':Kind):Option (List k'.T):=if h:k=k' then some (h▸l) else none
def Fh {k:Kind}(x:k.T) (k':Kind):Option k'.T:=if h:k=k' then some (h▸x) else none
def asB:SV→Option Bool
 |.val .bo b=>some b
 |.bid _ c=>some c
 |_=>none
def asI:SV→Option (IntKind×Int)
 |.val (.i k) x=>some (k,x)
 |_=>none
def asS:SV→Option (List UInt8)
 |.val .st x=>some x
 |_=>none
def Kind.flat:Kind→Bool
 |.list _=>false
 |.pair a b=>a.flat&&b.flat
 |_=>true
def view (own:Own) (k:Kind):SV→Option (List k.T)
 |.nilS=>some []
 |.val (.list _k') l=>Nk l k
 |.lst o=>match Qe own o with|.lst _ _k' xs _=>Nk xs k|_=>none
 |.sub o lo n sz=>match Qe own o with|.lst _ k' xs _=>if sz=k'.size then (Nk xs k).map fun xs=>(xs.drop lo).take n else none|_=>none
 |.dd o w=>bif k.flat then (match Qe own o with
  |.deep _ _ _ xs _ h=>(match w with
   |.out=>(match h with|none=>Nk xs k|some _=>none)
   |.inn _ l=>Nk l k
   |.row _ l _=>Nk l k
   |_=>none)
  |_=>none) else none
 |_=>none
def Q8n (own:Own):SV→Option Nat
 |.nilS=>some 0
 |.val (.list _) l=>some l.length
 |.lst o=>match Qe own o with|.lst _ _ xs _=>some xs.length|_=>none
 |.sub _ _ n _=>some n
 |.dd o w=>(match Qe own o with
  |.deep _ _ _ xs _ h=>(match w with
   |.out=>(match h with|none=>some xs.length|some _=>none)
   |.inn _ l=>some l.length
   |.row _ l _=>some l.length
   |_=>none)
  |_=>none)
 |_=>none
def SV.solid:SV→Bool
 |.agg _|.tup _|.any|.grd _ _=>false
 |_=>true
def UA:SV→Option (List SV)
 |.agg l=>bif l.all SV.solid then some l else none
 |.tup _=>none
 |.any=>none
 |.grd _ _=>none
 |v=>some [v]
def BX:(k:Kind)→List SV→Option k.T
 |.i ik,[v]=>match v with|.val (.i rQ) x=>if ik=rQ then some x else none|_=>none
 |.bo,[v]=>asB v
 |.st,[v]=>asS v
 |.list k,[v]=>match v with|.nilS=>some []|.val (.list _k') l=>Nk l k|_=>none
 |.pair a b,l=>match BX a (l.take a.size),BX b (l.drop a.size) with
  |some x,some y=>some (x,y)
  |_,_=>none
 |_,_=>none
def dkV (k:Kind) (v:SV):Option k.T:=bif k.one then BX k [v] else match v with|.agg l=>BX k l|_=>none
def Eo (k:Kind) (z:Value):List Value:=bif k.one then [z] else match z with|.agg a=>a.toList|_=>[]
def Q45:(k:Kind)→Nat→SV→k.T→Option k.T
 |.pair a b,off,v,x=>bif Nat.blt off a.size then (Q45 a off v x.1).map fun y=>(y,x.2) else (Q45 b (off-a.size) v x.2).map fun y=>(x.1,y)
 |.i ik,_,v,_=>BX (.i ik) [v]
 |.bo,_,v,_=>BX .bo [v]
 |.st,_,v,_=>BX .st [v]
 |.list k,_,v,_=>BX (.list k) [v]
def Kc:Kind→List Value→Bool
 |.i ik,[.int k x]=>decide (ik=k)&&(x==0)
 |.bo,[.bool b]=>!b
 |.st,[.string s]=>s.data.toList.isEmpty
 |.list _,[.slice none 0 0]=>true
 |.pair a b,l=>Kc a (l.take a.size)&&Kc b (l.drop a.size)
 |_,_=>false
def InK (k:IntKind) (x:Int):Prop:=k.min≤x∧x≤k.max
def Q3s:List Gd→Prop→Prop
 |[],p=>p
 |g::gs,p=>g.c=g.want→Q3s gs p
def Tj (gs:List Gd):List Prop→Prop→Prop
 |[],q=>q
 |c::cs,q=>Q3s gs c∧Tj gs cs q
abbrev CSp:=(SV→List SV→Option (Prop×SV))→List SV→Option (Prop×SV×List OB)
abbrev XSp:=Nat→List SV→St→(SV→St→Prop)→Prop
abbrev ISp:=List SV→Option (Prop×Nat×Nat×(Nat→List SV))
abbrev YSp:=List SV→St→(SV→St→Prop)→Prop
abbrev Q3w:=Nat→List SV→Nat×YSp→St→(St→Prop)→Prop
structure Cx where
 kt:List (Nat×Kind)
 cs:List (Nat×CSp)
 nt:Nat
 raw:List Nat
 off:Nat
 xs:List (Nat×XSp)
 it:List (Nat×ISp)
 el:List (Nat×Nat):=[]
 jn:List Nat:=[]
 nm:Bool:=false
 yl:List (Nat×YSp):=[]
 iy:List (Nat×Q3w):=[]
 spl:List Nat:=[]
 xf:List (Nat×Nat):=[]
def Ql {α:Type _}:List (Nat×α)→Nat→Option α
 |[],_=>none
 |(k,x)::r,d=>bif Nat.beq k d then some x else Ql r d
mutual
def BM (own:Own) (bx:List SV→Nat→SV):SV→SV
 |.lst o=>match Qe own o with|.lst _ k xs _=>.val (.list k) xs|_=>.any
 |.sub o lo n sz=>match Qe own o with|.lst _ k xs _=>if sz=k.size then .val (.list k) ((xs.drop lo).take n) else .any|_=>.any
 |.box o off=>match Qe own o with|.cells l _=>bx l off|_=>.any
 |.agg l=>.agg (Dj own bx l)
 |.fn f a b=>.fn f (Dj own bx a) (Dj own bx b)
 |.bid _ c=>.val .bo c
 |.val k x=>.val k x
 |.nilS=>.nilS
 |.nilP=>.nilP
 |.nilM=>.nilM
 |.nilF=>.nilF
 |.rop k l i off=>.rop k l i off
 |.cp l off=>.cp (Dj own bx l) off
 |.pf ks r cR p=>.pf ks r cR p
 |.any=>.any
 |.grd _ _=>.any
 |.elp _ _ _ _=>.any
 |.dd o w=>(match Qe own o with
  |.deep _ _ k xs _ h=>(match w with
   |.out=>(match h with|none=>.val (.list k) xs|some _=>.any)
   |.inn k x=>.val (.list k) x
   |.row k x _=>.val (.list k) x
   |_=>.any)
  |_=>.any)
 |.map _=>.any
 |.tup _=>.any
def Dj (own:Own) (bx:List SV→Nat→SV):List SV→List SV
 |[]=>[]
 |s::ss=>BM own bx s::Dj own bx ss
end
def Q9m (own:Own) (l:List SV):List SV:=Dj own (fun _ _=>.any) l
def Q9i (own:Own) (l:List SV):List SV:=Dj own (fun c off=>.cp (Q9m own c) off) l
def Q9n (own:Own) (l:List SV):List SV:=Dj own (fun c off=>.cp (Q9i own c) off) l
def BK (own:Own) (l:List SV):List SV:=Q9n own l
def DM:BinOp→Int→Int→Int
 |.add,a,b=>a+b
 |.sub,a,b=>a-b
 |_,a,b=>a*b
def MZ (a b:Int):Int:=if b > a then b else a
def Cv (a b:Int):Int:=if b<a then b else a
def Vf (k:IntKind) (x y:Int):Int:=x*2 ^ (Nat.min y.toNat k.bits)
def RU (k:IntKind) (x y:Int):Int:=x.fdiv (2 ^ (Nat.min y.toNat k.bits))
def gfill (c:List SV):List (Nat×Nat×SV)→Option (List SV)
 |[]=>some c
 |(o,sz,v)::rest=>match UA v with
  |some vs=>if vs.length=sz∧o+sz≤c.length then gfill (setS c o vs) rest else none
  |none=>none
 where setS (c:List SV) (o:Nat):List SV→List SV
 |[]=>c
 |v::vs=>setS (c.set o v) (o+1) vs
def GA (agg:Bool) (size:Nat) (l:List SV) (off:Nat):Option SV :=
 bif agg then (if off+size≤l.length then some (.agg ((l.drop off).take size)) else none) else l[off]?
def UC (o:Nat):(k:Kind)→k.T→List SV
 |.pair a b,x=>UC o a x.1++UC o b x.2
 |.list k,x=>[.dd o (.inn k x)]
 |.i k,x=>[.val (.i k) x]
 |.bo,x=>[.val .bo x]
 |.st,x=>[.val .st x]
def Q7r (o:Nat) (i:Int):(k:Kind)→k.T→List SV
 |.list k,x=>[.dd o (.row k x i)]
 |.pair a b,x=>UC o (.pair a b) x
 |.i k,x=>[.val (.i k) x]
 |.bo,x=>[.val .bo x]
 |.st,x=>[.val .st x]
def O3 (own:Own) (agg:Bool) (size:Nat):SV→Option SV
 |.box o off=>match Qe own o with|.cells l _=>GA agg size l off|_=>none
 |.cp l off=>GA agg size l off
 |.elp o i off sz=>match Qe own o with|.lst _ k xs _=>if sz=k.size∧off+size≤sz then GA agg size (VM k (xs.getD i.toNat k.dflt)) off else none|_=>none
 |.rop k l i off=>if off+size≤k.size then GA agg size (VM k (l.getD i.toNat k.dflt)) off else none
 |.dd o w=>(match Qe own o with
  |.deep _ _ k xs _ h=>(match h with
   |none=>(match w with
    |.el i off sz=>if sz=k.size∧off+size≤sz then GA agg size (Q7r o i k (xs.getD i.toNat k.dflt)) off else none
    |.rowp k' x _ j off=>if off+size≤k'.size then GA agg size (UC o k' (x.getD j.toNat k'.dflt)) off else none
    |.inp k' l j off=>if off+size≤k'.size then GA agg size (UC o k' (l.getD j.toNat k'.dflt)) off else none
    |_=>none)
   |some _=>none)
  |_=>none)
 |_=>none
def Xu (ev:Operand→SV):Option Operand→Int→Option Int
 |none,d=>some d
 |some x,_=>(asI (ev x)).map (·.2)
def CU (k:MK) (a b:SV):Option Bool:=match k with
 |.int q=>(match asI a,asI b with|some (q1,x),some (q2,y)=>if q1=q∧q2=q then some (x==y) else none|_,_=>none)
 |.bool=>(match asB a,asB b with|some x,some y=>some (x==y)|_,_=>none)
 |.string=>(match asS a,asS b with|some x,some y=>some (x==y)|_,_=>none)
 |.agg _=>none
def Du:List MK→List SV→List SV→Option Bool
 |[],_,_=>none
 |k::ks,a::l,b::m=>(match ks with
  |[]=>(match l,m with|[],[]=>CU k a b|_,_=>none)
  |k'::ks=>(match CU k a b,Du (k'::ks) l m with|some x,some y=>some (x&&y)|_,_=>none))
 |_::_,_,_=>none
def HP (xs:List Int):List UInt8:=xs.map fun x=>x.toNat.toUInt8
def gq (_kt:List (Nat×Kind)) (raw:Bool) (o:VOp) (ev:Operand→SV) (own:Own):Option (List Prop×SV) :=
 match o with
 |.move x=>some ([],ev x)
 |.arith op x y=>match asI (ev x),asI (ev y) with
  |some (k,a),some (k',b)=>if k=k' then (bif raw then some ([],.val (.i k) (k.wrap (DM op a b))) else some ([InK k (DM op a b)],.val (.i k) (DM op a b))) else none
  |_,_=>none
 |.div op x y=>match asI (ev x),asI (ev y) with
  |some (k,a),some (k',b)=>if k=k' then (match op with
   |.quo=>some ([b≠0,InK k (a.tdiv b)],.val (.i k) (a.tdiv b))
   |_=>some ([b≠0],.val (.i k) (a.tmod b))) else none
  |_,_=>none
 |.bits op x y=>match asI (ev x),asI (ev y) with
  |some (k,a),some (k',b)=>if k=k' then some ([],.val (.i k) (JL op k a b)) else none
  |_,_=>none
 |.shift op x y=>match asI (ev x),asI (ev y) with
  |some (k,a),some (_,b)=>(match op with
   |.shl=>bif raw then some ([0≤b],.val (.i k) (k.wrap (Vf k a b))) else some ([0≤b,InK k (Vf k a b)],.val (.i k) (Vf k a b))
   |_=>some ([0≤b],.val (.i k) (RU k a b)))
  |_,_=>none
 |.cmp op x y=>match asI (ev x),asI (ev y) with
  |some (k,a),some (k',b)=>if k=k' then some ([],.val .bo (Q6u op a b)) else none
  |_,_=>none
 |.str op x y=>match asS (ev x),asS (ev y) with
  |some a,some b=>(match op with
   |.add=>some ([a.length+b.length≤4611686018427387904],.val .st (a++b))
   |.eql=>some ([],.val .bo (a==b))
   |.neq=>some ([],.val .bo (!(a==b)))
   |.lss=>some ([],.val .bo (Op.bytesLess a b))
   |_=>none)
  |_,_=>none
 |.eqB neg x y=>match asB (ev x),asB (ev y) with
  |some a,some b=>some ([],.val .bo (if neg then !(a==b) else (a==b)))
  |_,_=>none
 |.un op x=>match op with
  |.not=>match asB (ev x) with|some b=>some ([],.val .bo (!b))|none=>none
  |.neg=>match asI (ev x) with|some (k,n)=>some ([InK k (0-n)],.val (.i k) (0-n))|none=>none
  |.xor=>match asI (ev x) with|some (k,n)=>some ([],.val (.i k) (JL .xor k (if k.signed then -1 else k.max) n))|none=>none
  |_=>none
 |.convI k x=>match asI (ev x) with
  |some (_,n)=>bif raw then some ([],.val (.i k) (k.wrap n)) else some ([InK k n],.val (.i k) n)
  |none=>none
 |.convS x=>match asS (ev x) with|some s=>some ([],.val .st s)|none=>none
 |.build z parts=>match gfill (z.map cvp) (parts.map fun p=>(p.1,p.2.1,ev p.2.2)) with|some l=>some ([],.agg l)|none=>none
 |.load agg size a=>bif Nat.blt 0 size then (O3 own agg size (ev a)).map fun v=>([],v) else none
 |.fieldAddr off a=>match ev a with
  |.box o f=>some ([],.box o (f+off))
  |.cp l f=>some ([],.cp l (f+off))
  |.elp o i f sz=>some ([],.elp o i (f+off) sz)
  |.dd o w=>(match w with
   |.el i f sz=>some ([],.dd o (.el i (f+off) sz))
   |.rowp k x i j f=>some ([],.dd o (.rowp k x i j (f+off)))
   |.inp k l j f=>some ([],.dd o (.inp k l j (f+off)))
   |_=>none)
  |.rop k l i f=>some ([],.rop k l i (f+off))
  |_=>none
 |.field agg off size x=>match ev x with|.agg l=>(GA agg size l off).map fun v=>([],v)|_=>none
 |.indexAddr size x i=>match ev x,asI (ev i) with
  |.lst o,some (_,j)=>(match Qe own o with|.lst _ k xs _=>if k.size=size then some ([0≤j,j<xs.length],.elp o j 0 size) else none|_=>none)
  |.dd o w,some (_,j)=>(match Qe own o with
   |.deep _ _ k xs _ h=>(match w with
    |.out=>(match h with|none=>(if k.size=size then some ([0≤j,j<xs.length],.dd o (.el j 0 size)) else none)|some _=>(if k.size=size then some ([0≤j,j<xs.length],.dd o (.el j 0 size)) else none))
    |.row k x i=>if k.size=size then some ([0≤j,j<x.length],.dd o (.rowp k x i j 0)) else none
    |.inn k l=>if k.size=size then some ([0≤j,j<l.length],.dd o (.inp k l j 0)) else none
    |_=>none)
   |_=>none)
  |.sub o lo n sz,some (_,j)=>(match Qe own o with|.lst _ k _ _=>if k.size=size∧sz=size then some ([0≤j,j<n],.elp o (lo+j) 0 size) else none|_=>none)
  |.val (.list k) l,some (_,j)=>if k.size=size then some ([0≤j,j<l.length],.rop k l j 0) else none
  |_,_=>none
 |.indexStr x i=>match asS (ev x),asI (ev i) with
  |some s,some (_,j)=>some ([0≤j,j<s.length],.val (.i .u8) ((s.getD j.toNat 0).toNat:Int))
  |_,_=>none
 |.indexArr len agg size x i=>match ev x,i with
  |.agg l,.const (.int _ (Int.ofNat j))=>if j<len then (GA agg size l (j*size)).map fun v=>([],v) else none
  |_,_=>none
 |.indexAddrArr len size x i=>match ev x,i with
  |.box o f,.const (.int _ (Int.ofNat j))=>if j<len then some ([],.box o (f+j*size)) else none
  |.cp l f,.const (.int _ (Int.ofNat j))=>if j<len then some ([],.cp l (f+j*size)) else none
  |_,_=>none
 |.slice size x lo hi none=>match ev x with
  |.lst o=>(match Qe own o with
   |.lst _ k xs _=>if k.size=size then (match Xu ev lo 0,Xu ev hi xs.length with
    |some a,some b=>some ([0≤a,a≤b,b≤xs.length],.sub o a.toNat (b-a).toNat size)
    |_,_=>none) else none
   |_=>none)
  |.sub o l0 n sz=>(match Qe own o with
   |.lst _ k _ _=>if k.size=size∧sz=size then (match Xu ev lo 0,Xu ev hi n with
    |some a,some b=>some ([0≤a,a≤b,b≤n],.sub o (l0+a.toNat) (b-a).toNat size)
    |_,_=>none) else none
   |_=>none)
  |.val (.list k) l=>if k.size=size then (match Xu ev lo 0,Xu ev hi l.length with
   |some a,some b=>some ([0≤a,a≤b,b≤l.length],.val (.list k) ((l.drop a.toNat).take (b-a).toNat))
   |_,_=>none) else none
  |.dd o w=>(match Qe own o with
   |.deep _ _ _ _ _ _=>(match w with
    |.inn k l=>if k.size=size then (match Xu ev lo 0,Xu ev hi l.length with
     |some a,some b=>some ([0≤a,a≤b,b≤l.length],.dd o (.inn k ((l.drop a.toNat).take (b-a).toNat)))
     |_,_=>none) else none
    |.row k l _=>if k.size=size then (match Xu ev lo 0,Xu ev hi l.length with
     |some a,some b=>some ([0≤a,a≤b,b≤l.length],.dd o (.inn k ((l.drop a.toNat).take (b-a).toNat)))
     |_,_=>none) else none
    |_=>none)
   |_=>none)
  |.nilS=>(match Xu ev lo 0,Xu ev hi 0 with
   |some a,some b=>some ([a=0,b=0],.nilS)
   |_,_=>none)
  |_=>none
 |.sliceStr x lo hi=>match asS (ev x) with
  |some s=>(match Xu ev lo 0,Xu ev hi s.length with
   |some a,some b=>some ([0≤a,a≤b,b≤s.length],.val .st ((s.drop a.toNat).take (b-a).toNat))
   |_,_=>none)
  |none=>none
 |.len x=>match Q8n own (ev x) with|some n=>some ([],.val (.i .i64) (n:Nat))|none=>none
 |.lenStr x=>match asS (ev x) with|some s=>some ([],.val (.i .i64) (s.length:Nat))|none=>none
 |.max4 x y z w=>match asI (ev x),asI (ev y),asI (ev z),asI (ev w) with
  |some (k,a),some (k2,b),some (k3,c),some (k4,d)=>if k=k2∧k=k3∧k=k4 then some ([],.val (.i k) (MZ (MZ (MZ a b) c) d)) else none
  |_,_,_,_=>none
 |.max x y=>match asI (ev x),asI (ev y) with
  |some (k,a),some (k',b)=>if k=k' then some ([],.val (.i k) (MZ a b)) else none
  |_,_=>none
 |.min x y=>match asI (ev x),asI (ev y) with
  |some (k,a),some (k',b)=>if k=k' then some ([],.val (.i k) (Cv a b)) else none
  |_,_=>none
 |.makeFunc (.func f) first cap=>some ([],.fn f (first.map ev) (cap.map ev))
 |.extract x i=>match ev x with|.tup l=>(l[i]?).map fun v=>([],v)|_=>none
 |.nilCheck x=>match ev x with
  |.box o f=>some ([],.box o f)
  |.cp l f=>some ([],.cp l f)
  |.fn f a b=>some ([],.fn f a b)
  |_=>none
 |.ext (.eqNil 1 neg x y)=>match ev x,ev y with
  |.nilS,.nilS=>some ([],.val .bo (!neg))
  |.lst o,.nilS=>(match Qe own o with|.lst _ _ _ nl=>some ([],.val .bo (bif neg then !nl else nl))|_=>none)
  |.dd o .out,.nilS=>(match Qe own o with|.deep _ _ _ _ nl _=>some ([],.val .bo (bif neg then !nl else nl))|_=>none)
  |.val (.list _) l,.nilS=>some ([l≠[]],.val .bo neg)
  |_,_=>none
 |.ext (.eqNil 0 neg x y)=>match ev x,ev y with
  |.nilP,.nilP=>some ([],.val .bo (!neg))
  |.box _ _,.nilP=>some ([],.val .bo neg)
  |.cp _ _,.nilP=>some ([],.val .bo neg)
  |.dd _ (.obx c),.nilP=>some ([],.val .bo (bif neg then c else !c))
  |.dd o (.obx c),.box o' f=>(match Qe own o with
   |.cells _ _=>if o=o'∧f=0 then some ([c=true],.val .bo (!neg)) else none
   |_=>none)
  |_,_=>none
 |.ext (.eqAgg neg s x y)=>match ev x,ev y with
  |.agg l,.agg m=>(Du s l m).map fun b=>([],.val .bo (bif neg then !b else b))
  |_,_=>none
 |.ext (.toUnsafe x)=>match ev x with
  |.box o f=>(match Qe own o with|.cells l _=>if f<l.length then some ([],.box o f) else none|_=>none)
  |_=>none
 |.ext (.fromUnsafe u size x)=>match ev x with
  |.box o f=>(match Qe own o with
   |.cells l (some t)=>if f=0∧t=u∧size≤l.length then some ([],.box o 0) else none
   |_=>none)
  |_=>none
 |.ext (.bytesStr x)=>match view own (.i .u8) (ev x) with
  |some xs=>some ([],.val .st (HP xs))
  |none=>none
 |.ext (.sliceData x)=>match ev x with
  |.nilS=>some ([],.nilP)
  |.lst o=>(match Qe own o with|.lst _ _ xs nl=>some ([nl=false→xs≠[]],.dd o .dat)|_=>none)
  |_=>none
 |.ext (.lookup mk z ok x i)=>match ev x with
  |.map o=>(match Qe own o with
   |.map kk vk m=>if mkOk mk kk=true∧Kc vk (Eo vk z)=true then (match dkV kk (ev i) with
    |some key=>(if ok then some ([],.tup [Ic vk (aget kk m key vk.dflt),.val .bo (ahas kk m key)]) else some ([],Ic vk (aget kk m key vk.dflt)))
    |none=>none) else none
   |_=>none)
  |_=>none
 |.ext (.entry x)=>match ev x with
  |.box o f=>(match Qe own o with
   |.iter kk vk m dn=>if f=0∧kk.keyk=true∧vk.one=true then some ([dn≠[]],.tup [Ic kk (m.getD (dn.getLastD 0) (kk.dflt,vk.dflt)).1,.val vk (m.getD (dn.getLastD 0) (kk.dflt,vk.dflt)).2]) else none
   |_=>none)
  |_=>none
 |.ext (.lenMap x)=>match ev x with
  |.map o=>(match Qe own o with|.map _ _ m=>some ([],.val (.i .i64) m.length)|_=>none)
  |_=>none
 |_=>none
 where
 mkP:MK→Kind→Bool
  |.int k,.i k'=>decide (k=k')
  |.string,.st=>true
  |.bool,.bo=>true
  |_,_=>false
 mkAt:Kind→List MK→Option (List MK)
  |.pair a b,l=>(match mkAt a l with|some r=>mkAt b r|none=>none)
  |k,m::r=>bif mkP m k then some r else none
  |_,[]=>none
 mkOk (m:MK) (k:Kind):Bool:=bif k.one then mkP m k else match m with
  |.agg l=>(match mkAt k l with|some []=>true|_=>false)
  |_=>false
 keq:(k:Kind)→k.T→k.T→Bool
  |.i _,(a:Int),b=>a==b
  |.bo,(a:Bool),b=>a==b
  |.st,(a:List UInt8),b=>a==b
  |.pair k l,x,y=>keq k x.1 y.1&&keq l x.2 y.2
  |_,_,_=>false
 aget (kk:Kind) {V:Type}:List (kk.T×V)→kk.T→V→V
  |[],_,d=>d
  |(k,v)::r,key,d=>if keq kk key k then v else aget kk r key d
 ahas (kk:Kind) {V:Type}:List (kk.T×V)→kk.T→Bool
  |[],_=>false
  |(k,_)::r,key=>keq kk key k||ahas kk r key
def S5 (kk:Kind) {V:Type}:List (kk.T×V)→kk.T→V→List (kk.T×V)
 |[],key,v=>[(key,v)]
 |(k,x)::r,key,v=>if gq.keq kk key k then (key,v)::r else (k,x)::S5 kk r key v
mutual
def SV.ret (n:Nat):SV→Bool
 |.val k _=>k.flat
 |.nilS|.nilP|.nilM|.nilF=>true
 |.lst j=>Nat.blt j n
 |.box j _=>Nat.blt j n
 |.map j=>Nat.blt j n
 |.dd j w=>(match w with|.out=>Nat.blt j n|_=>false)
 |.agg l=>SVs.ret n l
 |.tup l=>SVs.ret n l
 |_=>false
def SVs.ret (n:Nat):List SV→Bool
 |[]=>true
 |s::ss=>SV.ret n s&&SVs.ret n ss
end
mutual
def YQ:SV→Bool
 |.val k _=>k.one
 |.box _ _=>false
 |.map _=>false
 |.dd _ _=>false
 |.agg l=>VH l
 |.tup l=>VH l
 |_=>true
def VH:List SV→Bool
 |[]=>true
 |s::ss=>YQ s&&VH ss
end
def OB.isL:OB→Bool
 |.lst _ _ _ _=>true
 |_=>false
def OB.ret:OB→Bool
 |.lst _ k _ _=>k.flat
 |.cells l _=>SVs.ret 0 l
 |.map kk vk _=>kk.flat&&vk.flat
 |.dead=>false
 |.stk _ _=>false
 |.deep _ _ _ _ _ h=>h.isNone
 |.iter _ _ _ _=>false
 |.mapE _ _ _ _ _=>false
 |.lpf _ _ _=>false
def gap (cs:List (Nat×CSp)):Nat→SV→List SV→Option (Prop×SV)
 |0,_,_=>none
 |n+1,f,args=>match f with
  |.fn g a b=>(match Ql cs g with
   |some sp=>(match sp (gap cs n) (a++args++b) with
    |some (c,v,[])=>bif v.ret 0 then some (c,v) else none
    |_=>none)
   |none=>none)
  |.pf ks r cR p=>(match deca ks args with
   |some x=>bif r.flat then some (cR x,Ic r (p x)) else none
   |none=>none)
  |_=>none
 where
 deca:(ks:List Kind)→List SV→Option (AT ks)
  |[],[]=>some ()
  |[k],[v]=>asV k v
  |k::k'::ks,v::vs=>match asV k v,deca (k'::ks) vs with|some x,some y=>some (x,y)|_,_=>none
  |_,_=>none
 asV (k:Kind) (v:SV):Option k.T:=bif k.one then BX k [v] else match v with|.agg l=>BX k l|_=>none
def YT (cs:List (Nat×CSp)) (f:SV) (args:List SV):Option (Prop×SV×List OB) :=
 match f with
 |.fn g a b=>(match Ql cs g with|some sp=>sp (gap cs 3) (a++args++b)|none=>none)
 |f=>(gap cs 3 f args).map fun (c,v)=>(c,v,[])
mutual
def SV.ren (d nt:Nat):SV→SV
 |.lst j=>.lst (d+j*nt)
 |.box j off=>.box (d+j*nt) off
 |.map j=>.map (d+j*nt)
 |.dd j w=>(match w with|.out=>.dd (d+j*nt) .out|_=>.any)
 |.agg l=>.agg (SVs.ren d nt l)
 |.tup l=>.tup (SVs.ren d nt l)
 |.any=>.any
 |.val k x=>.val k x
 |.bid _ c=>.val .bo c
 |.nilS=>.nilS
 |.nilP=>.nilP
 |.nilM=>.nilM
 |.nilF=>.nilF
 |.sub _ _ _ _|.elp _ _ _ _|.grd _ _|.cp _ _|.fn _ _ _|.rop _ _ _ _|.pf _ _ _ _=>.any
def SVs.ren (d nt:Nat):List SV→List SV
 |[]=>[]
 |s::ss=>SV.ren d nt s::SVs.ren d nt ss
end
def St.makes (s:St) (d nt:Nat):Nat→List OB→St
 |_,[]=>s
 |j,b::bs=>(s.make (d+j*nt) b).makes d nt (j+1) bs
def R7 (k:Kind) (ev:Operand→SV):List (Nat×Operand)→List k.T→Option (List k.T)
 |[],xs=>some xs
 |(j,x)::r,xs=>match UA (ev x) with
  |some l=>(match BX k l with
   |some y=>if j<xs.length then R7 k ev r (xs.set j y) else none
   |none=>none)
  |none=>none
mutual
def nmV:SV→(SV→Prop)→Prop
 |.val k x,K=>∀ y:k.T,y=x→K (.val k y)
 |.agg l,K=>Q3y l fun l'=>K (.agg l')
 |.tup l,K=>Q3y l fun l'=>K (.tup l')
 |.any,K=>K .any
 |.dd o w,K=>K (.dd o w)
 |.bid n c,K=>K (.bid n c)
 |.grd gs v,K=>K (.grd gs v)
 |.nilS,K=>K .nilS
 |.nilP,K=>K .nilP
 |.nilM,K=>K .nilM
 |.nilF,K=>K .nilF
 |.lst o,K=>K (.lst o)
 |.sub o lo n sz,K=>K (.sub o lo n sz)
 |.elp o i off sz,K=>K (.elp o i off sz)
 |.rop k l i off,K=>K (.rop k l i off)
 |.box o off,K=>K (.box o off)
 |.cp l off,K=>K (.cp l off)
 |.map o,K=>K (.map o)
 |.fn f a b,K=>K (.fn f a b)
 |.pf ks r cR p,K=>K (.pf ks r cR p)
def Q3y:List SV→(List SV→Prop)→Prop
 |[],K=>K []
 |v::r,K=>nmV v fun v'=>Q3y r fun r'=>K (v'::r')
end
def Q8w (o:VOp) (ev:Operand→SV):Bool:=match o with
 |.load _ _ a=>(match ev a with|.elp _ _ _ _=>true|.rop _ _ _ _=>true|.dd _ _=>true|_=>false)
 |.cmp ..|.str ..|.eqB ..|.un ..|.pick ..|.indexStr ..|.bits ..|.shift ..|.div ..|.sliceStr ..|.max ..|.max4 ..|.min ..=>true
 |.ext (.lookup ..)|.ext (.eqNil ..)|.ext (.eqAgg ..)|.ext (.entry ..)=>true
 |_=>false
def gnm (C:Cx) (o:VOp) (ev:Operand→SV) (v:SV) (K:SV→Prop):Prop:=bif C.nm&&Q8w o ev then nmV v K else K v
def Cg (C:Cx) (d:Nat) (f:SV) (args:List SV) (s:St) (K:SV→St→Prop):Prop :=
 match YT C.cs ((BK s.own [f]).getD 0 .any) (BK s.own args) with
 |some (c,v,bs)=>bif v.ret bs.length&&(bs.all OB.ret&&Nat.blt 0 C.nt) then c∧K (v.ren d C.nt) (s.makes d C.nt 0 bs) else False
 |none=>False
def Hs (C:Cx) (d:Nat) (f:SV) (args:List SV) (s:St) (K:SV→St→Prop):Prop :=
 match f with
 |.fn g a b=>(match Ql C.xs g with
  |some x=>x d (a++(args++b)) s K
  |none=>Cg C d (.fn g a b) args s K)
 |.dd o .yv=>(match Ql C.yl o with
  |some y=>y args s K
  |none=>False)
 |f=>Cg C d f args s K
def gn (C:Cx) (d:Nat) (o:VOp) (ev:Operand→SV) (s:St) (K:SV→St→Prop):Prop :=
 match o with
 |.alloc t z=>K (.box d 0) (s.make d (.cells (z.map cvp) (some t)))
 |.box t x=>match UA (ev x) with
  |some l=>K (.box d 0) (s.make d (.cells (SVs.kill d l) (some t)))
  |none=>False
 |.buildSlice e z n parts=>match Ql C.kt e.ty with
  |some k=>if k.size=e.sz∧Kc k z=true then (match R7 k ev parts (List.replicate n k.dflt) with
   |some xs=>K (.lst d) (s.make d (.lst e.ty k xs false))
   |none=>False) else False
  |none=>False
 |.makeSlice e bytes z l c=>match Ql C.kt e.ty,asI (ev l),asI (ev c) with
  |some k,some (_,a),some (_,b)=>if k.size=e.sz∧Kc k z=true then
    Tj [] [0≤a,a≤b,b*bytes≤70368744177664,b≤70368744177664] (K (.lst d) (s.make d (.lst e.ty k (List.replicate a.toNat k.dflt) false))) else False
  |_,_,_=>False
 |.append e bytes x y=>match Ql C.kt e.ty with
  |some k=>(match view s.own k (ev y) with
   |some ys=>(match ev x with
    |.nilS=>if k.size=e.sz then Tj [] [ys.length*bytes≤70368744177664] (K (.lst d) (s.make d (.lst e.ty k ys ys.isEmpty))) else False
    |.lst o=>(match Qe s.own o with
     |.lst ty _k' xs nl=>if ty=e.ty∧k.size=e.sz then (match Nk xs k with
      |some xs=>Tj [] [(xs.length+ys.length)*bytes≤70368744177664] (K (.lst o) (s.make o (.lst ty k (xs++ys) (ys.isEmpty&&nl))))
      |none=>False) else False
     |_=>False)
    |_=>False)
   |none=>False)
  |none=>False
 |.store size a v=>match ev a,UA (ev v) with
  |.box o off,some vs=>(match Qe s.own o with
   |.cells l u=>if vs.length=size∧off+size≤l.length then K .any ⟨s.env,oset s.own o (.cells (gfill.setS l off vs) u),s.nx⟩ else False
   |_=>False)
  |.elp o i off sz,some vs=>(match Qe s.own o with
   |.lst ty k xs nl=>(if off=0∧size=k.size∧sz=k.size then (match BX k vs with
     |some x=>K .any ⟨s.env,oset s.own o (.lst ty k (xs.set i.toNat x) nl),s.nx⟩
     |none=>False)
    else if size=1∧vs.length=1∧sz=k.size∧off<k.size then (match Q45 k off (vs.getD 0 .any) (xs.getD i.toNat k.dflt) with
     |some x=>K .any ⟨s.env,oset s.own o (.lst ty k (xs.set i.toNat x) nl),s.nx⟩
     |none=>False) else False)
   |_=>False)
  |_,_=>False
 |.callF f args=>Hs C d (.fn f [] []) (args.map ev) s K
 |.callV f args=>Hs C d (ev f) (args.map ev) s K
 |.ext (.mapUpdate mk m k v)=>match ev m with
  |.map o=>(match Qe s.own o with
   |.map kk vk l=>if gq.mkOk mk kk=true then (match dkV kk (ev k),dkV vk (ev v) with
    |some key,some x=>K .any ⟨s.env,oset s.own o (.map kk vk (S5 kk l key x)),s.nx⟩
    |_,_=>False) else False
   |_=>False)
  |_=>False
 |.ext (.unsafeStr e x n)=>match ev x,asI (ev n) with
  |.nilP,some (.i64,k)=>Tj [] [k=0] (K (.val .st []) s)
  |.dd o .dat,some (.i64,k)=>(match Qe s.own o with
   |.lst ty (.i .u8) xs _=>if ty=e then Tj [] [k=xs.length,xs.length≤4611686018427387904] (K (.val .st (HP xs)) (s.make o .dead)) else False
   |_=>False)
  |_,_=>False
 |_=>False
def gnd (_:Cx) (_:Nat) (_:VOp) (_:Operand→SV) (_:St) (_:SV→St→Prop):Prop:=False
def SV.thing:SV→List Nat
 |.lst o=>[o]
 |.dd o _=>[o]
 |_=>[]
def Q52 (l:List SV):List Nat:=l.flatMap SV.thing
def RQ (d:Nat) (o:VOp) (ev:Operand→SV):List Nat:=d::(match o with
 |.buildSlice _ _ _ parts=>parts.flatMap fun p=>(match UA (ev p.2) with|some l=>Q52 l|none=>[])
 |.append _ _ x y=>SV.thing (ev x)++SV.thing (ev y)
 |.store _ a v=>SV.thing (ev a)++(match UA (ev v) with|some l=>Q52 l|none=>[])
 |_=>[])
def RI (C:Cx) (d:Nat) (o:VOp) (ev:Operand→SV):Bool :=
 match o with
 |.buildSlice e _ _ _=>(match Ql C.kt e.ty with|some k=>!k.flat&&!(C.raw.contains d)|none=>false)
 |.makeSlice e _ _ _ _=>(match Ql C.kt e.ty with|some k=>!k.flat&&!(C.raw.contains d)|none=>false)
 |.append _ _ x y=>(match ev x with
  |.dd _ _=>true
  |_=>(match ev y with|.dd _ .out=>true|_=>false))
 |.store _ a _=>(match ev a with|.dd _ _=>true|_=>false)
 |_=>false
mutual
def SV.frz (o:Nat) (k:Kind) (xs:List k.T):SV→SV
 |.lst o'=>bif Nat.beq o' o then .val (.list k) xs else .lst o'
 |.sub o' lo n sz=>bif Nat.beq o' o then .any else .sub o' lo n sz
 |.elp o' i off sz=>bif Nat.beq o' o then .any else .elp o' i off sz
 |.dd o' w=>bif Nat.beq o' o then .any else .dd o' w
 |.box o' off=>bif Nat.beq o' o then .any else .box o' off
 |.map o'=>bif Nat.beq o' o then .any else .map o'
 |.grd gs v=>.grd gs (SV.frz o k xs v)
 |.agg l=>.agg (SVs.frz o k xs l)
 |.tup l=>.tup (SVs.frz o k xs l)
 |.cp l off=>.cp (SVs.frz o k xs l) off
 |.fn f a b=>.fn f (SVs.frz o k xs a) (SVs.frz o k xs b)
 |.any=>.any
 |.val k x=>.val k x
 |.bid n c=>.bid n c
 |.nilS=>.nilS
 |.nilP=>.nilP
 |.nilM=>.nilM
 |.nilF=>.nilF
 |.rop k l i off=>.rop k l i off
 |.pf ks r cR p=>.pf ks r cR p
def SVs.frz (o:Nat) (k:Kind) (xs:List k.T):List SV→List SV
 |[]=>[]
 |s::ss=>SV.frz o k xs s::SVs.frz o k xs ss
end
def OB.frz (o:Nat) (k:Kind) (xs:List k.T):OB→OB
 |.cells l u=>.cells (SVs.frz o k xs l) u
 |.dead=>.dead
 |.lst ty k xs nl=>.lst ty k xs nl
 |.map kk vk m=>.map kk vk m
 |.stk l vals=>.stk (SVs.frz o k xs l) vals
 |.lpf l q s=>.lpf (SVs.frz o k xs l) q s
 |.deep ty q k xs nl h=>.deep ty q k xs nl h
 |.iter kk vk m dn=>.iter kk vk m dn
 |.mapE kk vk m key n=>.mapE kk vk m key n
def IF (o:Nat) (k:Kind) (xs:List k.T):Own→Own
 |[]=>[]
 |(j,b)::r=>bif Nat.beq j o then IF o k xs r else (j,b.frz o k xs)::IF o k xs r
def St.frz (s:St) (o:Nat):St:=match Qe s.own o with
 |.lst _ k xs _=>⟨SVs.frz o k xs s.env,IF o k xs s.own,s.nx⟩
 |_=>s
def St.frzs (s:St):List Nat→St
 |[]=>s
 |o::r=>(s.frz o).frzs r
def MP:List SV→List Nat
 |[]=>[]
 |s::r=>(match s with|.lst o=>o::MP r|_=>MP r)
def Q39 (C:Cx) (d:Nat) (o:VOp) (ev:Operand→SV) (own:Own):List Nat:=match o with
 |.store _ a v=>(match ev a with
  |.elp q _ _ _=>(match Qe own q with
   |.lst _ k _ _=>bif k.flat then [] else (match UA (ev v) with|some l=>MP l|none=>[])
   |_=>[])
  |_=>[])
 |.buildSlice e _ _ parts=>(match Ql C.kt e.ty with
  |some k=>bif k.flat||!(C.raw.contains d) then [] else parts.flatMap fun p=>(match UA (ev p.2) with|some l=>MP l|none=>[])
  |none=>[])
 |.move x=>bif C.raw.contains (2000000+d) then MP [ev x] else []
 |_=>[]
def M_ (s:St) (j:Nat) (want:Bool):Option (List Gd×St) :=
 match s.env.getD j .any with
 |.val .bo c=>some ([⟨s.nx,want,c⟩],⟨s.env.set j (.bid s.nx c),s.own,s.nx+1⟩)
 |.bid n c=>some ([⟨n,want,c⟩],s)
 |.grd gs (.val .bo c)=>some (gs++[⟨s.nx,want,c⟩],⟨s.env.set j (.grd gs (.bid s.nx c)),s.own,s.nx+1⟩)
 |.grd gs (.bid n c)=>some (gs++[⟨n,want,c⟩],s)
 |_=>none
def gqc (C:Cx) (raw:Bool) (o:VOp) (ev:Operand→SV) (own:Own):Option (List Prop×SV) :=
 match o with
 |.callF f args=>match YT C.cs (.fn f [] []) (BK own (args.map ev)) with
  |some (c,v,[])=>bif v.ret 0 then some ([c],v) else none
  |_=>none
 |.callV f args=>match YT C.cs ((BK own [ev f]).getD 0 .any) (BK own (args.map ev)) with
  |some (c,v,[])=>bif v.ret 0 then some ([c],v) else none
  |_=>none
 |o=>gq C.kt raw o ev own
def Lq (nt:Nat):Option (Prop×SV×List OB)→Option (Prop×SV)
 |some (c,v,bs)=>(match v,bs with
  |.lst 0,[.lst _ k xs _]=>bif k.flat&&Nat.blt 0 nt then some (c,.val (.list k) xs) else none
  |_,_=>none)
 |none=>none
def Pr (C:Cx) (o:VOp) (ev:Operand→SV) (own:Own):Option (Prop×SV) :=
 match o with
 |.callF f args=>Lq C.nt (YT C.cs (.fn f [] []) (BK own (args.map ev)))
 |.callV f args=>Lq C.nt (YT C.cs ((BK own [ev f]).getD 0 .any) (BK own (args.map ev)))
 |.buildSlice e z n parts=>(match Ql C.kt e.ty with
  |some k=>if k.size=e.sz∧Kc k z=true∧k.flat=true then (match R7 k ev parts (List.replicate n k.dflt) with
   |some xs=>some (True,.val (.list k) xs)
   |none=>none) else none
  |none=>none)
 |_=>none
def TP (env:List SV) (x:Operand):Option Bool:=match x with
 |.tmp j=>(match env.getD j .any with
  |.grd gs v=>(match gs with
   |[]=>(match v with
    |.val k x=>(match k,x with|.bo,b=>some b|_,_=>none)
    |_=>none)
   |_=>none)
  |_=>none)
 |_=>none
def F4 (env:List SV) (g:Option (Nat×Bool)):Option Bool:=match g with
 |none=>none
 |some (j,want)=>(match TP env (.tmp j) with
  |some b=>some (b==want)
  |none=>none)
def Ow (gs:List Gd) (env:List SV) (c a b:Operand):Option SV :=
 match gev gs env c with
 |.bid n t =>
  match a,b with
  |.const (.bool true),b=>(asB (gev (gs++[⟨n,false,t⟩]) env b)).map fun y=>.val .bo (t||y)
  |a,.const (.bool false)=>(asB (gev (gs++[⟨n,true,t⟩]) env a)).map fun x=>.val .bo (t&&x)
  |a,b=>match gev (gs++[⟨n,true,t⟩]) env a,gev (gs++[⟨n,false,t⟩]) env b with
   |.val (.i k) x,.val (.i k') y=>if k=k' then some (.val (.i k) (if t then x else y)) else none
   |.val .bo x,.val .bo y=>some (.val .bo (if t then x else y))
   |_,_=>none
 |_=>none
def AS (gs:List Gd) (env:List SV) (c a b:Operand):Option SV:=match TP env c with
 |some t=>some (bif t then gev gs env a else gev gs env b)
 |none=>Ow gs env c a b
def Fy:VOp→Bool
 |.alloc ..|.box ..|.buildSlice ..|.makeSlice ..|.append ..|.store ..|.callF ..|.callV ..=>false
 |.ext (.makeMap)|.ext (.mapUpdate ..)|.ext (.delete ..)|.ext (.mapEntry ..)|.ext (.entryStore ..)|.ext (.copy ..)|.ext (.clear ..)|.ext (.unsafeStr ..)|.ext (.strBytes ..)|.ext (.rangeMap _)|.ext (.nextMap _)=>false
 |_=>true
def M7:SV→SV
 |.bid _ c=>.val .bo c
 |v=>v
def Q46 (o:VOp):Option (Nat×Nat×(Nat→VOp)):=match o with
 |.indexAddrArr len size x (.tmp t)=>some (len,t,fun n=>.indexAddrArr len size x (.const (.int .i64 (Int.ofNat n))))
 |.indexArr len agg size x (.tmp t)=>some (len,t,fun n=>.indexArr len agg size x (.const (.int .i64 (Int.ofNat n))))
 |_=>none
def EN (j:Int) (f:Nat→Prop):Nat→Nat→Prop
 |0,_=>True
 |n+1,i=>(j=(i:Int)→f i)∧EN j f n (i+1)
def Q99 (C:Cx) (o:VOper) (s:St) (K:St→Prop):Prop :=
 (match o.op with
 |.pick c a b=>match AS [] s.env c a b with
  |some v=>gnm C (.pick c a b) (gev [] s.env) v fun v=>K (s.put o.dst v)
  |none=>False
 |op=>bif Fy op then (match gq C.kt (C.raw.contains (o.dst.getD 0)) op (gev [] s.env) s.own with
   |some (cs,v)=>Tj [] cs (gnm C op (gev [] s.env) v fun v=>K (s.put o.dst v))
   |none=>False)
  else (match op with
   |.ext .makeMap=>(match Ql C.kt (1000000+o.dst.getD 0) with
    |some (.pair kk vk)=>K ((s.make (C.off+o.dst.getD 0) (.map kk vk [])).put o.dst (.map (C.off+o.dst.getD 0)))
    |_=>False)
   |op=>bif RI C (o.dst.getD 0) op (gev [] s.env) then gnd C (C.off+o.dst.getD 0) op (gev [] s.env) s fun v s'=>K (s'.put o.dst v) else gn C (C.off+o.dst.getD 0) op (gev [] s.env) s fun v s'=>K (s'.put o.dst v)))
def Q98 (C:Cx) (o:VOper) (s:St) (K:St→Prop):Prop :=
 match Q46 o.op with
 |some (len,i,f)=>(match asI (gev [] s.env (.tmp i)) with
  |some (_,j)=>0≤j∧j<(len:Int)∧EN j (fun n=>match gq C.kt (C.raw.contains (o.dst.getD 0)) (f n) (gev [] s.env) s.own with
   |some (cs,v)=>Tj [] cs (gnm C (f n) (gev [] s.env) v fun v=>K (s.put o.dst v))
   |none=>False) len 0
  |none=>False)
 |none=>Q99 C o s K
def Q6p (C:Cx) (o:VOper) (s:St) (K:St→Prop):Prop :=
 match o.guard with
 |none=>Q98 C o (s.frzs (Q39 C (o.dst.getD 0) o.op (gev [] s.env) s.own)) K
 |some (j,want)=>match M_ s j want with
  |none=>False
  |some (gs,s)=>(match o.op with
   |.pick c a b=>match AS gs s.env c a b with
    |some v=>gnm C (.pick c a b) (gev gs s.env) v fun v=>K (s.put o.dst (.grd gs (M7 v)))
    |none=>False
   |op=>(match gqc C (C.raw.contains (o.dst.getD 0)) op (gev gs s.env) s.own with
    |some (cs,v)=>Tj gs cs (gnm C op (gev gs s.env) v fun v=>K (s.put o.dst (.grd gs (M7 v))))
    |none=>(match Pr C op (gev gs s.env) s.own with
     |some (c,v)=>Tj gs [c] (gnm C op (gev gs s.env) v fun v=>K ((s.make (C.off+o.dst.getD 0) .dead).put o.dst (.grd gs v)))
     |none=>False)))
def gop (C:Cx) (o:VOper) (s:St) (K:St→Prop):Prop:=match F4 s.env o.guard with
 |some t=>bif t then Q6p C ⟨o.dst,o.op,none⟩ s K else K (s.put o.dst .any)
 |none=>Q6p C o s K
def Q2r (d:Nat) (s:St):Option St:=match s.env.getD d .any with
 |.box o off=>bif Nat.beq off 0 then (match Qe s.own o with
  |.cells l _=>some ⟨s.env.set d (.cp l 0),oset s.own o .dead,s.nx⟩
  |_=>none) else none
 |_=>none
def Q6x (C:Cx) (d:Option Nat) (K:St→Prop) (s:St):Prop:=match d with
 |none=>K s
 |some d=>bif C.spl.contains d then (match asB (s.env.getD d .any) with
   |some t=>bif C.raw.contains (3000000+d) then (bif t then K (s.put (some d) (.grd [] (.val .bo true))) else K (s.put (some d) (.grd [] (.val .bo false))))
    else (t=true→K (s.put (some d) (.grd [] (.val .bo true))))∧(t=false→K (s.put (some d) (.grd [] (.val .bo false))))
   |none=>(match Q2r d s with
    |some s'=>K s'
    |none=>False))
  else K s
def Q6t (C:Cx):List VOper→St→(St→Prop)→Prop
 |[],s,K=>K s
 |o::r,s,K=>gop C o s (Q6x C o.dst fun s'=>Q6t C r s' K)
def dv (o:DOper):VOper:=⟨o.dst,o.op,o.guard⟩
def OH (l:List DOper):Bool:=l.all fun o=>!(o.kind==2)&&!(o.op.kind==2)
def gd1 (C:Cx) (o:DOper) (s:St) (K:St→Prop):Prop :=
 match o.guard with
 |none=>(match o.op with
  |.pick c a b=>(match AS [] s.env c a b with
   |some v=>gnm C (.pick c a b) (gev [] s.env) v fun v=>K (s.put o.dst v)
   |none=>False)
  |op=>(match gq C.kt (C.raw.contains (o.dst.getD 0)) op (gev [] s.env) s.own with
   |some (cs,v)=>Tj [] cs (gnm C op (gev [] s.env) v fun v=>K (s.put o.dst v))
   |none=>False))
 |some (j,want)=>(match M_ s j want with
  |none=>False
  |some (gs,s)=>(match o.op with
   |.pick c a b=>(match AS gs s.env c a b with
    |some v=>gnm C (.pick c a b) (gev gs s.env) v fun v=>K (s.put o.dst (.grd gs (M7 v)))
    |none=>False)
   |op=>(match gq C.kt (C.raw.contains (o.dst.getD 0)) op (gev gs s.env) s.own with
    |some (cs,v)=>Tj gs cs (gnm C op (gev gs s.env) v fun v=>K (s.put o.dst (.grd gs (M7 v))))
    |none=>False)))
def OB.wf:OB→Prop
 |.lst _ _ xs nl=>nl=true→xs=[]
 |_=>True
def Fq:List OB→Prop→Prop
 |[],q=>q
 |b::r,q=>b.wf∧Fq r q
def US (C:Cx) (d:Nat) (f:SV) (args:List SV) (s:St) (K:List Nat→SV→St→Prop):Prop :=
 match YT C.cs f args with
 |some (c,v,bs)=>bif v.ret bs.length&&(bs.all OB.ret&&(Nat.blt 0 C.nt&&(bs.all OB.isL&&YQ v))) then c∧Fq bs (K ((List.range bs.length).map fun j=>d+j*C.nt) (v.ren d C.nt) (s.makes d C.nt 0 bs)) else False
 |none=>False
def Dh:VOp→Bool
 |.alloc ..|.box ..|.buildSlice ..|.makeSlice ..=>true
 |_=>false
def QM (d:Nat) (o:VOp) (ev:Operand→SV):Nat:=match o with
 |.append _ _ x _=>(match ev x with|.lst q=>q|_=>d)
 |.store _ a _=>(match ev a with|.box q _=>q|.elp q _ _ _=>q|_=>d)
 |.ext (.mapUpdate _ m _ _)=>(match ev m with|.map q=>q|_=>d)
 |.ext (.delete _ m _)=>(match ev m with|.map q=>q|_=>d)
 |.ext (.mapEntry _ _ m _)=>(match ev m with|.map q=>q|_=>d)
 |.ext (.entryStore m _ _)=>(match ev m with|.map q=>q|_=>d)
 |.ext (.copy _ a _)=>(match ev a with|.lst q=>q|.sub q _ _ _=>q|_=>d)
 |.ext (.unsafeStr _ a _)=>(match ev a with|.dd q _=>q|_=>d)
 |_=>d
def OB.here:OB→Bool
 |.dead=>false
 |.stk _ _=>false
 |.deep _ _ _ _ _ _=>false
 |.iter _ _ _ _=>false
 |.mapE _ _ _ _ _=>false
 |.lpf _ _ _=>false
 |_=>true
def stP:MK→Value→Bool
 |.agg [.int .i64,.int .i64],.int .i64 n=>n==0
 |_,_=>false
def Vk (o:VOp) (ev:Operand→SV) (own:Own):Option Nat:=match o with
 |.load _ _ a=>(match ev a with
  |.box q _=>bif (Qe own q).here then some (2*q) else none
  |.elp q _ _ _=>bif (Qe own q).here then some (2*q) else none
  |_=>none)
 |.ext (.lookup mk z false x _)=>bif stP mk z then (match ev x with
  |.map q=>(match Qe own q with|.map _ _ _=>some (2*q+1)|_=>none)
  |_=>none) else none
 |_=>none
def HH:VOp→Bool
 |.ext (.mapEntry mk z _ _)=>stP mk z
 |_=>false
def QW (A:List (Nat×Option Nat)) (j q:Nat):Bool:=A.all fun a=>Nat.blt a.1 j||(match a.2 with|some t=>!(Nat.beq t q)|none=>false)
def Bt (A:List (Nat×Option Nat)) (j:Nat) (q:Option Nat):Bool:=match q with|some q=>QW A j (q / 2)|none=>false
def HF (R:List (Nat×Option Nat)) (hl t:Nat):Bool:=R.all fun r=>Nat.blt r.1 hl||(match r.2 with|some q=>!(Nat.beq (q / 2) t)|none=>false)
def Rw (R:List (Nat×Option Nat)) (hl t:Nat):Bool:=R.all fun r=>Nat.blt r.1 hl||(match r.2 with|some q=>!(Nat.beq (q / 2) t)|none=>true)
def Q3x (R:List (Nat×Option Nat)) (hl t:Nat):Bool:=R.all fun r=>Nat.blt r.1 hl||(match r.2 with|some q=>!(Nat.beq (q / 2) t)||Nat.beq (q % 2) 1|none=>false)
def CR (mk:Bool) (R:List (Nat×Option Nat)) (hl:Nat) (ts:List Nat):Bool:=R.all fun r=>Nat.blt r.1 hl||(match r.2 with|some q=>ts.all (fun t=>!(Nat.beq (q / 2) t))|none=>mk)
def Q3v (o:VOp) (ev:Operand→SV):Bool:=match o with
 |.load _ _ a=>(match ev a with|.rop _ _ _ _=>true|.cp _ _=>true|_=>false)
 |_=>false
def EC (s:St) (j:Nat) (want:Bool) (o:VOp):Bool:=match M_ s j want with
 |some (gs,s1)=>Q3v o (gev gs s1.env)
 |none=>false
def M9 (A:List (Nat×Option Nat)) (j:Nat):Bool:=A.all fun a=>Nat.blt a.1 j||a.2.isSome
def E4 (C:Cx) (f:SV) (args:List SV):Option (List Prop×SV):=match YT C.cs f args with
 |some (c,v,bs)=>(match v,bs with
  |.lst 0,[.lst _ k xs nl]=>bif k.flat&&Nat.blt 0 C.nt then some ([c,nl=true→xs=[]],.val (.list k) xs) else none
  |_,_=>none)
 |none=>none
def CP (env:List SV) (o:DOper):DOper:=match F4 env o.guard with
 |some true=>{o with guard:=none}
 |_=>o
def I1 (own:Own):SV→Option (List SV)
 |.box o off=>bif Nat.beq off 0 then (match Qe own o with|.cells l _=>some l|_=>none) else none
 |.cp l off=>bif Nat.beq off 0 then some l else none
 |_=>none
def Tl (own:Own) (j:Nat):List SV→Option Nat
 |a::_=>(match I1 own a with
  |some l=>(match l[j]? with
   |some (.map o)=>some o
   |_=>none)
  |none=>(match a with|.map o=>some o|_=>none))
 |[]=>none
def Cx.nx (C:Cx):Cx:={C with xs:=[]}
def JA (C:Cx):List DOper→St→Nat→Nat→List (Nat×Option Nat)→List (Nat×Option Nat)→(St→Prop)→Prop
 |[],s,_,_,_,_,K=>K s
 |o0::r,s,hl,chg,A,R,K=>match F4 s.env o0.guard with
  |some false=>if o0.kind=2 then JA C r (s.put o0.dst .any) (hl+1) chg A R K else JA C r (s.put o0.dst .any) hl chg A R K
  |_=>(fun o:DOper =>
  if o.kind=2 then
   (match o.op with
   |.callF f args=>(match o.guard with
    |none=>(match Ql C.xs f with
     |some x=>(match Ql C.xf f with
      |some j=>(match Tl s.own j (args.map (gev [] s.env)) with
       |some t=>bif waits o.dst.toList r&&CR false R hl [t] then
         x (C.off+o.dst.getD 0) (args.map (gev [] s.env)) s fun v s'=>JA C r (s'.put o.dst v) (hl+1) hl ((hl-1,some t)::A) R K else False
       |none=>False)
      |none=>bif waits o.dst.toList r&&R.all (fun q=>Nat.blt q.1 hl) then
       x (C.off+o.dst.getD 0) (args.map (gev [] s.env)) s fun v s'=>JA C r (s'.put o.dst v) (hl+1) hl ((hl-1,none)::A) [] K
      else US C (C.off+o.dst.getD 0) (.fn f [] []) (BK s.own (args.map (gev [] s.env))) s fun ts v s'=>JA C r (s'.put o.dst v) (hl+1) (bif ts.isEmpty then chg else hl) (ts.map (fun t=>(hl-1,some t))++A) (bif ts.isEmpty then R else R.map fun r=>(r.1,none)) K)
     |none=>US C (C.off+o.dst.getD 0) (.fn f [] []) (BK s.own (args.map (gev [] s.env))) s fun ts v s'=>JA C r (s'.put o.dst v) (hl+1) (bif ts.isEmpty then chg else hl) (ts.map (fun t=>(hl-1,some t))++A) (bif ts.isEmpty then R else R.map fun r=>(r.1,none)) K)
    |some (j,want)=>(match M_ s j want with
     |none=>False
     |some (gs,s)=>(match gqc C false (.callF f args) (gev gs s.env) s.own with
      |some (cs,v)=>bif YQ v then Tj gs cs (gnm C (.callF f args) (gev gs s.env) v fun v=>JA C r (s.put o.dst (.grd gs (M7 v))) (hl+1) chg A R K) else False
      |none=>(match E4 C (.fn f [] []) (BK s.own (args.map (gev gs s.env))) with
       |some (cs,v)=>Tj gs cs (JA C r ((s.make (C.off+o.dst.getD 0) .dead).put o.dst (.grd gs v)) (hl+1) hl ((hl-1,none)::A) (R.map fun r=>(r.1,none)) K)
       |none=>False))))
   |.callV f args=>(match o.guard with
    |none=>US C (C.off+o.dst.getD 0) ((BK s.own [gev [] s.env f]).getD 0 .any) (BK s.own (args.map (gev [] s.env))) s fun ts v s'=>JA C r (s'.put o.dst v) (hl+1) (bif ts.isEmpty then chg else hl) (ts.map (fun t=>(hl-1,some t))++A) (bif ts.isEmpty then R else R.map fun r=>(r.1,none)) K
    |some _=>False)
   |.ext (.rangeMap _)=>False
   |.ext (.nextMap _)=>False
   |op=>(match o.guard with
    |none=>bif RI C (o.dst.getD 0) op (gev [] s.env) then
      (bif CR (Dh op) R hl (RQ (C.off+o.dst.getD 0) op (gev [] s.env)) then
       gnd C (C.off+o.dst.getD 0) op (gev [] s.env) s fun v s'=>JA C r (s'.put o.dst v) (hl+1) hl ((RQ (C.off+o.dst.getD 0) op (gev [] s.env)).map (fun t=>(hl-1,some t))++A) R K else False)
     else bif (Dh op&&Rw R hl (QM (C.off+o.dst.getD 0) op (gev [] s.env)))||HF R hl (QM (C.off+o.dst.getD 0) op (gev [] s.env))||(HH op&&Q3x R hl (QM (C.off+o.dst.getD 0) op (gev [] s.env))) then
      gn C (C.off+o.dst.getD 0) op (gev [] s.env) s fun v s'=>JA C r (s'.put o.dst v) (hl+1) hl ((hl-1,some (QM (C.off+o.dst.getD 0) op (gev [] s.env)))::A) R K else False
    |some _=>False))
  else if o.kind=1 then
   (match o.guard with
   |none=>bif Q3v o.op (gev [] s.env)&&M9 A o.kmin then gd1 C o s fun s'=>JA C r s' hl chg A R K
    else bif Nat.ble chg o.kmin||Bt A o.kmin (Vk o.op (gev [] s.env) s.own) then gd1 C o s fun s'=>JA C r s' hl chg A ((o.kmax,Vk o.op (gev [] s.env) s.own)::R) K else False
   |some (j,want)=>bif EC s j want o.op&&M9 A o.kmin then gd1 C o s fun s'=>JA C r s' hl chg A R K
    else bif Nat.ble chg o.kmin then gd1 C o s fun s'=>JA C r s' hl chg A ((o.kmax,none)::R) K else False)
  else gd1 C o s fun s'=>JA C r s' hl chg A R K) (CP s.env o0)
inductive Src where
 |slot (j:Nat)
 |cell (t off:Nat)
 |key (k:Nat)
structure LoopAnn where
 E:Type
 D:Type
 sl:List Nat
 vs:E→D→List SV
 own:E→D→List (Nat×Src×OB)
def Q3u:List Nat→List SV→List (Nat×SV)
 |[],_=>[]
 |j::js,[]=>(j,.any)::Q3u js []
 |j::js,v::vs=>(j,v)::Q3u js vs
def LoopAnn.st (A:LoopAnn) (p:A.E) (d:A.D):List (Nat×SV):=Q3u A.sl (A.vs p d)
def LoopP {D:Type}(F:D→(D→Prop)→Prop) (d0:D):Prop :=
 ∃ (I:D→Prop) (μ:D→Nat),I d0∧∀ d,I d→F d fun d'=>I d'∧μ d'<μ d
def Q9u (s:St) (mp:List (Nat×Option Nat)):Src→Option (Option Nat)
 |.slot j=>match s.env.getD j .any with
  |.lst a=>some (some a)
  |.sub a _ _ _=>some (some a)
  |.dd a _=>some (some a)
  |.box a _=>some (some a)
  |.map a=>some (some a)
  |.nilS=>some none
  |_=>none
 |.cell t off=>match Ql mp t with
  |some (some a)=>(match Qe s.own a with
   |.cells l _=>(match l.getD off .any with
    |.lst a=>some (some a)
    |.box a _=>some (some a)
    |.map a=>some (some a)
    |.nilS=>some none
    |_=>none)
   |_=>none)
  |_=>none
 |.key k=>some (some k)
def Q58 (s:St):List (Nat×Src)→List (Nat×Option Nat)→Option (List (Nat×Option Nat))
 |[],mp=>some mp
 |(t,src)::r,mp=>match Q9u s mp src with
  |some (some a)=>if (mp.any fun p=>p.2==some a)||(Ql mp t).isSome then none else Q58 s r (mp++[(t,some a)])
  |some none=>if (Ql mp t).isSome then none else Q58 s r (mp++[(t,none)])
  |none=>none
def UQ {k:Kind}(x:k.T) {k':Kind}(y:k'.T):Prop:=match Fh y k with|some y=>y=x|none=>False
mutual
def SV.pure:SV→Bool
 |.lst _|.sub _ _ _ _|.elp _ _ _ _|.box _ _|.map _|.grd _ _|.bid _ _|.dd _ _=>false
 |.agg l=>SVs.pure l
 |.tup l=>SVs.pure l
 |.cp l _=>SVs.pure l
 |.fn _ a b=>SVs.pure a&&SVs.pure b
 |.any|.val _ _|.nilS|.nilP|.nilM|.nilF|.rop _ _ _ _|.pf _ _ _ _=>true
def SVs.pure:List SV→Bool
 |[]=>true
 |s::ss=>SV.pure s&&SVs.pure ss
end
mutual
def BA (mp:List (Nat×Option Nat)):SV→SV→Prop
 |.any,_=>True
 |.val k x,v=>match v with
  |.val _k' y=>UQ x y
  |.bid _ c=>UQ (k:=k) x (k':=.bo) c
  |.nilS=>match k,x with|.list _,x=>x=[]|_,_=>False
  |_=>False
 |.lst t,v=>match v with
  |.lst a=>if Ql mp t=some (some a) then True else False
  |.nilS=>if Ql mp t=some none then True else False
  |_=>False
 |.box t off,v=>match v with
  |.box a du=>if Ql mp t=some (some a)∧off=du then True else False
  |_=>False
 |.map t,v=>match v with
  |.map a=>if Ql mp t=some (some a) then True else False
  |_=>False
 |.dd t w,v=>(match w with
  |.obx c=>(match v with
   |.nilP=>c=false
   |.box a f=>if Ql mp t=some (some a)∧f=0 then c=true else False
   |.dd a w'=>(match w' with|.obx c'=>if Ql mp t=some (some a) then c'=c else False|_=>False)
   |_=>False)
  |.yv=>(match v with
   |.dd a w'=>(match w' with|.yv=>if Ql mp t=some (some a) then True else False|_=>False)
   |_=>False)
  |.out=>(match v with
   |.dd a w'=>(match w' with|.out=>if Ql mp t=some (some a) then True else False|_=>False)
   |.nilS=>if Ql mp t=some none then True else False
   |_=>False)
  |_=>False)
 |.agg l,v=>match v with|.agg l'=>Ui mp l l'|_=>False
 |.tup l,v=>match v with|.tup l'=>Ui mp l l'|_=>False
 |.fn f a b,v=>match v with|.fn f' a' b'=>if f=f' then Ui mp a a'∧Ui mp b b' else False|_=>False
 |.nilS,v=>match v with|.nilS=>True|_=>False
 |.nilP,v=>match v with|.nilP=>True|_=>False
 |.nilM,v=>match v with|.nilM=>True|_=>False
 |.nilF,v=>match v with|.nilF=>True|_=>False
 |.cp l off,v=>bif SVs.pure l then .cp l off=v∧SVs.pure l=true else match v with|.cp l' du=>if off=du then Ui mp l l' else False|_=>False
 |.pf ks r cR p,v=>.pf ks r cR p=v
 |.sub t lo n sz,v=>match v with
  |.sub a ub n' uc=>if Ql mp t=some (some a) then ub=lo∧n'=n∧uc=sz else False
  |_=>False
 |.elp _ _ _ _,_|.grd _ _,_|.bid _ _,_|.rop _ _ _ _,_=>False
def Ui (mp:List (Nat×Option Nat)):List SV→List SV→Prop
 |[],l=>l=[]
 |s::ss,l=>match l with|v::vs=>BA mp s v∧Ui mp ss vs|[]=>False
end
def IG (s:St) (mp:List (Nat×Option Nat)) (t:Nat) (b:OB):Prop :=
 match Ql mp t with
 |some (some a)=>(match b,Qe s.own a with
  |.dead,_=>True
  |.lst ty k xs nl,.lst mu k' cH lG=>if ty=mu then UQ (k:=.list k) xs (k':=.list k') cH∧lG=nl else False
  |.cells l u,.cells l' u'=>if u=u' then Ui mp l l' else False
  |.map kk vk m,.map jF lH m'=>if kk=jF then UQ (k:=.list (.pair kk vk)) m (k':=.list (.pair jF lH)) m' else False
  |.stk l vals,.stk l' kp=>vals=kp∧Ui mp l l'
  |.lpf l q u,.lpf l' q' u'=>(match u,u' with|.rdy,.rdy=>q=q'∧Ui mp l l'|.busy,.busy=>q=q'∧Ui mp l l'|_,_=>False)
  |.iter kk vk m dn,.iter jF lH m' rR=>if kk=jF then UQ (k:=.list (.pair kk vk)) m (k':=.list (.pair jF lH)) m'∧rR=dn else False
  |.deep ty q k xs nl h,.deep mu q' k' cH lG h'=>if ty=mu∧q=q' then (match h,h' with|none,none=>UQ (k:=.list k) xs (k':=.list k') cH∧lG=nl|_,_=>False) else False
  |_,_=>False)
 |some none=>(match b with
  |.lst _ _ xs nl=>xs=[]∧nl=true
  |.deep _ _ _ xs nl h=>(match h with|none=>xs=[]∧nl=true|some _=>False)
  |_=>False)
 |none=>False
def gmatch (s:St) (st:List (Nat×SV)) (ow:List (Nat×Src×OB)):Prop :=
 match Q58 s (ow.map fun p=>(p.1,p.2.1)) [] with
 |some mp=>slots mp st∧obs mp ow
 |none=>False
 where
 slots (mp:List (Nat×Option Nat)):List (Nat×SV)→Prop
  |[]=>True
  |(j,v)::r=>BA mp v (s.env.getD j .any)∧slots mp r
 obs (mp:List (Nat×Option Nat)):List (Nat×Src×OB)→Prop
  |[]=>True
  |(t,_,b)::r=>IG s mp t b∧obs mp r
def QU (len:Nat) (st:List (Nat×SV)) (ow:List (Nat×Src×OB)):St :=
 ⟨st.foldl (fun e p=>e.set p.1 p.2) (List.replicate len .any),ow.foldl (fun o p=>oset o p.1 p.2.2) [],0⟩
def Q9w:SV→SV
 |.bid _ c=>.val .bo c
 |.grd _ _=>.any
 |.elp _ _ _ _=>.any
 |.rop _ _ _ _=>.any
 |.dd o w=>(match w with|.out=>.dd o .out|.obx c=>.dd o (.obx c)|.yv=>.dd o .yv|_=>.any)
 |v=>v
def Q8i (jn:List Nat) (s:St):List (Nat×SV):=jn.map fun j=>(j,Q9w (s.env.getD j .any))
def Q51:Own→List (Nat×Src×OB)
 |[]=>[]
 |(t,b)::r=>(match b with|.dead=>Q51 r|b=>(t,.key t,b)::Q51 r)
def MG (n:Nat) (s:St) (st:List (Nat×SV)) (ow:List (Nat×Src×OB)):Prop:=bif Nat.beq s.env.length n then gmatch s st ow else False
def Q1j (C:Cx):List (List DOper)→St→List (Nat×SV)→List (Nat×Src×OB)→Prop→Prop
 |[],_,_,_,Q=>Q
 |l::ls,s,st,ow,Q=>(JA C.nx l s 1 0 [] [] fun s'=>MG s.env.length s' st ow)∧Q1j C ls s st ow Q
def PZ (C:Cx):List DSeg→St→(St→Prop)→Prop
 |[],s,K=>K s
 |.one o::r,s,K=>gop C o s (Q6x C o.dst fun s'=>PZ C r s' K)
 |.alts [l]::r,s,K=>bif OH l then Q6t C (l.map dv) s fun s'=>PZ C r s' K else bif l.all (fun o=>o.kind==o.op.kind) then JA C l s 1 0 [] [] fun s'=>PZ C r s' K else False
 |.alts (l::l2::ls)::r,s,K=>bif (l::l2::ls).all (fun l=>l.all fun o=>o.kind==o.op.kind) then
   JA C.nx l s 1 0 [] [] fun s0=>MG s.env.length s0 (Q8i C.jn s0) (Q51 s0.own)∧Q1j C (l2::ls) s (Q8i C.jn s0) (Q51 s0.own) (PZ C r (QU s.env.length (Q8i C.jn s0) (Q51 s0.own)) K) else False
 |.alts []::_,_,_=>False
def O2 (R:St→Prop) (K:Exit→St→Prop):Exit→St→Prop
 |.normal,s=>R s
 |e,s=>K e s
def Ed (id:Nat) (K:Exit→St→Prop):Exit→St→Prop
 |.exit g_,s=>if g_=id then K .normal s else K (.exit g_) s
 |e,s=>K e s
def Q8o:Own→Bool
 |[]=>true
 |(_,b)::r=>(match b with|.lpf _ _ .ret=>false|.lpf _ _ (.exit _)=>false|_=>true)&&Q8o r
def OK (A:LoopAnn) (p:A.E) (next:A.D→Prop) (K:Exit→St→Prop):Exit→St→Prop
 |.normal,s=>bif Q8o s.own then ∃ d,gmatch s (A.st p d) (A.own p d)∧next d else False
 |e,s=>K e s
def Q96 {D:Type}(F:(D→Prop)→Prop) (iI:D→Prop):Prop:=∃ I:D→Prop,F I∧∀ d,I d→iI d
def Q85 (L:List (Nat×LoopAnn)) (c:Operand):Option LoopAnn:=match c with
 |.tmp j=>Ql L (3000000+j)
 |_=>none
def Q2o (n:Nat) (A:LoopAnn) (p:A.E) (next:A.D→Prop) (K:Exit→St→Prop):Exit→St→Prop
 |.normal,s=>∃ d,MG n s (A.st p d) (A.own p d)∧next d
 |e,s=>K e s
def Q53 {D:Type}(m:Nat) (F:Nat→D→(D→Prop)→Prop) (iI:D→Prop) (d0:D):Prop :=
 ∃ I:Nat→D→Prop,I 0 d0∧(∀ k d,k<m→I k d→F k d fun d'=>I (k+1) d')∧∀ d,I m d→iI d
def Q0z:St→List SV→Option (St×List SV)
 |s,[]=>some (s,[])
 |s,v::vs=>match v with
  |.box o 0=>(match Qe s.own o with
   |.cells l _=>bif SVs.pure l then (match Q0z ⟨s.env,oset s.own o .dead,s.nx⟩ vs with|some (s',r)=>some (s',.cp l 0::r)|none=>none) else none
   |_=>none)
  |v=>bif v.pure then (match Q0z s vs with|some (s',r)=>some (s',v::r)|none=>none) else none
def RV (key:Nat) (vals:List Value) (s:St):St:=s.make key (.stk (SVs.kill key s.env) vals)
def NA:List SV→List Nat→List SV→List SV
 |env,p::ps,v::vs=>NA (env.set p v) ps vs
 |env,_,_=>env
def FU (key:Nat) (A:LoopAnn) (p:A.E) (vals:List Value) (next:A.D→Prop) (K:Exit→St→Prop) (e:Exit) (s:St):Prop :=
 match Qe s.own key with
 |.stk l vs=>vs=vals∧(match e with
  |.normal=>∃ d,gmatch ⟨l,s.own,s.nx⟩ (A.st p d) (A.own p d)∧next d
  |.ret=>K .ret ⟨l,s.own,s.nx⟩
  |.exit id=>K (.exit id) ⟨l,s.own,s.nx⟩
  |_=>False)
 |_=>False
def Q9e (o:Nat) (q:LpD) (s:St):St:=s.make o (.lpf (SVs.kill o s.env) q .rdy)
def gyK (o aK:Nat) (gB:List Value) (q:LpD) (K:SV→St→Prop) (e:Exit) (s:St):Prop :=
 match Qe s.own aK,Qe s.own o with
 |.stk l2 ku,.lpf l q' u=>(match u with
  |.busy=>ku=gB∧q'=q∧(match e with
   |.normal=>K (.val .bo true) ⟨l2,oset (oset s.own aK .dead) o (.lpf l q' .rdy),s.nx⟩
   |.ret=>K (.val .bo false) ⟨l2,oset (oset s.own aK .dead) o (.lpf l q' .ret),s.nx⟩
   |.exit id=>K (.val .bo false) ⟨l2,oset (oset s.own aK .dead) o (.lpf l q' (.exit id)),s.nx⟩
   |_=>False)
  |_=>False)
 |_,_=>False
def Q11 (o:Nat) (q:LpD) (K:Exit→St→Prop) (s:St):Prop :=
 match Qe s.own o with
 |.lpf l q' u=>(match u with
  |.busy=>False
  |.rdy=>q'=q∧K .normal ⟨l,oset s.own o .dead,s.nx⟩
  |.ret=>q'=q∧K .ret ⟨l,oset s.own o .dead,s.nx⟩
  |.exit id=>q'=q∧K (.exit id) ⟨l,oset s.own o .dead,s.nx⟩)
 |_=>False
def FX (o aK np:Nat) (q:LpD) (W:(Exit→St→Prop)→St→Prop) (ps:List Nat):YSp:=fun args s K =>
 match Qe s.own o with
 |.lpf l q' u=>(match u with
  |.rdy=>bif Nat.beq args.length np then q'=q∧∀ gB,W (gyK o aK gB q K) ⟨NA (SVs.kill aK l) ps (SVs.kill aK args),oset (RV aK gB s).own o (.lpf (SVs.kill aK l) q' .busy),s.nx⟩ else False
  |_=>False)
 |_=>False
def gwp (C:Cx) (L:List (Nat×LoopAnn)):VCode→Nat→(Exit→St→Prop)→St→Prop
 |.skip,_,K,s=>K .normal s
 |.region ops,_,K,s=>Q6t C ops s fun s'=>K .normal s'
 |.regionD aT,_,K,s=>PZ C aT s fun s'=>K .normal s'
 |.seq a b,n,K,s=>gwp C L a n (O2 (fun s'=>gwp C L b n K s') K) s
 |.cond c a b,n,K,s=>match TP s.env c with
  |some t=>bif t then gwp C L a n K s else gwp C L b n K s
  |none=>(match asB (gev [] s.env c) with
   |some t=>(match Q85 L c with
    |some A=>∃ p:A.E,Q96 (fun next=>(t=true→gwp C L a n (Q2o s.env.length A p next K) s)∧(t=false→gwp C L b n (Q2o s.env.length A p next K) s)) (fun d=>K .normal (QU s.env.length (A.st p d) (A.own p d)))
    |none=>(t=true→gwp C L a n K s)∧(t=false→gwp C L b n K s))
   |none=>False)
 |.block id b,_,K,s=>gwp C L b id (Ed id K) s
 |.loop b,n,K,s=>match Ql L n with
  |some A=>∃ (p:A.E) (d0:A.D),gmatch s (A.st p d0) (A.own p d0)∧LoopP (fun d next=>gwp C L b n (OK A p next K) (QU s.env.length (A.st p d) (A.own p d))) d0
  |none=>False
 |.rangeF g ps a b,n,K,s=>match gev [] s.env g with
  |.fn f first dt=>(match Ql C.iy f with
   |some x=>∀ q:LpD,x (C.off+2000000+n) (SVs.kill (C.off+2000000+n) first++(.dd (C.off+2000000+n) .yv::SVs.kill (C.off+2000000+n) dt))
     (C.off+2000000+n,FX (C.off+2000000+n) (100000*(C.off+2000000+n+1)-1) ps.length q (fun K' s'=>gwp C L a n (O2 (fun s3=>gwp C L b n K' s3) fun _ _=>False) s') ps)
     (Q9e (C.off+2000000+n) q s) (Q11 (C.off+2000000+n) q K)
   |none=>(match first with
   |[]=>(match Ql C.it f,Q0z s dt,Ql L n with
    |some it,some (s1,cJ),some A=>(match it cJ with
     |some (c,m,ar,xs)=>(bif Nat.beq ps.length ar then c∧∃ (p:A.E) (d0:A.D),gmatch s1 (A.st p d0) (A.own p d0) ∧
      Q53 m (fun k d next=>∀ vals,gwp C L a n (O2 (fun s3=>gwp C L b n (FU (2000000+n) A p vals next K) s3) fun _ _=>False)
       ⟨NA (RV (2000000+n) vals (QU s.env.length (A.st p d) (A.own p d))).env ps (xs k),(RV (2000000+n) vals (QU s.env.length (A.st p d) (A.own p d))).own,0⟩)
       (fun d=>K .normal (QU s.env.length (A.st p d) (A.own p d))) d0 else False)
     |none=>False)
    |_,_,_=>False)
   |_=>False))
  |_=>False
 |.exit id,_,K,s=>K (.exit id) s
 |.ret,_,K,s=>K .ret s
 |.bad,_,_,_=>False
section
variable {P:Program}
theorem ZS {a b:Nat}(h:¬ a=b):Nat.beq a b=false:=by
 cases e:Nat.beq a b with
 |false=>rfl
 |true=>exact absurd (Nat.eq_of_beq_eq_true e) h
theorem PfRel.mono {B B':Heap}(hB:B.Le B') {ks:List Kind}{r:Kind}{cR:AT ks→Prop}{p:AT ks→r.T}{v:Value}(h:PfRel P B ks r cR p v):PfRel P B' ks r cR p v:=by obtain⟨g,first,cap,hv,hx⟩:=h;exact⟨g,first,cap,hv,fun x hd σ vs hs ha=>hx x hd σ vs (hB.trans hs) ha⟩
theorem IM {tb tb':Nat→Option Bool}(ht:∀ n c,tb n=some c→tb' n=some c) {v:SV}(h:gtb tb v):gtb tb' v:=by cases v<;>first|trivial|exact ht _ _ h
theorem IZ {tb tb':Nat→Option Bool}{o:Nat}(ht:∀ n c,tb n=some c→tb' n=some c) {v:SV}(h:gtb tb v):gtb tb' (v.kill o):=by
 cases v
 case bid n c=>exact ht _ _ h
 all_goals (simp only[SV.kill];first|trivial|(split<;>trivial)|(cases Nat.beq _ _<;>trivial))
mutual
theorem SR.upd {B B':Heap}{pl pl':Nat→Value}{tb tb':Nat→Option Bool}{o:Nat}(hB:B.Le B') (ht:∀ n c,tb n=some c→tb' n=some c) (hp:∀ d,d≠o→pl' d=pl d) :
  ∀ (s:SV) (v:Value),SR P B pl tb s v→SR P B' pl' tb' (s.kill o) v
 |.any,_,_=>trivial
 |.val k x,v,h=>by simp only[SV.kill,SR] at h ⊢;exact KC.mono hB h
 |.bid n c,v,h=>by simp only[SV.kill,SR] at h ⊢;exact⟨h.1,ht _ _ h.2⟩
 |.grd gs s,v,h=>by simp only[SV.kill,SR] at h ⊢;exact⟨⟨fun g hg=>ht _ _ (h.1.1 g hg),IZ ht h.1.2⟩,fun hg=>SR.upd hB ht hp s v (h.2.1 hg),h.2.2⟩
 |.nilS,v,h=>h
 |.nilP,v,h=>h
 |.nilM,v,h=>h
 |.nilF,v,h=>h
 |.lst o',v,h=>by
  by_cases e:o'=o
  ·subst e;simp[SV.kill,SR]
  ·simp only[SV.kill,ZS e,cond_false];simp only[SR] at h ⊢;rw[hp _ e];exact h
 |.sub o' lo n sz,v,h=>by
  by_cases e:o'=o
  ·subst e;simp[SV.kill,SR]
  ·simp only[SV.kill,ZS e,cond_false];simp only[SR] at h ⊢;rw[hp _ e];exact h
 |.elp o' i off sz,v,h=>by
  by_cases e:o'=o
  ·subst e;simp[SV.kill,SR]
  ·simp only[SV.kill,ZS e,cond_false];simp only[SR] at h ⊢;rw[hp _ e];exact h
 |.box o' off,v,h=>by
  by_cases e:o'=o
  ·subst e;simp[SV.kill,SR]
  ·simp only[SV.kill,ZS e,cond_false];simp only[SR] at h ⊢;rw[hp _ e];exact h
 |.map o',v,h=>by
  by_cases e:o'=o
  ·subst e;simp[SV.kill,SR]
  ·simp only[SV.kill,ZS e,cond_false];simp only[SR] at h ⊢;rw[hp _ e];exact h
 |.dd o' w,v,h=>by
  by_cases e:o'=o
  ·subst e;simp[SV.kill,SR]
  ·simp only[SV.kill,ZS e,cond_false];simp only[SR] at h ⊢;rw[hp _ e];exact h
 |.rop k l i off,v,h=>by simp only[SV.kill,SR] at h ⊢;obtain⟨b,o,c,e,wr,t,h1,h2,h3,h4,h5,h6⟩:=h;exact⟨b,o,c,e,wr,t,h1,h2,hB.2 _ _ h3,h4,h5,h6.mono fun _ _=>KC.mono hB⟩
 |.cp l off,v,h=>by simp only[SV.kill,SR] at h ⊢;obtain⟨b,c,e,wr,t,h1,h2,h3⟩:=h;exact⟨b,c,e,wr,t,hB.2 _ _ h1,h2,SRs.upd hB ht hp l c h3⟩
 |.agg l,v,h=>by simp only[SV.kill,SR] at h ⊢;obtain⟨cs,h1,h2⟩:=h;exact⟨cs,h1,SRs.upd hB ht hp l cs h2⟩
 |.tup l,v,h=>by simp only[SV.kill,SR] at h ⊢;obtain⟨cs,h1,h2⟩:=h;exact⟨cs,h1,SRs.upd hB ht hp l cs h2⟩
 |.fn f a b,v,h=>by simp only[SV.kill,SR] at h ⊢;obtain⟨x,y,h1,h2,h3⟩:=h;exact⟨x,y,h1,SRs.upd hB ht hp a x h2,SRs.upd hB ht hp b y h3⟩
 |.pf ks r cR p,v,h=>by simp only[SV.kill,SR] at h ⊢;exact h.mono hB
theorem SRs.upd {B B':Heap}{pl pl':Nat→Value}{tb tb':Nat→Option Bool}{o:Nat}(hB:B.Le B') (ht:∀ n c,tb n=some c→tb' n=some c) (hp:∀ d,d≠o→pl' d=pl d) :
  ∀ (s:List SV) (v:List Value),SRs P B pl tb s v→SRs P B' pl' tb' (SVs.kill o s) v
 |[],v,h=>h
 |s::ss,v,h=>by simp only[SVs.kill,SRs] at h ⊢;obtain⟨x,y,h1,h2,h3⟩:=h;exact⟨x,y,h1,SR.upd hB ht hp s x h2,SRs.upd hB ht hp ss y h3⟩
end
mutual
theorem SR.mono {B B':Heap}{pl:Nat→Value}{tb tb':Nat→Option Bool}(hB:B.Le B') (ht:∀ n c,tb n=some c→tb' n=some c) :
  ∀ (s:SV) (v:Value),SR P B pl tb s v→SR P B' pl tb' s v
 |.any,_,_=>trivial
 |.val k x,v,h=>by simp only[SR] at h ⊢;exact KC.mono hB h
 |.bid n c,v,h=>by simp only[SR] at h ⊢;exact⟨h.1,ht _ _ h.2⟩
 |.grd gs s,v,h=>by simp only[SR] at h ⊢;exact⟨⟨fun g hg=>ht _ _ (h.1.1 g hg),IM ht h.1.2⟩,fun hg=>SR.mono hB ht s v (h.2.1 hg),h.2.2⟩
 |.nilS,v,h|.nilP,v,h|.nilM,v,h|.nilF,v,h=>by simp only[SR] at h ⊢;exact h
 |.lst _,v,h|.sub _ _ _ _,v,h|.elp _ _ _ _,v,h|.box _ _,v,h|.map _,v,h|.dd _ _,v,h=>by simp only[SR] at h ⊢;exact h
 |.rop k l i off,v,h=>by simp only[SR] at h ⊢;obtain⟨b,o,c,e,wr,t,h1,h2,h3,h4,h5,h6⟩:=h;exact⟨b,o,c,e,wr,t,h1,h2,hB.2 _ _ h3,h4,h5,h6.mono fun _ _=>KC.mono hB⟩
 |.cp l off,v,h=>by simp only[SR] at h ⊢;obtain⟨b,c,e,wr,t,h1,h2,h3⟩:=h;exact⟨b,c,e,wr,t,hB.2 _ _ h1,h2,SRs.mono hB ht l c h3⟩
 |.agg l,v,h=>by simp only[SR] at h ⊢;obtain⟨cs,h1,h2⟩:=h;exact⟨cs,h1,SRs.mono hB ht l cs h2⟩
 |.tup l,v,h=>by simp only[SR] at h ⊢;obtain⟨cs,h1,h2⟩:=h;exact⟨cs,h1,SRs.mono hB ht l cs h2⟩
 |.fn f a b,v,h=>by simp only[SR] at h ⊢;obtain⟨x,y,h1,h2,h3⟩:=h;exact⟨x,y,h1,SRs.mono hB ht a x h2,SRs.mono hB ht b y h3⟩
 |.pf ks r cR p,v,h=>by simp only[SR] at h ⊢;exact h.mono hB
theorem SRs.mono {B B':Heap}{pl:Nat→Value}{tb tb':Nat→Option Bool}(hB:B.Le B') (ht:∀ n c,tb n=some c→tb' n=some c) :
  ∀ (s:List SV) (v:List Value),SRs P B pl tb s v→SRs P B' pl tb' s v
 |[],v,h=>h
 |s::ss,v,h=>by simp only[SRs] at h ⊢;obtain⟨x,y,h1,h2,h3⟩:=h;exact⟨x,y,h1,SR.mono hB ht s x h2,SRs.mono hB ht ss y h3⟩
end
mutual
theorem SR.frz {B:Heap}{pl:Nat→Value}{tb:Nat→Option Bool}{o:Nat}{k:Kind}{xs:List k.T}(hk:KC B (.list k) xs [pl o]) :
  ∀ (s:SV) (v:Value),SR P B pl tb s v→SR P B pl tb (s.frz o k xs) v
 |.any,_,_=>trivial
 |.val k' x,v,h=>by simp only[SV.frz];exact h
 |.bid n c,v,h=>by simp only[SV.frz];exact h
 |.grd gs s,v,h=>by simp only[SV.frz,SR] at h ⊢;refine⟨⟨h.1.1,?_⟩,fun hg=>SR.frz hk s v (h.2.1 hg),h.2.2⟩;have h2:=h.1.2;cases s<;>first|exact h2|trivial|(simp only[SV.frz];cases Nat.beq _ _<;>trivial)
 |.nilS,v,h|.nilP,v,h|.nilM,v,h|.nilF,v,h=>h
 |.lst o',v,h=>by
  by_cases e:o'=o
  ·subst e;simp only[SV.frz,Nat.beq_refl,_root_.cond_true];simp only[SR] at h ⊢;rw[h.1];exact hk
  ·simp only[SV.frz,ZS e,cond_false];exact h
 |.sub o' lo n sz,v,h=>by
  simp only[SV.frz];cases Nat.beq o' o with
  |true=>trivial
  |false=>exact h
 |.elp o' i off sz,v,h=>by
  simp only[SV.frz];cases Nat.beq o' o with
  |true=>trivial
  |false=>exact h
 |.box o' off,v,h=>by
  simp only[SV.frz];cases Nat.beq o' o with
  |true=>trivial
  |false=>exact h
 |.map o',v,h=>by
  simp only[SV.frz];cases Nat.beq o' o with
  |true=>trivial
  |false=>exact h
 |.dd o' w,v,h=>by
  simp only[SV.frz];cases Nat.beq o' o with
  |true=>trivial
  |false=>exact h
 |.rop k l i off,v,h=>by simp only[SV.frz];exact h
 |.cp l off,v,h=>by simp only[SV.frz,SR] at h ⊢;obtain⟨b,c,e,wr,t,h1,h2,h3⟩:=h;exact⟨b,c,e,wr,t,h1,h2,SRs.frz hk l c h3⟩
 |.agg l,v,h=>by simp only[SV.frz,SR] at h ⊢;obtain⟨cs,h1,h2⟩:=h;exact⟨cs,h1,SRs.frz hk l cs h2⟩
 |.tup l,v,h=>by simp only[SV.frz,SR] at h ⊢;obtain⟨cs,h1,h2⟩:=h;exact⟨cs,h1,SRs.frz hk l cs h2⟩
 |.fn f a b,v,h=>by simp only[SV.frz,SR] at h ⊢;obtain⟨x,y,h1,h2,h3⟩:=h;exact⟨x,y,h1,SRs.frz hk a x h2,SRs.frz hk b y h3⟩
 |.pf ks r cR p,v,h=>by simp only[SV.frz];exact h
theorem SRs.frz {B:Heap}{pl:Nat→Value}{tb:Nat→Option Bool}{o:Nat}{k:Kind}{xs:List k.T}(hk:KC B (.list k) xs [pl o]) :
  ∀ (s:List SV) (v:List Value),SRs P B pl tb s v→SRs P B pl tb (SVs.frz o k xs s) v
 |[],v,h=>h
 |s::ss,v,h=>by simp only[SVs.frz,SRs] at h ⊢;obtain⟨x,y,h1,h2,h3⟩:=h;exact⟨x,y,h1,SR.frz hk s x h2,SRs.frz hk ss y h3⟩
end
theorem SRs.length {B:Heap}{pl:Nat→Value}{tb:Nat→Option Bool}:∀ {s:List SV}{v:List Value},SRs P B pl tb s v→s.length=v.length
 |[],v,h=>by simp only[SRs] at h;subst h;rfl
 |s::ss,v,h=>by simp only[SRs] at h;obtain⟨x,y,rfl,_,h3⟩:=h;simp[SRs.length h3]
theorem SRs.get {B:Heap}{pl:Nat→Value}{tb:Nat→Option Bool}:∀ {s:List SV}{v:List Value},SRs P B pl tb s v→∀ {i:Nat}{a:SV},s[i]?=some a→∃ c,v[i]?=some c∧SR P B pl tb a c
 |[],v,h,i,a,hi=>by simp at hi
 |s::ss,v,h,i,a,hi=>by
  simp only[SRs] at h;obtain⟨x,y,rfl,h2,h3⟩:=h;cases i with
  |zero=>simp at hi;subst hi;exact⟨x,rfl,h2⟩
  |succ i=>simp at hi;simpa using SRs.get h3 hi
theorem SRs.of {B:Heap}{pl:Nat→Value}{tb:Nat→Option Bool}:∀ {s:List SV}{v:List Value},s.length=v.length→(∀ (i:Nat) (a:SV) (c:Value),s[i]?=some a→v[i]?=some c→SR P B pl tb a c)→SRs P B pl tb s v
 |[],v,hl,_=>by simp only[SRs];exact List.length_eq_zero_iff.1 (by simpa using hl.symm)
 |s::ss,[],hl,_=>by simp at hl
 |s::ss,x::y,hl,h=>by simp only[SRs];exact⟨x,y,rfl,h 0 s x rfl rfl,SRs.of (by simpa using hl) fun i a c ha hc=>h (i+1) a c (by simpa using ha) (by simpa using hc)⟩
theorem SRs.getD {B:Heap}{pl:Nat→Value}{tb:Nat→Option Bool}{s:List SV}{v:List Value}(h:SRs P B pl tb s v) (i:Nat) (d:Value):SR P B pl tb (s.getD i .any) (v.getD i d):=by
 by_cases hi:i<s.length
 ·obtain⟨c,h1,h2⟩:=h.get (List.getElem?_eq_getElem hi);rw[List.getD_eq_getElem?_getD,List.getD_eq_getElem?_getD,h1,List.getElem?_eq_getElem hi];exact h2
 ·rw[List.getD_eq_getElem?_getD,List.getElem?_eq_none (by omega)];simp[SR]
theorem SRs.set {B:Heap}{pl:Nat→Value}{tb:Nat→Option Bool}{s:List SV}{v:List Value}(h:SRs P B pl tb s v) (i:Nat) {a:SV}{c:Value}(ha:SR P B pl tb a c):SRs P B pl tb (s.set i a) (v.set i c):=by
 refine SRs.of (by simp[h.length]) fun j a' c' h1 h2=>?_;rw[List.getElem?_set] at h1 h2;by_cases cm:i=j
 ·subst cm;simp only[if_true] at h1 h2;split at h1<;>split at h2<;>simp at h1 h2;subst h1;subst h2;exact ha
 ·simp only[cm,if_false] at h1 h2;obtain⟨c,h3,h4⟩:=h.get h1;rw[h3] at h2;obtain rfl:=osj h2;exact h4
theorem SRs.append {B:Heap}{pl:Nat→Value}{tb:Nat→Option Bool}:∀ {s:List SV}{v:List Value}{s':List SV}{v':List Value},SRs P B pl tb s v→SRs P B pl tb s' v'→SRs P B pl tb (s++s') (v++v')
 |[],v,s',v',h,h'=>by simp only[SRs] at h;subst h;exact h'
 |s::ss,v,s',v',h,h'=>by simp only[SRs,List.cons_append] at h ⊢;obtain⟨x,y,rfl,h2,h3⟩:=h;exact⟨x,y++v',rfl,h2,SRs.append h3 h'⟩
theorem SRs.take {B:Heap}{pl:Nat→Value}{tb:Nat→Option Bool}:∀ {s:List SV}{v:List Value},SRs P B pl tb s v→∀ n,SRs P B pl tb (s.take n) (v.take n)
 |[],v,h,n=>by simp only[SRs] at h;subst h;simp[SRs]
 |s::ss,v,h,0=>by simp[SRs]
 |s::ss,v,h,n+1=>by simp only[SRs] at h;obtain⟨x,y,rfl,h2,h3⟩:=h;simp only[List.take_succ_cons,SRs];exact⟨x,_,rfl,h2,SRs.take h3 n⟩
theorem SRs.drop {B:Heap}{pl:Nat→Value}{tb:Nat→Option Bool}:∀ {s:List SV}{v:List Value},SRs P B pl tb s v→∀ n,SRs P B pl tb (s.drop n) (v.drop n)
 |[],v,h,n=>by simp only[SRs] at h;subst h;simp[SRs]
 |s::ss,v,h,0=>by simpa using h
 |s::ss,v,h,n+1=>by simp only[SRs] at h;obtain⟨x,y,rfl,h2,h3⟩:=h;simpa using SRs.drop h3 n
theorem SRs.map {B:Heap}{pl:Nat→Value}{tb:Nat→Option Bool}{α:Type}{f:α→SV}{g:α→Value}:∀ {l:List α},(∀ x∈l,SR P B pl tb (f x) (g x))→SRs P B pl tb (l.map f) (l.map g)
 |[],_=>by simp[SRs]
 |x::l,h=>by simp only[List.map_cons,SRs];exact⟨_,_,rfl,h x (by simp),SRs.map fun y hy=>h y (by simp[hy])⟩
def OB.live:OB→Bool
 |.dead=>false
 |.stk _ _=>false
 |.lpf _ _ s=>s.live
 |_=>true
def oid:Value→Option Nat
 |.slice (some a) _ _=>some a.block
 |.pointer (some a)=>some a.block
 |.map m=>m
 |_=>none
def Oid (p:Value) (i:Nat):Prop:=match p with
 |.tuple l=>∃ b,(Jw (.tuple l)).get i=some b
 |v=>oid v=some i
theorem SK {p:Value}{i:Nat}(h:oid p=some i):Oid p i:=by cases p<;>first|exact h|cases h
theorem FK {p:Value}{n i:Nat}(hp:oid p=some n) (hi:Oid p i):i=n:=by cases p<;>first|exact osj (hi.symm.trans hp)|cases hp
def RowsH {α:Type}(R:α→List Value→List Nat→Prop) (sz:Nat) (h:Option Nat):Nat→List α→List Value→List Nat→Prop
 |_,[],cs,is=>cs=[]∧is=[]
 |j,x::xs,cs,is=>∃ c cs' i1 i2,cs=c++cs'∧is=i1++i2∧(if h=some j then c.length=sz∧i1=[] else R x c i1)∧RowsH R sz h (j+1) xs cs' i2
def DO (H:Heap) (ty:Nat) (q:Option Nat) (k:Kind) (xs:List k.T) (h:Option Nat) (v:Value) (is:List Nat):Prop :=
 (xs=[]∧v=.slice none 0 0∧is=[])∨∃ i cap c t js,v=.slice (some ⟨i,0,none⟩) xs.length cap∧is=i::js∧xs.length≤cap∧H.get i=some (.cells c ⟨k.size,ty⟩ true t)∧cap*k.size≤c.length ∧
  RowsH (KO H q k) k.size h 0 xs (c.take (xs.length*k.size)) js
def DP (σ:Heap) (p:Value) (ty:Nat) (q:Option Nat) (k:Kind) (xs:List k.T) (nl:Bool) (h:Option Nat):Prop :=
 ∃ is,(∀ i,Oid p i↔∃ b,(Jw p).get i=some b)∧is.Nodup∧DO (Jw p) ty q k xs h (phd p) is∧(∀ i,(∃ b,(Jw p).get i=some b)↔i∈is)∧(∀ i b,(Jw p).get i=some b→σ.get i=some b)∧(nl=true↔phd p=.slice none 0 0)
theorem DP.mono {σ σ':Heap}{p:Value}{ty:Nat}{q:Option Nat}{k:Kind}{xs:List k.T}{nl:Bool}{h:Option Nat}(hd:DP σ p ty q k xs nl h) (hg:∀ i,Oid p i→σ'.get i=σ.get i):DP σ' p ty q k xs nl h:=by obtain⟨is,hO,h1,h2,h3,h4,h5⟩:=hd;exact⟨is,hO,h1,h2,h3,fun i b hb=>by rw[hg i ((hO i).2 ⟨b,hb⟩)];exact h4 i b hb,h5⟩
def MR (B:Heap) (kk vk:Kind):List (kk.T×vk.T)→List Jk→Prop
 |[],es=>es=[]
 |m::ms,es=>∃ e bX,es=e::bX∧KV B kk m.1 e.1∧KV B vk m.2 e.2.1∧MR B kk vk ms bX
def SOk (es:List Jk) (clock:Nat):Prop:=(es.map fun e=>e.2.2).Nodup∧∀ e∈es,e.2.2<clock
def MC (B:Heap) (kk vk:Kind) (m:List (kk.T×vk.T)) (es:List Jk) (clock:Nat):Prop:=MR B kk vk m es∧SOk es clock
def DN (es:List Jk) (dn seen:List Nat):Prop:=seen.length=dn.length∧∀ (t r:Nat),dn[t]?=some r→∃ e,es[r]?=some e∧seen[t]?=some e.2.2
def OR (P:Program) (B:Heap) (pl:Nat→Value) (tb:Nat→Option Bool) (σ:Heap) (p:Value):OB→Prop
 |.dead=>True
 |.lst ty k xs nl=>(nl=true∧xs=[]∧p=.slice none 0 0)∨(nl=false∧∃ i cap c t,p=.slice (some ⟨i,0,none⟩) xs.length cap∧xs.length≤cap∧σ.get i=some (.cells c ⟨k.size,ty⟩ true t)∧cap*k.size≤c.length∧Rows (KC B k) xs (c.take (xs.length*k.size)))
 |.cells l u=>∃ i c e t,p=.pointer (some ⟨i,0,none⟩)∧σ.get i=some (.cells c e true t)∧SRs P B pl tb l c∧(∀ y,u=some y→e.ty=y∧t=true)
 |.map kk vk m=>∃ i es clock,p=.map (some i)∧σ.get i=some (.obj (.map es clock) true)∧MC B kk vk m es clock
 |.iter kk vk m dn=>∃ j i es clock wr seen,p=.pointer (some ⟨j,0,none⟩)∧σ.get j=some (.obj (.iter i clock seen clock) true)∧B.get i=some (.obj (.map es clock) wr)∧MC B kk vk m es clock∧DN es dn seen
 |.mapE kk vk m key n=>∃ i es clock,∃ r:Nat,∃ e:Jk,p=.map (some i)∧σ.get i=some (.obj (.map es clock) true)∧MC B kk vk m es clock∧es[r]?=some e∧KV B kk key e.1∧Qw e.1 es=some e∧(e.2.2:Int)=n∧∃ mk,gq.mkOk mk kk=true
 |.stk l vals=>SRs P B pl tb l vals
 |.deep ty q k xs nl h=>DP σ p ty q k xs nl h
 |.lpf l q s=>p=.pointer (some ⟨q.i,0,none⟩)∧SRs P B pl tb l q.vals∧(s.live=true→σ.get q.i=some (.obj (.lp q.vals q.r s.st s.pend) true))
theorem MR.mono {B B':Heap}(hB:B.Le B') {kk vk:Kind}:∀ {m:List (kk.T×vk.T)}{es:List Jk},MR B kk vk m es→MR B' kk vk m es
 |[],es,h=>h
 |m::ms,es,h=>by obtain⟨e,bX,h1,h2,h3,h4⟩:=h;exact⟨e,bX,h1,h2.mono hB,h3.mono hB,h4.mono hB⟩
theorem MC.mono {B B':Heap}(hB:B.Le B') {kk vk:Kind}{m:List (kk.T×vk.T)}{es:List Jk}{clock:Nat}(h:MC B kk vk m es clock):MC B' kk vk m es clock:=⟨h.1.mono hB,h.2⟩
theorem OR.upd {B B':Heap}{pl pl':Nat→Value}{tb tb':Nat→Option Bool}{o:Nat}(hB:B.Le B') (ht:∀ n c,tb n=some c→tb' n=some c) (hp:∀ d,d≠o→pl' d=pl d) {σ σ':Heap}{p:Value}{b:OB}
  (h:OR P B pl tb σ p b) (hg:b.live=true→∀ i,Oid p i→σ'.get i=σ.get i):OR P B' pl' tb' σ' p (b.kill o):=by
 cases b with
 |dead=>trivial
 |lst ty k xs nl =>
  rcases h with h|⟨h0,i,cap,c,t,h1,h2,h3,h4,h5⟩
  ·exact .inl h
  ·exact .inr ⟨h0,i,cap,c,t,h1,h2,by rw[hg rfl i (by rw[h1];rfl)];exact h3,h4,h5.mono fun _ _=>KC.mono hB⟩
 |cells l u =>obtain⟨i,c,e,t,h1,h2,h3,h4⟩:=h;exact⟨i,c,e,t,h1,by rw[hg rfl i (by rw[h1];rfl)];exact h2,SRs.upd hB ht hp l c h3,h4⟩
 |map kk vk m =>obtain⟨i,es,clock,h1,h2,h3⟩:=h;exact⟨i,es,clock,h1,by rw[hg rfl i (by rw[h1];rfl)];exact h2,h3.mono hB⟩
 |mapE kk vk m key n =>obtain⟨i,es,clock,r,e,h1,h2,h3,h4,h5,h6⟩:=h;exact⟨i,es,clock,r,e,h1,by rw[hg rfl i (by rw[h1];rfl)];exact h2,h3.mono hB,h4,h5.mono hB,h6⟩
 |stk l vals=>exact SRs.upd hB ht hp l vals h
 |deep ty q k xs nl hh=>exact DP.mono h (hg rfl)
 |iter kk vk m dn =>obtain⟨j,i,es,clock,wr,seen,h1,h2,h3,h4,h5⟩:=h;exact⟨j,i,es,clock,wr,seen,h1,by rw[hg rfl j (by rw[h1];rfl)];exact h2,hB.2 _ _ h3,h4.mono hB,h5⟩
 |lpf l q s=>exact⟨h.1,SRs.upd hB ht hp l q.vals h.2.1,fun hl=>by rw[hg hl q.i (by rw[h.1];rfl)];exact h.2.2 hl⟩
theorem OR.mono {B B':Heap}{pl:Nat→Value}{tb tb':Nat→Option Bool}(hB:B.Le B') (ht:∀ n c,tb n=some c→tb' n=some c) {σ σ':Heap}{p:Value}{b:OB}
  (h:OR P B pl tb σ p b) (hg:b.live=true→∀ i,Oid p i→σ'.get i=σ.get i):OR P B' pl tb' σ' p b:=by
 cases b with
 |dead=>trivial
 |lst ty k xs nl =>
  rcases h with h|⟨h0,i,cap,c,t,h1,h2,h3,h4,h5⟩
  ·exact .inl h
  ·exact .inr ⟨h0,i,cap,c,t,h1,h2,by rw[hg rfl i (by rw[h1];rfl)];exact h3,h4,h5.mono fun _ _=>KC.mono hB⟩
 |cells l u =>obtain⟨i,c,e,t,h1,h2,h3,h4⟩:=h;exact⟨i,c,e,t,h1,by rw[hg rfl i (by rw[h1];rfl)];exact h2,SRs.mono hB ht l c h3,h4⟩
 |map kk vk m =>obtain⟨i,es,clock,h1,h2,h3⟩:=h;exact⟨i,es,clock,h1,by rw[hg rfl i (by rw[h1];rfl)];exact h2,h3.mono hB⟩
 |mapE kk vk m key n =>obtain⟨i,es,clock,r,e,h1,h2,h3,h4,h5,h6⟩:=h;exact⟨i,es,clock,r,e,h1,by rw[hg rfl i (by rw[h1];rfl)];exact h2,h3.mono hB,h4,h5.mono hB,h6⟩
 |stk l vals=>exact SRs.mono hB ht l vals h
 |deep ty q k xs nl hh=>exact DP.mono h (hg rfl)
 |iter kk vk m dn =>obtain⟨j,i,es,clock,wr,seen,h1,h2,h3,h4,h5⟩:=h;exact⟨j,i,es,clock,wr,seen,h1,by rw[hg rfl j (by rw[h1];rfl)];exact h2,hB.2 _ _ h3,h4.mono hB,h5⟩
 |lpf l q s=>exact⟨h.1,SRs.mono hB ht l q.vals h.2.1,fun hl=>by rw[hg hl q.i (by rw[h.1];rfl)];exact h.2.2 hl⟩
theorem Qo (own:Own) (d:Nat) (b:OB) (d':Nat):Qe (oset own d b) d'=if d'=d then b else Qe own d':=by
 induction own with
 |nil =>
  simp only[oset,Qe];by_cases h:d'=d
  ·subst h;simp
  ·rw[if_neg h,ZS fun e=>h e.symm];rfl
 |cons p r ih =>
  obtain⟨k,c⟩:=p;simp only[oset];by_cases h1:k=d
  ·subst h1;simp only[Nat.beq_refl,_root_.cond_true,Qe];by_cases h:d'=k
   ·subst h;simp
   ·rw[if_neg h,ZS fun e=>h e.symm];rfl
  ·rw[ZS h1,cond_false];cases Nat.blt d k with
   |true =>
    simp only[_root_.cond_true,Qe];by_cases h:d'=d
    ·subst h;simp
    ·rw[if_neg h,ZS fun e=>h e.symm];rfl
   |false =>
    simp only[cond_false,Qe,ih];by_cases h:k=d'
    ·subst h;simp[h1]
    ·rw[ZS h];rfl
theorem K8 (own:Own) (o d:Nat):Qe (Ab o own) d=if d=o then .dead else (Qe own d).kill o:=by
 induction own with
 |nil=>simp[Ab,Qe,OB.kill]
 |cons p r ih =>
  obtain⟨k,c⟩:=p;simp only[Ab];by_cases h1:k=o
  ·subst h1;simp only[Nat.beq_refl,_root_.cond_true,ih,Qe];by_cases h:d=k
   ·simp[h]
   ·rw[if_neg h,if_neg h,ZS fun e=>h e.symm];rfl
  ·rw[ZS h1,cond_false];simp only[Qe,ih];by_cases h:k=d
   ·subst h;simp[h1]
   ·rw[ZS h];simp
theorem OR.frz {B:Heap}{pl:Nat→Value}{tb:Nat→Option Bool}{o:Nat}{k:Kind}{xs:List k.T}(hk:KC B (.list k) xs [pl o]) {σ:Heap}{p:Value}{b:OB}
  (h:OR P B pl tb σ p b):OR P B pl tb σ p (b.frz o k xs):=by
 cases b with
 |cells l u =>obtain⟨i,c,e,t,h1,h2,h3,h4⟩:=h;exact⟨i,c,e,t,h1,h2,SRs.frz hk l c h3,h4⟩
 |stk l vals=>exact SRs.frz hk l vals h
 |lpf l q s=>exact⟨h.1,SRs.frz hk l q.vals h.2.1,h.2.2⟩
 |_=>exact h
theorem Et (own:Own) (o:Nat) (k:Kind) (xs:List k.T) (d:Nat):Qe (IF o k xs own) d=if d=o then .dead else (Qe own d).frz o k xs:=by
 induction own with
 |nil=>simp[IF,Qe,OB.frz]
 |cons p r ih =>
  obtain⟨j,c⟩:=p;simp only[IF];by_cases h1:j=o
  ·subst h1;simp only[Nat.beq_refl,_root_.cond_true,ih,Qe];by_cases h:d=j
   ·simp[h]
   ·rw[if_neg h,if_neg h,ZS fun e=>h e.symm];rfl
  ·rw[ZS h1,cond_false];simp only[Qe,ih];by_cases h:j=d
   ·subst h;simp[h1]
   ·rw[ZS h];simp
theorem OB.live_frz (b:OB) (o:Nat) (k:Kind) (xs:List k.T):(b.frz o k xs).live=b.live:=by cases b<;>rfl
structure Gam (P:Program) (B F:Heap) (pl:Nat→Value) (tb:Nat→Option Bool) (s:St) (env:Env) (σ:Heap):Prop where
 bf:B.Le F
 le:F.Le σ
 env:SRs P B pl tb s.env env
 obj:∀ d,OR P B pl tb σ (pl d) (Qe s.own d)
 fresh:∀ d i,(Qe s.own d).live=true→Oid (pl d) i→F.get i=none
 sep:∀ d d' i,d≠d'→(Qe s.own d).live=true→(Qe s.own d').live=true→Oid (pl d) i→Oid (pl d') i→False
 free:∀ n,s.nx≤n→tb n=none
theorem Gam.leB {B F:Heap}{pl:Nat→Value}{tb:Nat→Option Bool}{s:St}{env:Env}{σ:Heap}(h:Gam P B F pl tb s env σ):B.Le σ:=h.bf.trans h.le
def J7 (pl:Nat→Value) (d:Nat) (p:Value):Nat→Value:=fun j=>if j=d then p else pl j
theorem OB.live_kill (b:OB) (o:Nat):(b.kill o).live=b.live:=by cases b<;>rfl
theorem Gam.make {B F:Heap}{pl:Nat→Value}{tb:Nat→Option Bool}{s:St}{env:Env}{σ σ':Heap}(h:Gam P B F pl tb s env σ) (d:Nat) (b:OB) (p:Value) (hle:F.Le σ')
  (cP:∀ j i,j≠d→(Qe s.own j).live=true→Oid (pl j) i→σ'.get i=σ.get i) (hb:OR P B (J7 pl d p) tb σ' p b)
  (bH:∀ i,b.live=true→Oid p i→F.get i=none∧∀ j,j≠d→(Qe s.own j).live=true→¬ Oid (pl j) i):Gam P B F (J7 pl d p) tb (s.make d b) env σ':=by
 have hp:∀ j,j≠d→J7 pl d p j=pl j:=fun j hj=>by simp[J7,hj]
 have hg:∀ j,Qe (s.make d b).own j=if j=d then b else (Qe s.own j).kill d:=fun j=>by simp only[St.make,St.kill,Qo,K8];split<;>rfl
 refine⟨h.bf,hle,SRs.upd (Heap.Le.refl B) (fun _ _ h=>h) hp _ _ h.env,fun j=>?_,fun j i hl hi=>?_,fun j j' i aF hl cy hi cE=>?_,h.free⟩
 ·rw[hg];by_cases hj:j=d
  ·subst hj;rw[if_pos rfl];simpa [J7] using hb
  ·rw[if_neg hj,hp j hj];exact(h.obj j).upd (Heap.Le.refl B) (fun _ _ h=>h) hp fun hl i hi=>cP j i hj hl hi
 ·rw[hg] at hl;by_cases hj:j=d
  ·subst hj;rw[if_pos rfl] at hl;simp only[J7,if_true] at hi;exact(bH i hl hi).1
  ·rw[if_neg hj,OB.live_kill] at hl;rw[hp j hj] at hi;exact h.fresh j i hl hi
 ·rw[hg] at hl cy;by_cases hj:j=d
  ·subst hj;rw[if_pos rfl] at hl;have cU:j'≠j:=fun e=>aF e.symm;rw[if_neg cU,OB.live_kill] at cy;rw[hp j' cU] at cE;simp only[J7,if_true] at hi;exact(bH i hl hi).2 j' cU cy cE
  ·rw[if_neg hj,OB.live_kill] at hl;rw[hp j hj] at hi;by_cases cU:j'=d
   ·subst cU;rw[if_pos rfl] at cy;simp only[J7,if_true] at cE;exact(bH i cy cE).2 j hj hl hi
   ·rw[if_neg cU,OB.live_kill] at cy;rw[hp j' cU] at cE;exact h.sep j j' i aF hl cy hi cE
theorem Gam.write {B F:Heap}{pl:Nat→Value}{tb:Nat→Option Bool}{s:St}{env:Env}{σ σ':Heap}(h:Gam P B F pl tb s env σ) (d:Nat) (b:OB) (hle:F.Le σ') (aC:(Qe s.own d).live=true)
  (cP:∀ j i,j≠d→(Qe s.own j).live=true→Oid (pl j) i→σ'.get i=σ.get i) (hb:OR P B pl tb σ' (pl d) b):Gam P B F pl tb ⟨s.env,oset s.own d b,s.nx⟩ env σ':=by
 refine⟨h.bf,hle,h.env,fun j=>?_,fun j i hl hi=>?_,fun j j' i aF hl cy hi cE=>?_,h.free⟩
 ·simp only[Qo];by_cases hj:j=d
  ·subst hj;rw[if_pos rfl];exact hb
  ·rw[if_neg hj];exact(h.obj j).mono (Heap.Le.refl B) (fun _ _ h=>h) fun hl i hi=>cP j i hj hl hi
 ·simp only[Qo] at hl;by_cases hj:j=d
  ·subst hj;exact h.fresh j i aC hi
  ·rw[if_neg hj] at hl;exact h.fresh j i hl hi
 ·simp only[Qo] at hl cy;have k1:(Qe s.own j).live=true:=by
   by_cases hj:j=d
   ·subst hj;exact aC
   ·rwa [if_neg hj] at hl
  have k2:(Qe s.own j').live=true:=by
   by_cases hj:j'=d
   ·subst hj;exact aC
   ·rwa [if_neg hj] at cy
  exact h.sep j j' i aF k1 k2 hi cE
theorem Gam.put {B F:Heap}{pl:Nat→Value}{tb:Nat→Option Bool}{s:St}{env:Env}{σ:Heap}(h:Gam P B F pl tb s env σ) (d:Option Nat) {v:SV}{u:Value}(hv:SR P B pl tb v u):Gam P B F pl tb (s.put d v) (Js env d u) σ:=by
 cases d with
 |none=>exact h
 |some d=>exact⟨h.bf,h.le,h.env.set d hv,h.obj,h.fresh,h.sep,h.free⟩
end
end Go.V
namespace Go.V
open Go
section
variable {P:Program}{B:Heap}{pl:Nat→Value}{tb:Nat→Option Bool}{own:Own}{σ:Heap}
theorem Zj {s:SV}{v:Value}{k:IntKind}{x:Int}(h:asI s=some (k,x)) (hs:SR P B pl tb s v):v=.int k x:=by
 unfold asI at h;split at h
 ·obtain⟨rfl,rfl⟩:=(by simpa using h:_=k∧_=x);simp only[SR,KC] at hs;simpa using hs
 ·cases h
theorem JK {s:SV}{v:Value}{x:Bool}(h:asB s=some x) (hs:SR P B pl tb s v):v=.bool x:=by
 unfold asB at h;split at h
 ·obtain rfl:=osj h;simp only[SR,KC] at hs;simpa using hs
 ·obtain rfl:=osj h;simp only[SR] at hs;exact hs.1
 ·cases h
theorem Kx {s:SV}{v:Value}{x:List UInt8}(h:asS s=some x) (hs:SR P B pl tb s v):v=.string ⟨x.toArray⟩:=by
 unfold asS at h;split at h
 ·obtain rfl:=osj h;simp only[SR,KC] at hs;simpa using hs
 ·cases h
theorem JW {k k':Kind}{l:List k.T}{l':List k'.T}(h:Nk l k'=some l'):k=k':=by
 unfold Nk at h;split at h
 ·assumption
 ·cases h
theorem JQ {k:Kind}{l l':List k.T}(h:Nk l k=some l'):l'=l:=by unfold Nk at h;rw[dif_pos rfl] at h;exact(osj h).symm
theorem HE {k k':Kind}{x:k.T}{x':k'.T}(h:Fh x k'=some x'):k=k':=by
 unfold Fh at h;split at h
 ·assumption
 ·cases h
theorem Hq {k:Kind}{x x':k.T}(h:Fh x k=some x'):x'=x:=by unfold Fh at h;rw[dif_pos rfl] at h;exact(osj h).symm
theorem Mm (v:Value):SR P B pl tb (cvp v) v:=by unfold cvp;split<;>simp[SR,KC]
theorem Oi (v:Value):SR P B pl tb (cv v) v:=by
 unfold cv;split
 ·rename_i cs;simp only[SR];refine⟨cs.toList,by simp,?_⟩;have:SRs P B pl tb (cs.toList.map cvp) (cs.toList.map id):=SRs.map fun x _=>Mm x;simpa using this
 ·exact Mm v
def Gds (tb:Nat→Option Bool) (gs:List Gd):Prop:=∀ g∈gs,g.c=g.want∧tb g.id=some g.c
theorem Cl {a b:List Gd}(h:Q3a a b=true) (hb:Gds tb b) (ha:∀ g∈a,tb g.id=some g.c):∀ g∈a,g.c=g.want:=by
 induction b generalizing a with
 |nil=>cases a with
  |nil=>intro g hg;cases hg
  |cons x a=>simp[Q3a] at h
 |cons y b ih =>
  cases a with
  |nil=>intro g hg;cases hg
  |cons x a =>
   have cr:Gds tb b:=fun g hg=>hb g (List.mem_cons_of_mem _ hg);simp only[Q3a] at h;cases hc:(Nat.beq x.id y.id&&(x.want==y.want)) with
   |true =>
    rw[hc] at h;simp only[_root_.cond_true] at h;simp only[Bool.and_eq_true,beq_iff_eq] at hc;have e1:=Nat.eq_of_beq_eq_true hc.1;intro g hg;rcases List.mem_cons.1 hg with rfl|hg
    ·have h1:=ha g (by simp);have h2:=hb y (by simp);rw[e1] at h1;rw[h2.2] at h1;obtain e:=osj h1;rw[←e,h2.1,hc.2]
    ·exact ih h cr (fun g hg=>ha g (List.mem_cons_of_mem _ hg)) g hg
   |false =>rw[hc] at h;exact ih h cr ha
theorem Re {gs:List Gd}(hg:Gds tb gs) {s:SV}{v:Value}(h:SR P B pl tb s v):SR P B pl tb (EP gs s) v:=by
 unfold EP;split
 ·rename_i g s;simp only[SR] at h;cases hs:Q3a g gs with
  |true=>exact h.2.1 (Cl hs hg h.1.1)
  |false=>trivial
 ·exact h
theorem Fe {gs:List Gd}(hg:Gds tb gs) {env:List SV}{nK:Env}(h:SRs P B pl tb env nK) (x:Operand):SR P B pl tb (gev gs env x) (Q5 nK x):=by
 cases x with
 |tmp t=>exact Re hg (h.getD t undef)
 |const v=>exact Oi v
 |global g=>trivial
 |func f=>simp only[gev,Q5,SR,SRs];exact⟨[],[],rfl,rfl,rfl⟩
theorem XQ {h:Heap}:∀ {k:Kind}{x:k.T}{cs:List Value},KC h k x cs→SRs P h pl tb (VM k x) cs
 |.i ik,x,cs,e=>by simp only[KC] at e;subst e;simp[VM,SRs,SR,KC]
 |.bo,x,cs,e=>by simp only[KC] at e;subst e;simp[VM,SRs,SR,KC]
 |.st,x,cs,e=>by simp only[KC] at e;subst e;simp[VM,SRs,SR,KC]
 |.list k,l,cs,e=>by obtain⟨v,rfl,hs⟩:=e;simp only[VM,SRs,SR];exact⟨v,[],rfl,⟨v,rfl,hs⟩,rfl⟩
 |.pair a b,x,cs,e=>by obtain⟨c1,c2,rfl,h1,h2⟩:=e;exact(XQ h1).append (XQ h2)
theorem JY {h:Heap}{k:Kind}{x:k.T}{v:Value}(e:KV h k x v):SR P h pl tb (Ic k x) v:=by
 cases k with
 |pair a b =>
  rcases e with⟨h1,_⟩|⟨_,cs,rfl,e⟩
  ·cases h1
  ·simp only[Ic,SR];exact⟨cs,rfl,XQ e⟩
 |i k|bo|st|list k =>
  rcases e with⟨_,e⟩|⟨h1,_⟩
  ·simpa only [Ic,SR] using e
  ·cases h1
theorem ZJ {l:List SV}{c:List Value}(h:SRs P B pl tb l c) {agg:Bool}{size off:Nat}{v:SV}(hv:GA agg size l off=some v):∃ u,Xk agg size c off=some u∧SR P B pl tb v u:=by
 cases agg with
 |true =>
  simp only[GA,_root_.cond_true] at hv;split at hv
  ·rename_i hle;obtain rfl:=osj hv;rw[h.length] at hle;refine⟨.agg ((c.drop off).take size).toArray,by simp only[Xk,if_true,hle],?_⟩;simp only[SR];exact⟨_,rfl,(h.drop off).take size⟩
  ·cases hv
 |false =>simp only[GA,_root_.cond_false] at hv;obtain⟨u,h1,h2⟩:=h.get hv;exact⟨u,by simpa [Xk] using h1,h2⟩
theorem V8 {agg:Bool}{size off n m i:Nat}{c:List Value}{u:Value}(bm:off+size≤n) (hs:0<size) (h:Xk agg size (((c.take m).drop (i*n)).take n) off=some u) (hl:i*n+n≤m):Xk agg size c (i*n+off)=some u:=by
 cases agg with
 |true =>
  simp only[Xk,if_true] at h ⊢;split at h
  ·rename_i hle;simp only[List.length_take,List.length_drop] at hle;rw[if_pos (by omega)];obtain rfl:=osj h;congr 3;apply List.ext_getElem?;intro j;simp only[List.getElem?_take,List.getElem?_drop];split
   ·rw[if_pos (by omega),if_pos (by omega),Nat.add_assoc]
   ·rfl
  ·cases h
 |false =>simp only[Xk,Bool.false_eq_true,if_false] at h ⊢;simp only[List.getElem?_take,List.getElem?_drop] at h;rw[if_pos (by omega),if_pos (by omega)] at h;exact h
theorem KC.rows_len {h:Heap}{k:Kind}:∀ (x:k.T) (c:List Value),KC h k x c→c.length=k.size:=fun _ _ e=>KC.length e
theorem KC.flat {h h':Heap}:∀ {k:Kind}{x:k.T}{cs:List Value},k.flat=true→KC h k x cs→KC h' k x cs
 |.i _,_,_,_,e|.bo,_,_,_,e|.st,_,_,_,e=>e
 |.list _,_,_,f,_=>by cases f
 |.pair a b,x,cs,f,e=>by simp only[Kind.flat,Bool.and_eq_true] at f;obtain⟨c1,c2,hc,h1,h2⟩:=e;exact⟨c1,c2,hc,KC.flat f.1 h1,KC.flat f.2 h2⟩
theorem KV.flat {h h':Heap}{k:Kind}{x:k.T}{v:Value}(e:KV h k x v) (f:k.flat=true):KV h' k x v:=by
 rcases e with⟨ho,e⟩|⟨ho,cs,hv,e⟩
 ·exact .inl ⟨ho,KC.flat f e⟩
 ·exact .inr ⟨ho,cs,hv,KC.flat f e⟩
theorem KO.kc {H:Heap}:∀ {k:Kind}{q:Option Nat}{x:k.T}{cs:List Value}{is:List Nat},KO H q k x cs is→KC H k x cs
 |.i _,_,_,_,_,h=>by simp only[KO] at h;exact h.1
 |.bo,_,_,_,_,h=>by simp only[KO] at h;exact h.1
 |.st,_,_,_,_,h=>by simp only[KO] at h;exact h.1
 |.list k,q,l,cs,is,h=>by
  simp only[KO] at h;rcases h with⟨rfl,rfl,_⟩|⟨i,cap,c,e,t,js,rfl,rfl,h1,h2,h3,_,h4,h5⟩
  ·exact⟨_,rfl,.inl ⟨rfl,rfl⟩⟩
  ·refine⟨_,rfl,.inr ⟨i,0,cap,c,e,true,t,rfl,h1,h2,h3,by have:=Nat.mul_le_mul_right k.size h1;omega,?_⟩⟩;rw[List.drop_zero];have key:∀ {xs:List k.T}{cs:List Value}{js:List Nat},RowsO (fun x c is=>KO H none k x c is) xs cs js→Rows (fun x c=>KC H k x c) xs cs:=fun h=>by
    induction h with
    |nil=>exact .nil
    |cons h _ ih=>exact .cons (KO.kc (k:=k) h) ih
   exact key h5
 |.pair a b,_,x,cs,is,h=>by simp only[KO] at h;obtain⟨c1,c2,i1,i2,rfl,rfl,h1,h2⟩:=h;exact⟨c1,c2,rfl,h1.kc,h2.kc⟩
def Q71:Kind→List Value→Prop
 |.list _,cs=>∀ v,cs=[v]→∀ a n c,v=.slice (some a) n c→a.off=0
 |_,_=>True
theorem KO.koff {H:Heap}:∀ {k:Kind}{q:Option Nat}{x:k.T}{cs:List Value}{is:List Nat},KO H q k x cs is→Q71 k cs
 |.i _,_,_,_,_,_|.bo,_,_,_,_,_|.st,_,_,_,_,_|.pair _ _,_,_,_,_,_=>trivial
 |.list k,q,l,cs,is,h=>by
  simp only[KO] at h;intro v hv a n c' hs;rcases h with⟨_,rfl,_⟩|⟨i,cap,c,e,t,js,rfl,_⟩
  ·obtain rfl:=(List.cons.inj hv).1;cases hs
  ·obtain rfl:=(List.cons.inj hv).1;cases hs;rfl
theorem RowsH.rows {α:Type}{R:α→List Value→List Nat→Prop}{R':α→List Value→Prop}(hR:∀ x c is,R x c is→R' x c) {sz:Nat}:∀ {xs:List α}{j:Nat}{cs:List Value}{is:List Nat},RowsH R sz none j xs cs is→Rows R' xs cs
 |[],j,cs,is,h=>by obtain⟨rfl,_⟩:=h;exact .nil
 |x::xs,j,cs,is,h=>by obtain⟨c,cs',i1,i2,rfl,rfl,h1,h2⟩:=h;rw[if_neg (by simp)] at h1;exact .cons (hR _ _ _ h1) (RowsH.rows hR h2)
theorem Hv:∀ {l:List (Nat×Blk)}{p:Nat×Blk},p∈l→∃ b,PX l p.1=some b
 |(j,b)::r,p,h=>by
  by_cases e:p.1=j
  ·exact⟨b,by simp only[PX,if_pos e]⟩
  ·rcases List.mem_cons.1 h with rfl|h
   ·exact absurd rfl e
   ·obtain⟨b',h'⟩:=Hv h;exact⟨b',by simp only[PX,if_neg e];exact h'⟩
theorem Fc:∀ {l:List (Nat×Blk)}{n:Nat},(∀ p∈l,p.1<n)→Ng l≤n
 |[],n,_=>Nat.zero_le _
 |(j,b)::r,n,h=>by have h1:=h (j,b) List.mem_cons_self;have h2:=Fc (l:=r) (n:=n) fun p hp=>h p (List.mem_cons_of_mem _ hp);simp only[Ng];simp only at h1;omega
theorem A5 (p:Value):∃ l,Jw p=Q1v l:=by
 unfold Jw;split
 ·exact⟨_,rfl⟩
 ·exact⟨_,rfl⟩
theorem Im {p:Value}{σ:Heap}(h:∀ i b,(Jw p).get i=some b→σ.get i=some b):(Jw p).Le σ:=by obtain⟨l,e⟩:=A5 p;rw[e] at h ⊢;refine⟨Fc fun x hx=>?_,h⟩;obtain⟨b,hb⟩:=Hv hx;exact σ.lt (h x.1 b hb)
theorem SG:∀ (l:List Value) {i:Nat}{c:List Value}{e:El}{wr t:Bool},PX (Q5f l) i=some (.cells c e wr t)→wr=true
 |[],i,c,e,wr,t,h=>by cases h
 |v::vs,i,c,e,wr,t,h=>by
  unfold Q5f at h;split at h
  ·rename_i q hq;obtain⟨j,b⟩:=q;simp only[PX] at h;split at h
   ·obtain rfl:=osj h;unfold Q9b at hq;split at hq
    ·cases hq;rfl
    ·cases hq
   ·exact SG vs h
  ·exact SG vs h
theorem IC {p:Value}{i:Nat}{c:List Value}{e:El}{wr t:Bool}(h:(Jw p).get i=some (.cells c e wr t)):wr=true:=by
 unfold Jw at h;split at h
 ·exact SG _ h
 ·cases h
theorem DP.le {σ:Heap}{p:Value}{ty:Nat}{q:Option Nat}{k:Kind}{xs:List k.T}{nl:Bool}{h:Option Nat}(hd:DP σ p ty q k xs nl h):(Jw p).Le σ:=by obtain⟨is,_,_,_,_,h4,_⟩:=hd;exact Im h4
theorem DP.sl {σ:Heap}{p:Value}{ty:Nat}{q:Option Nat}{k:Kind}{xs:List k.T}{nl:Bool}(hd:DP σ p ty q k xs nl none):SlRel (Jw p) k.size (KC (Jw p) k) xs (phd p):=by
 obtain⟨is,_,_,h2,_,_,_⟩:=hd;rcases h2 with⟨rfl,h,_⟩|⟨i,cap,c,t,js,h,_,h1,h3,h4,h5⟩
 ·exact .inl ⟨rfl,h⟩
 ·refine .inr ⟨i,0,cap,c,_,true,t,h,h1,h3,rfl,by have:=Nat.mul_le_mul_right k.size h1;omega,?_⟩;rw[List.drop_zero];exact h5.rows fun _ _ _ h=>h.kc
theorem DP.hd {σ:Heap}{p:Value}{ty:Nat}{q:Option Nat}{k:Kind}{xs:List k.T}{nl:Bool}{h:Option Nat}(hd:DP σ p ty q k xs nl h):∃ a cap,phd p=.slice a xs.length cap:=by
 obtain⟨is,_,_,h2,_,_,_⟩:=hd;rcases h2 with⟨rfl,h,_⟩|⟨i,cap,c,t,js,h,_⟩
 ·exact⟨_,_,h⟩
 ·exact⟨_,_,h⟩
theorem Lb {H:Heap}{k:Kind}{l:List k.T}{v:Value}(h:KC H (.list k) l [v]) {j:Nat}(hj:j<l.length):∃ b o cap c e wr t,v=.slice (some ⟨b,o,none⟩) l.length cap∧H.get b=some (.cells c e wr t)∧o+l.length*k.size≤c.length∧Rows (KC H k) l ((c.drop o).take (l.length*k.size)):=by
 obtain⟨v',e,hs⟩:=h;obtain rfl:=(List.cons.inj e).1;rcases hs with⟨rfl,_⟩|⟨b,o,cap,c,e',wr,t,h2,h3,h4,h5,h6,h7⟩
 ·simp at hj
 ·exact⟨b,o,cap,c,e',wr,t,h2,h4,h6,h7⟩
theorem BJ {p:Value}{k:Kind}{l:List k.T}{v:Value}(h:KC (Jw p) (.list k) l [v]):SlRel (Jw p) k.size (fun x c=>KC (Jw p) k x c) l v:=by obtain⟨v',e,hs⟩:=h;obtain rfl:=(List.cons.inj e).1;exact hs
theorem Kg (hle:B.Le σ) (aA:∀ d,OR P B pl tb σ (pl d) (Qe own d)) {k:Kind}{s:SV}{l:List k.T}{v:Value}(h:view own k s=some l) (hs:SR P B pl tb s v):SlRel σ k.size (KC B k) l v:=by
 unfold view at h;split at h
 ·obtain rfl:=osj h;simp only[SR] at hs;exact .inl ⟨rfl,hs⟩
 ·rename_i k' l0;obtain rfl:=JW h;obtain rfl:=JQ h;simp only[SR,KC] at hs;obtain⟨v',e,hs⟩:=hs;obtain rfl:=(List.cons.inj e).1;exact hs.mono hle fun _ _ h=>h
 ·rename_i o;have ho:=aA o;simp only[SR] at hs
  replace hs:=hs.1
  split at h
  ·rename_i ty k' xs nl heq;obtain rfl:=JW h;obtain rfl:=JQ h;rw[heq] at ho;rcases ho with⟨_,rfl,h2⟩|⟨_,i,cap,c,t,h1,h2,h3,h4,h5⟩
   ·exact .inl ⟨rfl,by rw[hs,h2]⟩
   ·refine .inr ⟨i,0,cap,c,_,true,t,by rw[hs,h1],h2,h3,rfl,?_,by simpa using h5⟩;have:=Nat.mul_le_mul_right k'.size h2;omega
  ·cases h
 ·rename_i o lo n sz;have ho:=aA o;split at h
  ·rename_i ty k' xs nl heq;split at h
   ·rename_i aJ;subst aJ;cases hc:Nk xs k with
    |none=>rw[hc] at h;cases h
    |some cH =>
     obtain rfl:=JW hc;obtain rfl:=JQ hc;rw[hc] at h;obtain rfl:=osj h;simp only[SR] at hs;rw[heq] at ho;rcases hs with⟨rfl,rfl,rfl,_⟩|⟨i,len,cap,aw,h1,h2,h3,rfl⟩
     ·exact .inl ⟨by simp,rfl⟩
     ·rcases ho with⟨_,_,h4⟩|⟨_,i',iJ,c,t,h4,h5,h6,h7,h8⟩
      ·rw[h1] at h4;cases h4
      ·rw[h1] at h4;obtain⟨rfl,rfl,rfl⟩:=(by simpa using h4:i=i'∧len=cH.length∧cap=iJ);have hlen:((cH.drop lo).take n).length=n:=by simp;omega
       have k1:lo*k'.size+n*k'.size≤cH.length*k'.size:=by rw[←Nat.add_mul];exact Nat.mul_le_mul_right _ h2
       have k2:=Nat.mul_le_mul_right k'.size h5;refine .inr ⟨i,lo*k'.size,aw,c,_,true,t,by rw[hlen],by rw[hlen];exact h3,h6,rfl,by rw[hlen];omega,?_⟩;rw[hlen];have:=(h8.drop KC.rows_len lo).take KC.rows_len n;have e:((c.take (cH.length*k'.size)).drop (lo*k'.size)).take (n*k'.size)=(c.drop (lo*k'.size)).take (n*k'.size):=by
        apply List.ext_getElem?;intro j;simp only[List.getElem?_take,List.getElem?_drop];split
        ·rw[if_pos (by omega)]
        ·rfl
       rw[e] at this;exact this
   ·cases h
  ·cases h
 ·rename_i o w;have ho:=aA o;simp only[SR] at hs;cases hf:k.flat with
  |false=>rw[hf] at h;cases h
  |true =>
   rw[hf] at h;simp only[_root_.cond_true] at h;split at h
   ·rename_i ty q k' xs nl hole heq;rw[heq] at ho;have dh:=DP.le ho;split at h
    ·split at h
     ·obtain rfl:=JW h;obtain rfl:=JQ h;obtain⟨hs,_⟩:=hs;rw[hs];exact(DP.sl ho).mono dh fun _ _ e=>KC.flat hf e
     ·cases h
    ·rename_i k' l';obtain rfl:=JW h;obtain rfl:=JQ h;exact(BJ hs).mono dh fun _ _ e=>KC.flat hf e
    ·rename_i k' l' i;obtain rfl:=JW h;obtain rfl:=JQ h;exact(BJ hs.1).mono dh fun _ _ e=>KC.flat hf e
    ·cases h
   ·cases h
 ·cases h
theorem SlRel.len {h:Heap}{sz:Nat}{α:Type}{R:α→List Value→Prop}{l:List α}{v:Value}(hs:SlRel h sz R l v):∃ a cap,v=.slice a l.length cap:=by
 rcases hs with⟨rfl,rfl⟩|⟨i,o,cap,c,e,wr,t,rfl,_⟩
 ·exact⟨_,_,rfl⟩
 ·exact⟨_,_,rfl⟩
theorem CG (aA:∀ d,OR P B pl tb σ (pl d) (Qe own d)) {s:SV}{n:Nat}{v:Value}(h:Q8n own s=some n) (hs:SR P B pl tb s v):∃ a cap,v=.slice a n cap:=by
 unfold Q8n at h;split at h
 ·obtain rfl:=osj h;simp only[SR] at hs;exact⟨_,_,hs⟩
 ·obtain rfl:=osj h;simp only[SR,KC] at hs;obtain⟨v',e,hs⟩:=hs;obtain rfl:=(List.cons.inj e).1;exact hs.len
 ·rename_i o;have ho:=aA o;simp only[SR] at hs
  replace hs:=hs.1
  split at h
  ·rename_i ty k' xs nl heq;obtain rfl:=osj h;rw[heq] at ho;rcases ho with⟨_,rfl,h2⟩|⟨_,i,cap,c,t,h1,h2,h3,h4,h5⟩
   ·exact⟨_,_,by rw[hs,h2];rfl⟩
   ·exact⟨_,_,by rw[hs,h1]⟩
  ·cases h
 ·obtain rfl:=osj h;simp only[SR] at hs;rcases hs with⟨rfl,rfl,rfl,_⟩|⟨i,len,cap,aw,h1,h2,h3,rfl⟩
  ·exact⟨_,_,rfl⟩
  ·exact⟨_,_,rfl⟩
 ·rename_i o w;have ho:=aA o;simp only[SR] at hs;split at h
  ·rename_i ty q k' xs nl hole heq;rw[heq] at ho;split at h
   ·split at h
    ·obtain rfl:=osj h;obtain⟨hs,_⟩:=hs;rw[hs];exact DP.hd ho
    ·cases h
   ·obtain rfl:=osj h;exact(BJ hs).len
   ·obtain rfl:=osj h;exact(BJ hs.1).len
   ·cases h
  ·cases h
 ·cases h
theorem ZD {o:Nat}:∀ {k:Kind}{x:k.T}{cs:List Value},KC (Jw (pl o)) k x cs→SRs P B pl tb (UC o k x) cs
 |.i ik,x,cs,h=>by simp only[KC] at h;subst h;simp[UC,SRs,SR,KC]
 |.bo,x,cs,h=>by simp only[KC] at h;subst h;simp[UC,SRs,SR,KC]
 |.st,x,cs,h=>by simp only[KC] at h;subst h;simp[UC,SRs,SR,KC]
 |.list k,x,cs,h=>by have hl:=KC.length h;obtain⟨v,rfl⟩:=List.length_eq_one_iff.1 (show cs.length=1 from hl);simp only[UC,SRs,SR,DR];exact⟨v,[],rfl,h,rfl⟩
 |.pair a b,x,cs,h=>by obtain⟨c1,c2,rfl,h1,h2⟩:=h;exact SRs.append (ZD h1) (ZD h2)
theorem CD {o:Nat}{i:Int}:∀ {k:Kind}{x:k.T}{cs:List Value},KC (Jw (pl o)) k x cs→Q71 k cs→(k.one=true→∀ v,cs=[v]→∃ b len cap c e t,phd (pl o)=.slice (some ⟨b,0,none⟩) len cap∧0≤i∧i<len∧(Jw (pl o)).get b=some (.cells c e true t)∧c[i.toNat]?=some v)→SRs P B pl tb (Q7r o i k x) cs
 |.i ik,x,cs,h,_,_=>ZD (o:=o) h
 |.bo,x,cs,h,_,_=>ZD (o:=o) h
 |.st,x,cs,h,_,_=>ZD (o:=o) h
 |.list k,x,cs,h,ho,hr=>by have hl:=KC.length h;obtain⟨v,rfl⟩:=List.length_eq_one_iff.1 (show cs.length=1 from hl);simp only[Q7r,SRs,SR,DR];exact⟨v,[],rfl,⟨h,ho v rfl,hr rfl v rfl⟩,rfl⟩
 |.pair a b,x,cs,h,_,_=>ZD (o:=o) h
theorem DP.elem {σ:Heap}{p:Value}{ty:Nat}{q:Option Nat}{k:Kind}{xs:List k.T}{nl:Bool}(hd:DP σ p ty q k xs nl none) {b len cap:Nat}(hp:phd p=.slice (some ⟨b,0,none⟩) len cap) :
  ∃ c t,(Jw p).get b=some (.cells c ⟨k.size,ty⟩ true t)∧len=xs.length∧xs.length≤cap∧cap*k.size≤c.length∧Rows (fun x c=>KC (Jw p) k x c∧Q71 k c) xs (c.take (xs.length*k.size)):=by
 obtain⟨is,_,_,h2,_,_,_⟩:=hd;rcases h2 with⟨rfl,h,_⟩|⟨i,aw,c,t,js,h,_,h1,h3,h4,h5⟩
 ·rw[hp] at h;cases h
 ·rw[hp] at h;obtain⟨rfl,rfl,rfl⟩:=(by simpa using h:b=i∧len=xs.length∧cap=aw);exact⟨c,t,h3,rfl,h1,h4,h5.rows fun _ _ _ h=>⟨h.kc,h.koff⟩⟩
theorem DB (hle:B.Le σ) (aA:∀ d,OR P B pl tb σ (pl d) (Qe own d)) {agg:Bool}{size:Nat}(aJ:0<size) {s v:SV}{p:Value}(h:O3 own agg size s=some v) (hs:SR P B pl tb s p) :
  ∃ i o c e wr t u,p=.pointer (some ⟨i,o,none⟩)∧σ.get i=some (.cells c e wr t)∧Xk agg size c o=some u∧SR P B pl tb v u:=by
 unfold O3 at h;split at h
 ·rename_i o off;have ho:=aA o;simp only[SR] at hs;obtain⟨b,h1,rfl⟩:=hs;split at h
  ·rename_i l _ heq;rw[heq] at ho;obtain⟨i,c,e,t,h2,h3,h4,_⟩:=ho;rw[h1] at h2;obtain rfl:=(by simpa using h2:b=i);obtain⟨u,h5,h6⟩:=ZJ h4 h;exact⟨b,off,c,e,true,t,u,rfl,h3,h5,h6⟩
  ·cases h
 ·rename_i l off;simp only[SR] at hs;obtain⟨b,c,e,wr,t,h1,rfl,h3⟩:=hs;obtain⟨u,h5,h6⟩:=ZJ h3 h;exact⟨b,off,c,e,wr,t,u,rfl,hle.2 _ _ h1,h5,h6⟩
 ·rename_i o i off sz;have ho:=aA o;simp only[SR] at hs;obtain⟨b,len,cap,h1,h2,h3,rfl⟩:=hs;split at h
  ·rename_i ty k xs nl heq;rw[heq] at ho;split at h
   ·rename_i aj;obtain⟨rfl,bm⟩:=aj;rcases ho with⟨_,_,h4⟩|⟨_,i',iJ,c,t,h4,h5,h6,h7,h8⟩
    ·rw[h1] at h4;cases h4
    ·rw[h1] at h4;obtain⟨rfl,rfl,rfl⟩:=(by simpa using h4:b=i'∧len=xs.length∧cap=iJ);have hi:i.toNat<xs.length:=by omega
     have hr:=h8.at KC.rows_len hi;have hx:xs.getD i.toNat k.dflt=xs[i.toNat]:=by simp[List.getD_eq_getElem?_getD,List.getElem?_eq_getElem hi]
     rw[hx] at h;obtain⟨u,h9,cq⟩:=ZJ (XQ (P:=P) (pl:=pl) (tb:=tb) hr) h;refine⟨b,_,c,_,true,t,u,rfl,h6,V8 bm aJ h9 ?_,cq⟩;have:(i.toNat+1)*k.size≤xs.length*k.size:=Nat.mul_le_mul_right _ hi
     rwa [Nat.add_mul,Nat.one_mul] at this
   ·cases h
  ·cases h
 ·rename_i k l i off;simp only[SR] at hs;obtain⟨b,o,c,e,wr,t,h1,h2,h3,rfl,h5,h6⟩:=hs;split at h
  ·rename_i bm;have hi:i.toNat<l.length:=by omega
   have hr:=h6.at KC.rows_len hi;have hx:l.getD i.toNat k.dflt=l[i.toNat]:=by simp[List.getD_eq_getElem?_getD,List.getElem?_eq_getElem hi]
   rw[hx] at h;obtain⟨u,h9,cq⟩:=ZJ (XQ (P:=P) (pl:=pl) (tb:=tb) hr) h;have dz:(i.toNat+1)*k.size≤l.length*k.size:=Nat.mul_le_mul_right _ hi;rw[Nat.add_mul,Nat.one_mul] at dz;refine⟨b,_,c,e,wr,t,u,rfl,hle.2 _ _ h3,?_,cq⟩;have:=V8 bm aJ h9 dz;clear h9;cases agg with
   |true =>
    simp only[Xk,if_true,List.length_drop] at this ⊢;split at this
    ·rename_i dh;rw[if_pos (by omega)];rw[←this,List.drop_drop,Nat.add_assoc]
    ·cases this
   |false =>simp only[Xk,Bool.false_eq_true,if_false,List.getElem?_drop] at this ⊢;rw[←this,Nat.add_assoc]
  ·cases h
 ·rename_i o w;have ho:=aA o;simp only[SR] at hs;split at h
  ·rename_i ty q k xs nl hole heq;rw[heq] at ho;split at h
   ·have dh:=DP.le ho;split at h
    ·rename_i i off sz;obtain⟨b,len,cap,h1,h2,h3,rfl⟩:=hs;split at h
     ·rename_i aj;obtain⟨rfl,bm⟩:=aj;obtain⟨c,t,h4,rfl,h5,h6,h7⟩:=DP.elem ho h1;have hi:i.toNat<xs.length:=by omega
      have hr:=h7.at (fun x c h=>KC.rows_len x c h.1) hi;have hx:xs.getD i.toNat k.dflt=xs[i.toNat]:=by simp[List.getD_eq_getElem?_getD,List.getElem?_eq_getElem hi]
      rw[hx] at h;have iK:(i.toNat+1)*k.size≤xs.length*k.size:=Nat.mul_le_mul_right _ hi;rw[Nat.add_mul,Nat.one_mul] at iK;obtain⟨u,h9,cq⟩:=ZJ (CD (P:=P) (B:=B) (tb:=tb) hr.1 hr.2 fun bU v hv=>by
       refine⟨b,_,cap,c,_,t,h1,h2,h3,h4,?_⟩;have ud:=Kind.one_size bU;have:(((c.take (xs.length*k.size)).drop (i.toNat*k.size)).take k.size)[0]?=some v:=by rw[hv];rfl
       rw[ud] at this;simp only[Nat.mul_one,List.getElem?_take,List.getElem?_drop,Nat.add_zero] at this;rw[if_pos (by omega),if_pos (by omega)] at this;exact this) h
      exact⟨b,_,c,_,true,t,u,rfl,dh.2 _ _ h4,V8 bm aJ h9 iK,cq⟩
     ·cases h
    ·rename_i k' x i j off;obtain⟨b,len,cap,c,e,t,r,rl,rc,bM,re,rt,h1,h2,h3,h4,h5,h6,h7,h8,h9,cq,iL,rfl⟩:=hs;split at h
     ·rename_i bm;subst h8;have hj:j.toNat<x.length:=by omega
      have hr:=iL.at KC.rows_len hj;have hx:x.getD j.toNat k'.dflt=x[j.toNat]:=by simp[List.getD_eq_getElem?_getD,List.getElem?_eq_getElem hj]
      rw[hx] at h;have iK:(j.toNat+1)*k'.size≤x.length*k'.size:=Nat.mul_le_mul_right _ hj;rw[Nat.add_mul,Nat.one_mul] at iK;obtain⟨u,k9,qg⟩:=ZJ (ZD (P:=P) (B:=B) (tb:=tb) hr) h;exact⟨r,_,bM,_,true,rt,u,rfl,dh.2 _ _ h9,V8 bm aJ k9 iK,qg⟩
     ·cases h
    ·rename_i k' l j off;obtain⟨b,o',c,e,wr,t,h1,h2,h3,rfl,h5,h6⟩:=hs;split at h
     ·rename_i bm;have hj:j.toNat<l.length:=by omega
      have hr:=h6.at KC.rows_len hj;have hx:l.getD j.toNat k'.dflt=l[j.toNat]:=by simp[List.getD_eq_getElem?_getD,List.getElem?_eq_getElem hj]
      rw[hx] at h;obtain⟨u,k9,qg⟩:=ZJ (ZD (P:=P) (B:=B) (tb:=tb) hr) h;have dz:(j.toNat+1)*k'.size≤l.length*k'.size:=Nat.mul_le_mul_right _ hj;rw[Nat.add_mul,Nat.one_mul] at dz;refine⟨b,_,c,e,wr,t,u,rfl,dh.2 _ _ h3,?_,qg⟩;have:=V8 bm aJ k9 dz;clear k9;cases agg with
      |true =>
       simp only[Xk,if_true,List.length_drop] at this ⊢;split at this
       ·rename_i uf;rw[if_pos (by omega)];rw[←this,List.drop_drop,Nat.add_assoc]
       ·cases this
      |false =>simp only[Xk,Bool.false_eq_true,if_false,List.getElem?_drop] at this ⊢;rw[←this,Nat.add_assoc]
     ·cases h
    ·cases h
   ·cases h
  ·cases h
 ·cases h
end
end Go.V
namespace Go.V
open Go
section
variable {P:Program}{B:Heap}{pl:Nat→Value}{tb:Nat→Option Bool}{own:Own}{σ:Heap}
theorem Hy {s:SV}{v:Value}(h:s.solid=true) (hs:SR P B pl tb s v):WS v=some [v]∧cellOk v=true:=by
 cases s with
 |any=>cases h
 |grd gs s=>cases h
 |agg l=>cases h
 |tup l=>cases h
 |val k x =>
  simp only[SR] at hs;cases k with
  |i ik=>simp only[KC] at hs;obtain rfl:=(List.cons.inj hs).1;exact⟨rfl,rfl⟩
  |bo=>simp only[KC] at hs;obtain rfl:=(List.cons.inj hs).1;exact⟨rfl,rfl⟩
  |st=>simp only[KC] at hs;obtain rfl:=(List.cons.inj hs).1;exact⟨rfl,rfl⟩
  |list k =>obtain⟨v',e,hs⟩:=hs;obtain rfl:=(List.cons.inj e).1;obtain⟨a,c,rfl⟩:=hs.len;exact⟨rfl,rfl⟩
  |pair a b =>have h1:=KC.length hs;have h2:=a.size_pos;have h3:=b.size_pos;simp only[Kind.size,List.length_singleton] at h1;omega
 |bid n c=>simp only[SR] at hs;obtain⟨rfl,_⟩:=hs;exact⟨rfl,rfl⟩
 |nilS=>simp only[SR] at hs;subst hs;exact⟨rfl,rfl⟩
 |nilP=>simp only[SR] at hs;subst hs;exact⟨rfl,rfl⟩
 |nilM=>simp only[SR] at hs;subst hs;exact⟨rfl,rfl⟩
 |nilF=>simp only[SR] at hs;subst hs;exact⟨rfl,rfl⟩
 |lst o=>simp only[SR] at hs;obtain⟨_,a,n,c,rfl⟩:=hs;exact⟨rfl,rfl⟩
 |dd o w =>
  simp only[SR] at hs;cases w with
  |out=>obtain⟨_,a,n,c,rfl⟩:=hs;exact⟨rfl,rfl⟩
  |el i off sz=>obtain⟨_,_,_,_,_,_,rfl⟩:=hs;exact⟨rfl,rfl⟩
  |row k x i=>obtain⟨a,c,rfl⟩:=(BJ hs.1).len;exact⟨rfl,rfl⟩
  |rowp k x i j off=>obtain⟨_,_,_,_,_,_,_,_,_,_,_,_,_,_,_,_,_,_,_,_,_,_,_,rfl⟩:=hs;exact⟨rfl,rfl⟩
  |inn k x=>obtain⟨a,c,rfl⟩:=(BJ hs).len;exact⟨rfl,rfl⟩
  |inp k l j off=>obtain⟨_,_,_,_,_,_,_,_,_,rfl,_⟩:=hs;exact⟨rfl,rfl⟩
  |dat=>rcases hs with⟨_,rfl⟩|⟨_,_,_,_,_,rfl⟩<;>exact⟨rfl,rfl⟩
  |obx c=>rcases hs with⟨_,rfl⟩|⟨_,_,_,rfl⟩<;>exact⟨rfl,rfl⟩
  |yv=>obtain⟨_,_,rfl⟩:=hs;exact⟨rfl,rfl⟩
 |sub o lo n sz=>simp only[SR] at hs;rcases hs with⟨_,_,rfl,_⟩|⟨_,_,_,_,_,_,_,rfl⟩<;>exact⟨rfl,rfl⟩
 |elp o i off sz=>simp only[SR] at hs;obtain⟨_,_,_,_,_,_,rfl⟩:=hs;exact⟨rfl,rfl⟩
 |rop k l i off=>simp only[SR] at hs;obtain⟨_,_,_,_,_,_,_,_,_,rfl,_⟩:=hs;exact⟨rfl,rfl⟩
 |box o off=>simp only[SR] at hs;obtain⟨_,_,rfl⟩:=hs;exact⟨rfl,rfl⟩
 |cp l off=>simp only[SR] at hs;obtain⟨_,_,_,_,_,_,rfl,_⟩:=hs;exact⟨rfl,rfl⟩
 |map o=>simp only[SR] at hs;obtain⟨_,m,rfl⟩:=hs;exact⟨rfl,rfl⟩
 |fn f a b=>simp only[SR] at hs;obtain⟨_,_,rfl,_⟩:=hs;exact⟨rfl,rfl⟩
 |pf ks r cR p=>simp only[SR] at hs;obtain⟨_,_,_,rfl,_⟩:=hs;exact⟨rfl,rfl⟩
theorem G2:∀ {l:List SV}{c:List Value},l.all SV.solid=true→SRs P B pl tb l c→c.all cellOk=true
 |[],c,_,h=>by simp only[SRs] at h;subst h;rfl
 |s::ss,c,hl,h=>by simp only[SRs] at h;obtain⟨x,y,rfl,h1,h2⟩:=h;simp only[List.all_cons,Bool.and_eq_true] at hl ⊢;exact⟨(Hy hl.1 h1).2,G2 hl.2 h2⟩
theorem XW {s:SV}{v:Value}{l:List SV}(h:UA s=some l) (hs:SR P B pl tb s v):∃ c,WS v=some c∧SRs P B pl tb l c∧c.all cellOk=true:=by
 have key:s.solid=true→some [s]=some l→∃ c,WS v=some c∧SRs P B pl tb l c∧c.all cellOk=true:=fun qh e=>by obtain rfl:=osj e;obtain⟨h1,h2⟩:=Hy qh hs;exact⟨[v],h1,by simp only[SRs];exact⟨v,[],rfl,hs,rfl⟩,by simp[h2]⟩
 cases s with
 |any=>cases h
 |grd gs s=>cases h
 |tup l=>cases h
 |agg l' =>
  simp only[UA] at h;cases hl:l'.all SV.solid with
  |false=>rw[hl] at h;cases h
  |true =>rw[hl] at h;obtain rfl:=osj h;simp only[SR] at hs;obtain⟨cs,rfl,hs⟩:=hs;exact⟨cs,rfl,hs,G2 hl hs⟩
 |_=>exact key rfl h
theorem MM:∀ {vs:List SV}{us:List Value}{c:List SV}{cV:List Value}{o:Nat},SRs P B pl tb c cV→SRs P B pl tb vs us→SRs P B pl tb (gfill.setS c o vs) (WH cV o us)
 |[],us,c,cV,o,h,h'=>by simp only[SRs] at h';subst h';exact h
 |v::vs,us,c,cV,o,h,h'=>by simp only[SRs] at h';obtain⟨x,y,rfl,h1,h2⟩:=h';simp only[gfill.setS,WH];exact MM (h.set o h1) h2
theorem BH:∀ {ps:List (Nat×Nat×Operand)}{c l:List SV}{cV:List Value}{ev:Operand→SV}{evV:Operand→Value},(∀ x,SR P B pl tb (ev x) (evV x))→SRs P B pl tb c cV→gfill c (ps.map fun p=>(p.1,p.2.1,ev p.2.2))=some l →
  ∃ lV,Vb cV (ps.map fun p=>(p.1,p.2.1,evV p.2.2))=some lV∧SRs P B pl tb l lV
 |[],c,l,cV,ev,evV,al,h,hg=>by obtain rfl:=osj hg;exact⟨cV,rfl,h⟩
 |p::ps,c,l,cV,ev,evV,al,h,hg=>by
  simp only[List.map_cons,gfill] at hg;split at hg
  ·rename_i vs hs;split at hg
   ·rename_i aj;obtain⟨us,h1,h2,_⟩:=XW hs (al p.2.2);obtain⟨lV,h3,h4⟩:=BH al (MM h h2) hg;refine⟨lV,?_,h4⟩;simp only[List.map_cons,Vb,h1];rw[if_pos ⟨by rw[←h2.length];exact aj.1,by rw[←h.length];exact aj.2⟩];exact h3
   ·cases hg
  ·cases hg
theorem Wc {h:Heap}:∀ {k:Kind}{z:List Value},Kc k z=true→KC h k k.dflt z
 |.i ik,z,e=>by unfold Kc at e;split at e<;>simp_all [KC,Kind.dflt]
 |.bo,z,e=>by unfold Kc at e;split at e<;>simp_all [KC,Kind.dflt]
 |.st,z,e=>by unfold Kc at e;split at e<;>simp_all [KC,Kind.dflt];rename_i s;cases s;simp_all
 |.list k,z,e=>by unfold Kc at e;split at e<;>simp_all [KC,Kind.dflt];exact .inl ⟨rfl,rfl⟩
 |.pair a b,z,e=>by simp only[Kc,Bool.and_eq_true] at e;exact⟨_,_,(List.take_append_drop a.size z).symm,Wc e.1,Wc e.2⟩
theorem Pn {h:Heap}{mk:MK}{kk:Kind}(hk:gq.mkP mk kk=true) {x:kk.T}{cs:List Value}(e:KC h kk x cs):∃ v,cs=[v]∧Zm mk v=true∧Ie mk v=true:=by
 unfold gq.mkP at hk;split at hk
 ·simp only[KC] at e;subst e;obtain rfl:=of_decide_eq_true hk;exact⟨_,rfl,by simp[Zm],by simp[Ie]⟩
 ·simp only[KC] at e;subst e;exact⟨_,rfl,rfl,rfl⟩
 ·simp only[KC] at e;subst e;exact⟨_,rfl,rfl,rfl⟩
 ·cases hk
theorem Q0f {h:Heap}{mk:MK}{kk:Kind}(hk:gq.mkP mk kk=true) {x y:kk.T}{u v:Value}(e:KC h kk x [u]) (e':KC h kk y [v]):Ya u v=gq.keq kk x y∧YM u v=gq.keq kk x y:=by
 unfold gq.mkP at hk;split at hk
 ·simp only[KC] at e e';obtain rfl:=(List.cons.inj e).1;obtain rfl:=(List.cons.inj e').1;exact⟨rfl,rfl⟩
 ·simp only[KC] at e e';obtain rfl:=(List.cons.inj e).1;obtain rfl:=(List.cons.inj e').1;simp[Ya,YM,gq.keq]
 ·simp only[KC] at e e';obtain rfl:=(List.cons.inj e).1;obtain rfl:=(List.cons.inj e').1;exact⟨rfl,rfl⟩
 ·cases hk
theorem B3 {h:Heap}:∀ {k:Kind}{l r:List MK}{x:k.T}{cs ds:List Value},gq.mkAt k l=some r→KC h k x cs→fits l (cs++ds)=fits r ds
 |.pair a b,l,r,x,cs,ds,hk,e=>by
  simp only[gq.mkAt] at hk;split at hk
  ·rename_i q hq;obtain⟨c1,c2,rfl,h1,h2⟩:=e;rw[List.append_assoc,B3 hq h1,B3 hk h2]
  ·cases hk
 |.i _,m::l,r,x,cs,ds,hk,e|.bo,m::l,r,x,cs,ds,hk,e|.st,m::l,r,x,cs,ds,hk,e|.list _,m::l,r,x,cs,ds,hk,e=>by
  simp only[gq.mkAt] at hk;cases hp:gq.mkP m _ with
  |false=>rw[hp] at hk;cases hk
  |true =>rw[hp] at hk;obtain rfl:=osj hk;obtain⟨v,rfl,_,h2⟩:=Pn hp e;simp[fits,h2]
 |.i _,[],r,x,cs,ds,hk,e|.bo,[],r,x,cs,ds,hk,e|.st,[],r,x,cs,ds,hk,e|.list _,[],r,x,cs,ds,hk,e=>by cases hk
theorem SF {h:Heap}:∀ {k:Kind}{l r:List MK}{x y:k.T}{cs ds cs' ds':List Value},gq.mkAt k l=some r→KC h k x cs→KC h k y ds→Qk (cs++cs') (ds++ds')=(gq.keq k x y&&Qk cs' ds')
 |.pair a b,l,r,x,y,cs,ds,cs',ds',hk,e,e'=>by
  simp only[gq.mkAt] at hk;split at hk
  ·rename_i q hq;obtain⟨c1,c2,rfl,h1,h2⟩:=e;obtain⟨d1,d2,rfl,g1,g2⟩:=e';rw[List.append_assoc,List.append_assoc,SF hq h1 g1,SF hk h2 g2];simp only[gq.keq,Bool.and_assoc]
  ·cases hk
 |.i _,m::l,r,x,y,cs,ds,cs',ds',hk,e,e'|.bo,m::l,r,x,y,cs,ds,cs',ds',hk,e,e'|.st,m::l,r,x,y,cs,ds,cs',ds',hk,e,e'|.list _,m::l,r,x,y,cs,ds,cs',ds',hk,e,e'=>by
  simp only[gq.mkAt] at hk;cases hp:gq.mkP m _ with
  |false=>rw[hp] at hk;cases hk
  |true =>obtain⟨v,rfl,_,_⟩:=Pn hp e;obtain⟨w,rfl,_,_⟩:=Pn hp e';simp only[List.cons_append,List.nil_append,Qk,(Q0f hp e e').2]
 |.i _,[],r,x,y,cs,ds,cs',ds',hk,e,e'|.bo,[],r,x,y,cs,ds,cs',ds',hk,e,e'|.st,[],r,x,y,cs,ds,cs',ds',hk,e,e'|.list _,[],r,x,y,cs,ds,cs',ds',hk,e,e'=>by cases hk
theorem Tf {h:Heap}{mk:MK}{kk:Kind}(hk:gq.mkOk mk kk=true) {x:kk.T}{v:Value}(e:KV h kk x v):Zm mk v=true:=by
 unfold gq.mkOk at hk;rcases e with⟨ho,e⟩|⟨ho,cs,rfl,e⟩
 ·rw[ho] at hk;obtain⟨w,h1,h2,_⟩:=Pn hk e;obtain rfl:=(List.cons.inj h1).1;exact h2
 ·rw[ho] at hk;simp only[_root_.cond_false] at hk;split at hk
  ·rename_i l;split at hk
   ·rename_i hr;have:=B3 (ds:=[]) hr e;rw[List.append_nil] at this;simp only[Zm];rw[this];rfl
   ·cases hk
  ·cases hk
theorem RB {h:Heap}{mk:MK}{kk:Kind}(hk:gq.mkOk mk kk=true) {x y:kk.T}{u v:Value}(e:KV h kk x u) (e':KV h kk y v):Ya u v=gq.keq kk x y:=by
 unfold gq.mkOk at hk;rcases e with⟨ho,e⟩|⟨ho,cs,rfl,e⟩
 ·rcases e' with⟨_,e'⟩|⟨dT,_⟩
  ·rw[ho] at hk;exact(Q0f hk e e').1
  ·rw[ho] at dT;cases dT
 ·rcases e' with⟨dT,_⟩|⟨_,ds,rfl,e'⟩
  ·rw[ho] at dT;cases dT
  ·rw[ho] at hk;simp only[_root_.cond_false] at hk;split at hk
   ·split at hk
    ·rename_i hr;have:=SF (cs':=[]) (ds':=[]) hr e e';rw[List.append_nil,List.append_nil] at this;simp only[Ya];rw[this];simp[Qk]
    ·cases hk
   ·cases hk
theorem Bl {B:Heap}{k:Kind}{v:SV}{u:Value}{x:k.T}(h:dkV k v=some x) (hs:SR P B pl tb v u) (hd:∀ {k:Kind}{l:List SV}{x:k.T}{c:List Value},BX k l=some x→SRs P B pl tb l c→KC B k x c):KV B k x u:=by
 unfold dkV at h;cases bU:k.one with
 |true =>rw[bU] at h;exact .inl ⟨bU,hd h (by simp only[SRs];exact⟨u,[],rfl,hs,rfl⟩)⟩
 |false =>
  rw[bU] at h;simp only[_root_.cond_false] at h;split at h
  ·simp only[SR] at hs;obtain⟨cs,rfl,hs⟩:=hs;exact .inr ⟨bU,cs,rfl,hd h hs⟩
  ·cases h
theorem Rk {B:Heap}{k:Kind}{z:Value}(h:Kc k (Eo k z)=true):KV B k k.dflt z:=by
 have e:=Wc (h:=B) h;unfold Eo at e;cases bU:k.one with
 |true=>rw[bU] at e;exact .inl ⟨bU,e⟩
 |false =>
  rw[bU] at e;simp only[_root_.cond_false] at e;split at e
  ·exact .inr ⟨bU,_,by simp,e⟩
  ·have:=KC.length e;have:=k.size_pos;simp at *
   omega
theorem KV.kc {B:Heap}{k:Kind}{x:k.T}{v:Value}(h:KV B k x v) (ho:k.one=true):KC B k x [v]:=by
 rcases h with⟨_,h⟩|⟨h1,_⟩
 ·exact h
 ·rw[ho] at h1;cases h1
theorem MR.keys {mk:MK}{kk vk:Kind}(hk:gq.mkOk mk kk=true):∀ {m:List (kk.T×vk.T)}{es:List Jk},MR B kk vk m es→es.all (fun e=>Zm mk e.1)=true
 |[],es,h=>by simp only[MR] at h;subst h;rfl
 |m::ms,es,h=>by obtain⟨e,bX,rfl,h2,h3,h4⟩:=h;simp only[List.all_cons,Bool.and_eq_true];exact⟨Tf hk h2,MR.keys hk h4⟩
theorem MR.length {kk vk:Kind}:∀ {m:List (kk.T×vk.T)}{es:List Jk},MR B kk vk m es→es.length=m.length
 |[],es,h=>by simp only[MR] at h;subst h;rfl
 |m::ms,es,h=>by obtain⟨e,bX,rfl,h2,h3,h4⟩:=h;simp[MR.length h4]
theorem MR.find {mk:MK}{kk vk:Kind}(hk:gq.mkOk mk kk=true) {key:kk.T}{kv:Value}(cL:KV B kk key kv) {d:vk.T}{z:Value}(hz:KV B vk d z):∀ {m:List (kk.T×vk.T)}{es:List Jk},MR B kk vk m es →
  (∃ e,Qw kv es=some e∧gq.ahas kk m key=true∧KV B vk (gq.aget kk m key d) e.2.1)∨(Qw kv es=none∧gq.ahas kk m key=false∧gq.aget kk m key d=d)
 |[],es,h=>by simp only[MR] at h;subst h;exact .inr ⟨rfl,rfl,rfl⟩
 |m::ms,es,h=>by
  obtain⟨e,bX,rfl,h2,h3,h4⟩:=h;have hq:=RB hk cL h2;cases hc:gq.keq kk key m.1 with
  |true =>refine .inl ⟨e,by simp[Qw,hq,hc],by simp[gq.ahas,hc],by simpa [gq.aget,hc] using h3⟩
  |false =>
   rcases MR.find hk cL hz h4 with⟨e',k1,k2,k3⟩|⟨k1,k2,k3⟩
   ·exact .inl ⟨e',by simp[Qw,hq,hc,k1],by simp[gq.ahas,hc,k2],by simpa [gq.aget,hc] using k3⟩
   ·exact .inr ⟨by simp[Qw,hq,hc,k1],by simp[gq.ahas,hc,k2],by simpa [gq.aget,hc] using k3⟩
theorem SRs.one {v:SV}{c:List Value}(h:SRs P B pl tb [v] c):∃ u,c=[u]∧SR P B pl tb v u:=by simp only[SRs] at h;obtain⟨u,us,rfl,h1,rfl⟩:=h;exact⟨u,rfl,h1⟩
theorem QC:∀ {k:Kind}{l:List SV}{x:k.T}{c:List Value},BX k l=some x→SRs P B pl tb l c→KC B k x c
 |.i ik,[],x,c,h,hs|.bo,[],x,c,h,hs|.st,[],x,c,h,hs|.list _,[],x,c,h,hs=>by cases h
 |.i ik,_::_::_,x,c,h,hs|.bo,_::_::_,x,c,h,hs|.st,_::_::_,x,c,h,hs|.list _,_::_::_,x,c,h,hs=>by cases h
 |.i ik,[v],x,c,h,hs=>by
  obtain⟨u,rfl,h1⟩:=hs.one;simp only[BX] at h;split at h
  ·rename_i rQ y;split at h
   ·rename_i e;obtain rfl:=osj h;subst e;simp only[SR] at h1;exact h1
   ·cases h
  ·cases h
 |.bo,[v],x,c,h,hs=>by obtain⟨u,rfl,h1⟩:=hs.one;rw[JK h h1];rfl
 |.st,[v],x,c,h,hs=>by obtain⟨u,rfl,h1⟩:=hs.one;rw[Kx h h1];rfl
 |.list k,[v],x,c,h,hs=>by
  obtain⟨u,rfl,h1⟩:=hs.one;simp only[BX] at h;split at h
  ·obtain rfl:=osj h;simp only[SR] at h1;subst h1;exact⟨_,rfl,.inl ⟨rfl,rfl⟩⟩
  ·rename_i k' l';obtain rfl:=JW h;obtain rfl:=JQ h;simp only[SR] at h1;exact h1
  ·cases h
 |.pair a b,l,x,c,h,hs=>by
  simp only[BX] at h;split at h
  ·rename_i y z h1 h2;obtain rfl:=osj h;exact⟨c.take a.size,c.drop a.size,(List.take_append_drop _ _).symm,QC h1 (hs.take _),QC h2 (hs.drop _)⟩
  ·cases h
end
end Go.V
namespace Go.V
open Go
theorem InK.wrap {k:IntKind}{x:Int}(h:InK k x):k.wrap x=x:=by obtain⟨h1,h2⟩:=h;cases k<;>simp[IntKind.wrap,IntKind.bits,IntKind.signed,IntKind.min,IntKind.max] at h1 h2 ⊢<;>(try split)<;>omega
section
variable {P:Program}{B:Heap}{pl:Nat→Value}{tb:Nat→Option Bool}{own:Own}{σ:Heap}
def QOk (P:Program) (B:Heap) (pl:Nat→Value) (tb:Nat→Option Bool) (σ:Heap) (o:VOp) (evV:Operand→Value) (v:SV):Prop:=∃ u,Q8 o evV σ=some (u,σ)∧SR P B pl tb v u
theorem JX (k:IntKind) (x:Int):SR P B pl tb (.val (.i k) x) (.int k x):=by simp[SR,KC]
theorem Zi (x:Bool):SR P B pl tb (.val .bo x) (.bool x):=by simp[SR,KC]
theorem DI (x:List UInt8):SR P B pl tb (.val .st x) (.string ⟨x.toArray⟩):=by simp[SR,KC]
theorem QE {α β:Type _}{a c:α}{b d:β}(h:some (a,b)=some (c,d)):a=c∧b=d:=by cases h;exact⟨rfl,rfl⟩
section
variable {kt:List (Nat×Kind)}{raw:Bool}{ev:Operand→SV}{evV:Operand→Value}{cs:List Prop}{v:SV}
theorem Mh (al:∀ x,SR P B pl tb (ev x) (evV x)) {x y:Operand}{k k':IntKind}{a b:Int}(h1:asI (ev x)=some (k,a)) (h2:asI (ev y)=some (k',b)):evV x=.int k a∧evV y=.int k' b:=⟨Zj h1 (al x),Zj h2 (al y)⟩
theorem Q1i (al:∀ x,SR P B pl tb (ev x) (evV x)) {op:BinOp}{x y:Operand}(h:gq kt raw (.arith op x y) ev own=some (cs,v)) (hc:∀ c∈cs,c):QOk P B pl tb σ (.arith op x y) evV v:=by
 simp only[gq] at h;split at h
 ·rename_i k a k' b h1 h2;obtain⟨e1,e2⟩:=Mh al h1 h2;split at h
  ·rename_i hk;subst hk;cases raw with
   |true =>
    obtain⟨rfl,rfl⟩:=QE h;refine⟨_,by simp only[Q8,e1,e2,if_true]<;>rfl,?_⟩;have:HT op k a b=k.wrap (DM op a b):=by cases op<;>rfl
    rw[this];exact JX _ _
   |false =>
    obtain⟨rfl,rfl⟩:=QE h;refine⟨_,by simp only[Q8,e1,e2,if_true]<;>rfl,?_⟩;have:HT op k a b=DM op a b:=by
     have hw:InK k (DM op a b):=hc _ (by simp);have e:HT op k a b=k.wrap (DM op a b):=by cases op<;>rfl
     rw[e,hw.wrap]
    rw[this];exact JX _ _
  ·cases h
 ·cases h
theorem Q7g (al:∀ x,SR P B pl tb (ev x) (evV x)) {op:BinOp}{x y:Operand}(h:gq kt raw (.div op x y) ev own=some (cs,v)) (hc:∀ c∈cs,c):QOk P B pl tb σ (.div op x y) evV v:=by
 simp only[gq] at h;split at h
 ·rename_i k a k' b h1 h2;obtain⟨e1,e2⟩:=Mh al h1 h2;split at h
  ·rename_i hk;subst hk;split at h
   ·obtain⟨rfl,rfl⟩:=QE h;have hb:b≠0:=hc _ (by simp);have hw:InK k (a.tdiv b):=hc _ (by simp);refine⟨_,by simp only[Q8,e1,e2,hb,ne_eq,not_false_iff,and_self,if_true]<;>rfl,?_⟩;simp only[Q3m,hw.wrap];exact JX _ _
   ·obtain⟨rfl,rfl⟩:=QE h;have hb:b≠0:=hc _ (by simp);refine⟨_,by simp only[Q8,e1,e2,hb,ne_eq,not_false_iff,and_self,if_true]<;>rfl,?_⟩;rename_i bK;have:Q3m op k a b=a.tmod b:=by unfold Q3m;split<;>simp_all
    rw[this];exact JX _ _
  ·cases h
 ·cases h
theorem Q4r (al:∀ x,SR P B pl tb (ev x) (evV x)) {op:BinOp}{x y:Operand}(h:gq kt raw (.bits op x y) ev own=some (cs,v)):QOk P B pl tb σ (.bits op x y) evV v:=by
 simp only[gq] at h;split at h
 ·rename_i k a k' b h1 h2;obtain⟨e1,e2⟩:=Mh al h1 h2;split at h
  ·rename_i hk;subst hk;obtain⟨rfl,rfl⟩:=QE h;exact⟨_,by simp only[Q8,e1,e2,if_true]<;>rfl,JX _ _⟩
  ·cases h
 ·cases h
theorem Q3f (al:∀ x,SR P B pl tb (ev x) (evV x)) {op:BinOp}{x y:Operand}(h:gq kt raw (.shift op x y) ev own=some (cs,v)) (hc:∀ c∈cs,c):QOk P B pl tb σ (.shift op x y) evV v:=by
 simp only[gq] at h;split at h
 ·rename_i k a k' b h1 h2;obtain⟨e1,e2⟩:=Mh al h1 h2;split at h
  ·cases raw with
   |true =>obtain⟨rfl,rfl⟩:=QE h;have hb:0≤b:=hc _ (by simp);exact⟨_,by simp only[Q8,e1,e2,hb,if_true]<;>rfl,JX _ _⟩
   |false =>obtain⟨rfl,rfl⟩:=QE h;have hb:0≤b:=hc _ (by simp);have hw:InK k (Vf k a b):=hc _ (by simp);refine⟨_,by simp only[Q8,e1,e2,hb,if_true]<;>rfl,?_⟩;have:Hu .shl k a b=k.wrap (Vf k a b):=rfl;rw[this,hw.wrap];exact JX _ _
  ·obtain⟨rfl,rfl⟩:=QE h;have hb:0≤b:=hc _ (by simp);refine⟨_,by simp only[Q8,e1,e2,hb,if_true]<;>rfl,?_⟩;have:Hu op k a b=RU k a b:=by unfold Hu;split<;>simp_all [RU]
   rw[this];exact JX _ _
 ·cases h
theorem Q79 (al:∀ x,SR P B pl tb (ev x) (evV x)) {op:BinOp}{x y:Operand}(h:gq kt raw (.cmp op x y) ev own=some (cs,v)):QOk P B pl tb σ (.cmp op x y) evV v:=by
 simp only[gq] at h;split at h
 ·rename_i k a k' b h1 h2;obtain⟨e1,e2⟩:=Mh al h1 h2;split at h
  ·rename_i hk;subst hk;obtain⟨rfl,rfl⟩:=QE h;exact⟨_,by simp only[Q8,e1,e2,if_true]<;>rfl,Zi _⟩
  ·cases h
 ·cases h
theorem Q8e (al:∀ x,SR P B pl tb (ev x) (evV x)) {op:BinOp}{x y:Operand}(h:gq kt raw (.str op x y) ev own=some (cs,v)) (hc:∀ c∈cs,c):QOk P B pl tb σ (.str op x y) evV v:=by
 simp only[gq] at h;split at h
 ·rename_i a b h1 h2;have e1:=Kx h1 (al x);have e2:=Kx h2 (al y);split at h
  ·obtain⟨rfl,rfl⟩:=QE h;have hw:a.length+b.length≤4611686018427387904:=hc _ (by simp);refine⟨.string (⟨a.toArray⟩++⟨b.toArray⟩),by simp only[Q8,e1,e2];rw[if_pos (by simpa [ByteArray.size] using hw)],?_⟩;have:(⟨a.toArray⟩:ByteArray)++⟨b.toArray⟩=⟨(a++b).toArray⟩:=by
    apply ByteArray.ext;simp
   rw[this];exact DI _
  ·obtain⟨rfl,rfl⟩:=QE h;exact⟨_,by simp only[Q8,e1,e2]<;>rfl,Zi _⟩
  ·obtain⟨rfl,rfl⟩:=QE h;exact⟨_,by simp only[Q8,e1,e2]<;>rfl,Zi _⟩
  ·obtain⟨rfl,rfl⟩:=QE h;exact⟨_,by simp only[Q8,e1,e2]<;>rfl,Zi _⟩
  ·cases h
 ·cases h
theorem Q7n (al:∀ x,SR P B pl tb (ev x) (evV x)) {neg:Bool}{x y:Operand}(h:gq kt raw (.eqB neg x y) ev own=some (cs,v)):QOk P B pl tb σ (.eqB neg x y) evV v:=by
 simp only[gq] at h;split at h
 ·rename_i a b h1 h2;have e1:=JK h1 (al x);have e2:=JK h2 (al y);obtain⟨rfl,rfl⟩:=QE h;exact⟨_,by simp only[Q8,e1,e2]<;>rfl,Zi _⟩
 ·cases h
theorem Dg {k:MK}{a b:SV}{r:Bool}{u w:Value}(h:CU k a b=some r) (ha:SR P B pl tb a u) (hb:SR P B pl tb b w):Ie k u=true∧Ie k w=true∧YM u w=r:=by
 cases k with
 |agg s=>cases h
 |int q =>
  simp only[CU] at h;split at h
  ·rename_i q1 x q2 y h1 h2;split at h
   ·rename_i hq;obtain⟨rfl,rfl⟩:=hq;obtain rfl:=osj h;rw[Zj h1 ha,Zj h2 hb];exact⟨by simp[Ie],by simp[Ie],rfl⟩
   ·cases h
  ·cases h
 |bool =>
  simp only[CU] at h;split at h
  ·rename_i x y h1 h2;obtain rfl:=osj h;rw[JK h1 ha,JK h2 hb];exact⟨rfl,rfl,rfl⟩
  ·cases h
 |string =>
  simp only[CU] at h;split at h
  ·rename_i x y h1 h2;obtain rfl:=osj h;rw[Kx h1 ha,Kx h2 hb];exact⟨rfl,rfl,rfl⟩
  ·cases h
theorem Gk:∀ {s:List MK}{l m:List SV}{r:Bool}{us ws:List Value},Du s l m=some r→SRs P B pl tb l us→SRs P B pl tb m ws→fits s us=true∧fits s ws=true∧Qk us ws=r
 |[],_,_,_,_,_,h,_,_=>by cases h
 |k::ks,[],_,_,_,_,h,_,_=>by simp[Du] at h
 |k::ks,_::_,[],_,_,_,h,_,_=>by simp[Du] at h
 |[k],a::l,b::m,r,us,ws,h,ha,hb=>by
  simp only[Du] at h;split at h
  ·simp only[SRs] at ha hb;obtain⟨u,lB,rfl,h1,rfl⟩:=ha;obtain⟨w,ug,rfl,h2,rfl⟩:=hb;obtain⟨f1,f2,f3⟩:=Dg h h1 h2;simp[fits,Qk,f1,f2,f3]
  ·cases h
 |k::k'::ks,a::l,b::m,r,us,ws,h,ha,hb=>by
  simp only[Du] at h;split at h
  ·rename_i x y hx hy;obtain rfl:=osj h;simp only[SRs] at ha hb;obtain⟨u,lB,rfl,h1,gV⟩:=ha;obtain⟨w,ug,rfl,h2,gW⟩:=hb;obtain⟨f1,f2,f3⟩:=Dg hx h1 h2;obtain⟨g1,g2,g3⟩:=Gk (s:=k'::ks) hy gV gW;rw[fits,fits,f1,f2,g1,g2,Qk,f3,g3];exact⟨rfl,rfl,rfl⟩
  ·cases h
theorem Q2c (al:∀ x,SR P B pl tb (ev x) (evV x)) {neg:Bool}{s:List MK}{x y:Operand}(h:gq kt raw (.ext (.eqAgg neg s x y)) ev own=some (cs,v)):QOk P B pl tb σ (.ext (.eqAgg neg s x y)) evV v:=by
 simp only[gq] at h;split at h
 ·rename_i l m h1 h2;obtain⟨b,hb,he⟩:=Option.map_eq_some_iff.1 h;obtain⟨rfl,rfl⟩:=(by cases he;exact⟨rfl,rfl⟩:[]=cs∧SV.val .bo (bif neg then !b else b)=v);have e1:=al x;have e2:=al y;rw[h1] at e1;rw[h2] at e2;simp only[SR] at e1 e2;obtain⟨us,e1,k1⟩:=e1;obtain⟨ws,e2,k2⟩:=e2;obtain⟨f1,f2,f3⟩:=Gk hb k1 k2;refine⟨.bool (if neg then !b else b),?_,by cases neg<;>exact Zi _⟩;simp only[Q8,Z0,e1,e2];rw[if_pos ⟨by simpa using f1,by simpa using f2⟩];simp only[f3]
 ·cases h
theorem Q9x (al:∀ x,SR P B pl tb (ev x) (evV x)) {op:UnOp}{x:Operand}(h:gq kt raw (.un op x) ev own=some (cs,v)) (hc:∀ c∈cs,c):QOk P B pl tb σ (.un op x) evV v:=by
 simp only[gq] at h;split at h
 ·split at h
  ·rename_i b h1;obtain⟨rfl,rfl⟩:=QE h;exact⟨_,by simp only[Q8,JK h1 (al x)]<;>rfl,Zi _⟩
  ·cases h
 ·split at h
  ·rename_i k n h1;obtain⟨rfl,rfl⟩:=QE h;have hw:InK k (0-n):=hc _ (by simp);refine⟨_,by simp only[Q8,Zj h1 (al x)]<;>rfl,?_⟩;rw[hw.wrap];exact JX _ _
  ·cases h
 ·split at h
  ·rename_i k n h1;obtain⟨rfl,rfl⟩:=QE h;exact⟨_,by simp only[Q8,Zj h1 (al x)]<;>rfl,JX _ _⟩
  ·cases h
 ·cases h
theorem Q29 (al:∀ x,SR P B pl tb (ev x) (evV x)) {k:IntKind}{x:Operand}(h:gq kt raw (.convI k x) ev own=some (cs,v)) (hc:∀ c∈cs,c):QOk P B pl tb σ (.convI k x) evV v:=by
 simp only[gq] at h;split at h
 ·rename_i k' n h1;cases raw with
  |true =>obtain⟨rfl,rfl⟩:=QE h;exact⟨_,by simp only[Q8,Zj h1 (al x)]<;>rfl,JX _ _⟩
  |false =>obtain⟨rfl,rfl⟩:=QE h;have hw:InK k n:=hc _ (by simp);refine⟨_,by simp only[Q8,Zj h1 (al x)]<;>rfl,?_⟩;rw[hw.wrap];exact JX _ _
 ·cases h
theorem Q3d (al:∀ x,SR P B pl tb (ev x) (evV x)) {x:Operand}(h:gq kt raw (.convS x) ev own=some (cs,v)):QOk P B pl tb σ (.convS x) evV v:=by
 simp only[gq] at h;split at h
 ·rename_i s h1;obtain⟨rfl,rfl⟩:=QE h;exact⟨_,by simp only[Q8,Kx h1 (al x)]<;>rfl,DI _⟩
 ·cases h
theorem Q1u (al:∀ x,SR P B pl tb (ev x) (evV x)) {z:List Value}{ps:List (Nat×Nat×Operand)}(h:gq kt raw (.build z ps) ev own=some (cs,v)):QOk P B pl tb σ (.build z ps) evV v:=by
 simp only[gq] at h;split at h
 ·rename_i l h1;obtain⟨rfl,rfl⟩:=QE h;have hz:SRs P B pl tb (z.map cvp) (z.map id):=SRs.map fun x _=>Mm x;rw[List.map_id] at hz;obtain⟨lV,h2,h3⟩:=BH al hz h1;refine⟨.agg lV.toArray,by simp only[Q8,h2],?_⟩;simp only[SR];exact⟨lV,rfl,h3⟩
 ·cases h
theorem Q4u (al:∀ x,SR P B pl tb (ev x) (evV x)) (hle:B.Le σ) (aA:∀ d,OR P B pl tb σ (pl d) (Qe own d)) {agg:Bool}{size:Nat}{a:Operand}(h:gq kt raw (.load agg size a) ev own=some (cs,v)):QOk P B pl tb σ (.load agg size a) evV v:=by
 simp only[gq] at h;cases hb:Nat.blt 0 size with
 |false=>rw[hb] at h;cases h
 |true =>
  rw[hb] at h;simp only[_root_.cond_true,Option.map_eq_some_iff] at h;obtain⟨v',h1,h2⟩:=h;obtain⟨rfl,rfl⟩:=(by simpa only [Prod.mk.injEq] using h2:_=cs∧_=v);have hs:0<size:=by simpa [Nat.blt_eq] using hb
  obtain⟨i,o,c,e,wr,t,u,h3,h4,h5,h6⟩:=DB hle aA hs h1 (al a);exact⟨u,by simp only[Q8,h3,h4,h5],h6⟩
theorem Sm (al:∀ x,SR P B pl tb (ev x) (evV x)) {off:Nat}{a:Operand}(h:gq kt raw (.fieldAddr off a) ev own=some (cs,v)):QOk P B pl tb σ (.fieldAddr off a) evV v:=by
 have ha:=al a;simp only[gq] at h;split at h
 ·rename_i o f heq;obtain⟨rfl,rfl⟩:=QE h;rw[heq] at ha;simp only[SR] at ha;obtain⟨b,h1,h2⟩:=ha;refine⟨_,by simp only[Q8,h2]<;>rfl,?_⟩;simp only[SR];exact⟨b,h1,rfl⟩
 ·rename_i l f heq;obtain⟨rfl,rfl⟩:=QE h;rw[heq] at ha;simp only[SR] at ha;obtain⟨b,c,e,wr,t,h1,h2,h3⟩:=ha;refine⟨_,by simp only[Q8,h2]<;>rfl,?_⟩;simp only[SR];exact⟨b,c,e,wr,t,h1,rfl,h3⟩
 ·rename_i o i f sz heq;obtain⟨rfl,rfl⟩:=QE h;rw[heq] at ha;simp only[SR] at ha;obtain⟨b,len,cap,h1,h2,h3,h4⟩:=ha;refine⟨_,by simp only[Q8,h4]<;>rfl,?_⟩;simp only[SR];exact⟨b,len,cap,h1,h2,h3,by rw[Nat.add_assoc]⟩
 ·rename_i o w heq;rw[heq] at ha;simp only[SR] at ha;split at h
  ·obtain⟨rfl,rfl⟩:=QE h;obtain⟨b,len,cap,h1,h2,h3,h4⟩:=ha;refine⟨_,by simp only[Q8,h4]<;>rfl,?_⟩;simp only[SR,DR];exact⟨b,len,cap,h1,h2,h3,by rw[Nat.add_assoc]⟩
  ·obtain⟨rfl,rfl⟩:=QE h;obtain⟨b,len,cap,c,e,t,r,rl,rc,bM,re,rt,h1,h2,h3,h4,h5,h6,h7,h8,h9,cq,iL,qi⟩:=ha;refine⟨_,by simp only[Q8,qi]<;>rfl,?_⟩;simp only[SR,DR];exact⟨b,len,cap,c,e,t,r,rl,rc,bM,re,rt,h1,h2,h3,h4,h5,h6,h7,h8,h9,cq,iL,by rw[Nat.add_assoc]⟩
  ·obtain⟨rfl,rfl⟩:=QE h;obtain⟨b,o',c,e,wr,t,h1,h2,h3,h4,h5,h6⟩:=ha;refine⟨_,by simp only[Q8,h4]<;>rfl,?_⟩;simp only[SR,DR];exact⟨b,o',c,e,wr,t,h1,h2,h3,by rw[Nat.add_assoc],h5,h6⟩
  ·cases h
 ·rename_i k l i f heq;obtain⟨rfl,rfl⟩:=QE h;rw[heq] at ha;simp only[SR] at ha;obtain⟨b,o,c,e,wr,t,h1,h2,h3,h4,h5,h6⟩:=ha;refine⟨_,by simp only[Q8,h4]<;>rfl,?_⟩;simp only[SR];exact⟨b,o,c,e,wr,t,h1,h2,h3,by rw[Nat.add_assoc],h5,h6⟩
 ·cases h
theorem Q33 (al:∀ x,SR P B pl tb (ev x) (evV x)) {agg:Bool}{off size:Nat}{x:Operand}(h:gq kt raw (.field agg off size x) ev own=some (cs,v)):QOk P B pl tb σ (.field agg off size x) evV v:=by
 have ha:=al x;simp only[gq] at h;split at h
 ·rename_i l heq;rw[heq] at ha;simp only[SR] at ha;obtain⟨c,h1,h2⟩:=ha;simp only[Option.map_eq_some_iff] at h;obtain⟨v',h3,h4⟩:=h;obtain⟨rfl,rfl⟩:=(by simpa only [Prod.mk.injEq] using h4:_=cs∧_=v);obtain⟨u,h5,h6⟩:=ZJ h2 h3;exact⟨u,by simp only[Q8,h1,h5],h6⟩
 ·cases h
theorem Fm (al:∀ x,SR P B pl tb (ev x) (evV x)) {x:Operand}{i:Nat}(h:gq kt raw (.extract x i) ev own=some (cs,v)):QOk P B pl tb σ (.extract x i) evV v:=by
 have ha:=al x;simp only[gq] at h;split at h
 ·rename_i l heq;rw[heq] at ha;simp only[SR] at ha;obtain⟨c,h1,h2⟩:=ha;simp only[Option.map_eq_some_iff] at h;obtain⟨v',h3,h4⟩:=h;obtain⟨rfl,rfl⟩:=(by simpa only [Prod.mk.injEq] using h4:_=cs∧_=v);obtain⟨u,h5,h6⟩:=h2.get h3;exact⟨u,by simp only[Q8,h1,h5],h6⟩
 ·cases h
theorem Aj (al:∀ x,SR P B pl tb (ev x) (evV x)) {x:Operand}(h:gq kt raw (.nilCheck x) ev own=some (cs,v)):QOk P B pl tb σ (.nilCheck x) evV v:=by
 have ha:=al x;simp only[gq] at h;split at h
 ·rename_i o f heq;obtain⟨rfl,rfl⟩:=QE h;rw[heq] at ha;have hb:=ha;simp only[SR] at ha;obtain⟨b,h1,h2⟩:=ha;exact⟨_,by simp only[Q8,h2]<;>rfl,by rw[←h2];exact hb⟩
 ·rename_i l f heq;obtain⟨rfl,rfl⟩:=QE h;rw[heq] at ha;have hb:=ha;simp only[SR] at ha;obtain⟨b,c,e,wr,t,h1,h2,h3⟩:=ha;exact⟨_,by simp only[Q8,h2]<;>rfl,by rw[←h2];exact hb⟩
 ·rename_i f a b heq;obtain⟨rfl,rfl⟩:=QE h;rw[heq] at ha;have hb:=ha;simp only[SR] at ha;obtain⟨x1,y1,h1,h2,h3⟩:=ha;exact⟨_,by simp only[Q8,h1]<;>rfl,by rw[←h1];exact hb⟩
 ·cases h
theorem CM (al:∀ x,SR P B pl tb (ev x) (evV x)) {x i:Operand}(h:gq kt raw (.indexStr x i) ev own=some (cs,v)) (hc:∀ c∈cs,c):QOk P B pl tb σ (.indexStr x i) evV v:=by
 simp only[gq] at h;split at h
 ·rename_i s k j h1 h2;have e1:=Kx h1 (al x);have e2:=Zj h2 (al i);obtain⟨rfl,rfl⟩:=QE h;have k1:0≤j:=hc _ (by simp);have k2:j<s.length:=hc _ (by simp);have k3:j.toNat<s.length:=by omega
  refine⟨.int .u8 (s[j.toNat].toNat:Int),by simp only[Q8,e1,e2,k1,if_true];simp[k3],?_⟩;have:s.getD j.toNat 0=s[j.toNat]:=by simp[List.getD_eq_getElem?_getD,k3]
  rw[this];exact JX _ _
 ·cases h
theorem AQ (al:∀ x,SR P B pl tb (ev x) (evV x)) (gb:∀ c,evV (.const c)=c) {len size:Nat}{agg:Bool}{x i:Operand}(h:gq kt raw (.indexArr len agg size x i) ev own=some (cs,v)):QOk P B pl tb σ (.indexArr len agg size x i) evV v:=by
 have ha:=al x;simp only[gq] at h;split at h
 ·rename_i l k j heq;split at h
  ·rename_i hj;rw[heq] at ha;simp only[SR] at ha;obtain⟨c,h1,h2⟩:=ha;simp only[Option.map_eq_some_iff] at h;obtain⟨v',h3,h4⟩:=h;obtain⟨rfl,rfl⟩:=(by simpa only [Prod.mk.injEq] using h4:_=cs∧_=v);obtain⟨u,h5,h6⟩:=ZJ h2 h3;refine⟨u,?_,h6⟩;simp only[Q8,h1,gb];rw[if_pos ⟨by simp,by simpa using hj⟩];simp[h5]
  ·cases h
 ·cases h
theorem BZ (al:∀ x,SR P B pl tb (ev x) (evV x)) (gb:∀ c,evV (.const c)=c) {len size:Nat}{x i:Operand}(h:gq kt raw (.indexAddrArr len size x i) ev own=some (cs,v)):QOk P B pl tb σ (.indexAddrArr len size x i) evV v:=by
 have ha:=al x;simp only[gq] at h;split at h
 ·rename_i o f k j heq;split at h
  ·rename_i hj;obtain⟨rfl,rfl⟩:=QE h;rw[heq] at ha;simp only[SR] at ha;obtain⟨b,h1,h2⟩:=ha;refine⟨.pointer (some ⟨b,f+j*size,none⟩),?_,?_⟩
   ·simp only[Q8,h2,gb];rw[if_pos ⟨by simp,by simpa using hj⟩];simp
   ·simp only[SR];exact⟨b,h1,rfl⟩
  ·cases h
 ·rename_i l f k j heq;split at h
  ·rename_i hj;obtain⟨rfl,rfl⟩:=QE h;rw[heq] at ha;simp only[SR] at ha;obtain⟨b,c,e,wr,t,h1,h2,h3⟩:=ha;refine⟨.pointer (some ⟨b,f+j*size,none⟩),?_,?_⟩
   ·simp only[Q8,h2,gb];rw[if_pos ⟨by simp,by simpa using hj⟩];simp
   ·simp only[SR];exact⟨b,c,e,wr,t,h1,rfl,h3⟩
  ·cases h
 ·cases h
theorem RY (al:∀ x,SR P B pl tb (ev x) (evV x)) (_hle:B.Le σ) (aA:∀ d,OR P B pl tb σ (pl d) (Qe own d)) {size:Nat}{x i:Operand}(h:gq kt raw (.indexAddr size x i) ev own=some (cs,v)) (hc:∀ c∈cs,c):QOk P B pl tb σ (.indexAddr size x i) evV v:=by
 have ha:=al x;simp only[gq] at h;split at h
 ·rename_i o k' j heq hj;have ej:=Zj hj (al i);split at h
  ·rename_i ty k xs nl ho;split at h
   ·rename_i aJ;obtain⟨rfl,rfl⟩:=QE h;have h0:0≤j:=hc _ (by simp);have h1:j<xs.length:=hc _ (by simp);rw[heq] at ha;simp only[SR] at ha;have av:=aA o;rw[ho] at av;rcases av with⟨_,rfl,_⟩|⟨_,b,cap,c,t,h2,h3,h4,h5,h6⟩
    ·simp at h1;omega
    ·refine⟨.pointer (some ⟨b,0+j.toNat*size,none⟩),?_,?_⟩
     ·simp only[Q8,ha.1,h2,ej];rw[if_pos ⟨h0,h1⟩]
     ·simp only[SR];exact⟨b,_,cap,h2,h0,h1,by simp⟩
   ·cases h
  ·cases h
 ·rename_i o w k' j heq hj;have ej:=Zj hj (al i);rw[heq] at ha;simp only[SR] at ha;have av:=aA o;split at h
  ·rename_i ty q k xs nl hole ho;rw[ho] at av;split at h
   ·have key:(if k.size=size then some ([0≤j,j<xs.length],SV.dd o (.el j 0 size)) else none)=some (cs,v)→QOk P B pl tb σ (.indexAddr size x i) evV v:=by
     intro h;split at h
     ·rename_i aJ;obtain⟨rfl,rfl⟩:=QE h;have h0:0≤j:=hc _ (by simp);have h1:j<xs.length:=hc _ (by simp);obtain⟨is,_,_,h2,_⟩:=av;rcases h2 with⟨rfl,_⟩|⟨b,cap,c,t,js,h2,_⟩
      ·simp at h1;omega
      ·refine⟨.pointer (some ⟨b,0+j.toNat*size,none⟩),?_,?_⟩
       ·simp only[Q8,ha.1,h2,ej];rw[if_pos ⟨h0,h1⟩]
       ·simp only[SR,DR];exact⟨b,_,cap,h2,h0,h1,by simp⟩
     ·cases h
    split at h
    ·exact key h
    ·exact key h
   ·rename_i kr l ir;split at h
    ·rename_i aJ;obtain⟨rfl,rfl⟩:=QE h;have h0:0≤j:=hc _ (by simp);have h1:j<l.length:=hc _ (by simp);obtain⟨oX,bm,b,len,cap,c,e,t,g1,g2,g3,g4,g5⟩:=ha;obtain⟨r,o',rc,bM,re,rS,rt,k1,k2,k3,k4⟩:=Lb oX (j:=j.toNat) (by omega);obtain rfl:o'=0:=bm _ _ _ k1;obtain rfl:=IC k2;refine⟨.pointer (some ⟨r,0+j.toNat*size,none⟩),?_,?_⟩
     ·simp only[Q8,k1,ej];rw[if_pos ⟨h0,h1⟩]
     ·simp only[SR,DR];exact⟨b,len,cap,c,e,t,r,l.length,rc,bM,re,rt,g1,g2,g3,g4,by rw[g5,k1],h0,h1,rfl,k2,by omega,by rw[List.drop_zero] at k4;exact k4,by simp[aJ]⟩
    ·cases h
   ·rename_i kr l;split at h
    ·rename_i aJ;obtain⟨rfl,rfl⟩:=QE h;have h0:0≤j:=hc _ (by simp);have h1:j<l.length:=hc _ (by simp);obtain⟨r,o',rc,bM,re,rS,rt,k1,k2,k3,k4⟩:=Lb (show KC (Jw (pl o)) (.list kr) l [evV x] from ha) (j:=j.toNat) (by omega);refine⟨.pointer (some ⟨r,o'+j.toNat*size,none⟩),?_,?_⟩
     ·simp only[Q8,k1,ej];rw[if_pos ⟨h0,h1⟩]
     ·simp only[SR,DR];exact⟨r,o',bM,re,rS,rt,h0,h1,k2,by simp[aJ],k3,k4⟩
    ·cases h
   ·cases h
  ·cases h
 ·rename_i o lo n sz k' j heq hj;have ej:=Zj hj (al i);split at h
  ·rename_i ty k xs nl ho;split at h
   ·rename_i aJ;obtain⟨aJ,rfl⟩:=aJ;obtain⟨rfl,rfl⟩:=QE h;have h0:0≤j:=hc _ (by simp);have h1:j<n:=hc _ (by simp);rw[heq] at ha;simp only[SR] at ha;rcases ha with⟨rfl,rfl,_,_⟩|⟨b,len,cap,aw,h2,h3,h4,h5⟩
    ·simp at h1;omega
    ·refine⟨.pointer (some ⟨b,lo*sz+j.toNat*sz,none⟩),?_,?_⟩
     ·simp only[Q8,h5,ej];rw[if_pos ⟨h0,h1⟩]
     ·simp only[SR];refine⟨b,len,cap,h2,by omega,by omega,?_⟩;have:((lo:Int)+j).toNat=lo+j.toNat:=by omega
      rw[this,Nat.add_mul,Nat.add_zero]
   ·cases h
  ·cases h
 ·rename_i k l k' j heq hj;have ej:=Zj hj (al i);split at h
  ·rename_i aJ;obtain⟨rfl,rfl⟩:=QE h;have h0:0≤j:=hc _ (by simp);have h1:j<l.length:=hc _ (by simp);rw[heq] at ha;simp only[SR,KC] at ha;obtain⟨v',e,hs⟩:=ha;obtain e:=(List.cons.inj e).1;rcases hs with⟨rfl,_⟩|⟨b,o,cap,c,e',wr,t,h2,h3,h4,h5,h6,h7⟩
   ·simp at h1;omega
   ·refine⟨.pointer (some ⟨b,o+j.toNat*size,none⟩),?_,?_⟩
    ·simp only[Q8,e,h2,ej];rw[if_pos ⟨h0,h1⟩]
    ·simp only[SR];exact⟨b,o,c,e',wr,t,h0,h1,h4,by rw[aJ,Nat.add_zero],h6,h7⟩
  ·cases h
 ·cases h
theorem QI (al:∀ x,SR P B pl tb (ev x) (evV x)) {x:Option Operand}{d:Nat}{a:Int}(h:Xu ev x d=some a) (ha:0≤a):ZH evV x d=some a.toNat:=by
 cases x with
 |none=>obtain rfl:=osj h;simp[ZH]
 |some x =>simp only[Xu,Option.map_eq_some_iff] at h;obtain⟨⟨k,a'⟩,h1,h2⟩:=h;simp only at h2;subst h2;simp only[ZH,Zj h1 (al x),ha,if_true]
theorem Cw (al:∀ x,SR P B pl tb (ev x) (evV x)) {x:Operand}{lo hi:Option Operand}(h:gq kt raw (.sliceStr x lo hi) ev own=some (cs,v)) (hc:∀ c∈cs,c):QOk P B pl tb σ (.sliceStr x lo hi) evV v:=by
 simp only[gq] at h;split at h
 ·rename_i s hs;have es:=Kx hs (al x);split at h
  ·rename_i a b h1 h2;obtain⟨rfl,rfl⟩:=QE h;have k0:0≤a:=hc _ (by simp);have k1:a≤b:=hc _ (by simp);have k2:b≤s.length:=hc _ (by simp);have e1:=QI (evV:=evV) al h1 k0;have e2:=QI (evV:=evV) al h2 (by omega);have iM:(ByteArray.mk s.toArray).size=s.length:=by simp[ByteArray.size]
   refine⟨.string ((ByteArray.mk s.toArray).extract a.toNat b.toNat),?_,?_⟩
   ·simp only[Q8,es,iM,e1,e2];rw[if_pos (by omega)]
   ·have:(ByteArray.mk s.toArray).extract a.toNat b.toNat=⟨((s.drop a.toNat).take (b-a).toNat).toArray⟩:=by
     apply ByteArray.ext;simp[ByteArray.data_extract];rw[show (b-a).toNat=b.toNat-a.toNat by omega]
    rw[this];exact DI _
  ·cases h
 ·cases h
theorem Q7f (al:∀ x,SR P B pl tb (ev x) (evV x)) (aA:∀ d,OR P B pl tb σ (pl d) (Qe own d)) {x:Operand}(h:gq kt raw (.len x) ev own=some (cs,v)):QOk P B pl tb σ (.len x) evV v:=by
 simp only[gq] at h;split at h
 ·rename_i n h1;obtain⟨rfl,rfl⟩:=QE h;obtain⟨a,cap,e⟩:=CG aA h1 (al x);exact⟨.int .i64 n,by simp only[Q8,e],JX _ _⟩
 ·cases h
theorem Is (al:∀ x,SR P B pl tb (ev x) (evV x)) {x:Operand}(h:gq kt raw (.lenStr x) ev own=some (cs,v)):QOk P B pl tb σ (.lenStr x) evV v:=by
 simp only[gq] at h;split at h
 ·rename_i s h1;obtain⟨rfl,rfl⟩:=QE h;exact⟨.int .i64 s.length,by simp only[Q8,Kx h1 (al x)];simp[ByteArray.size],JX _ _⟩
 ·cases h
theorem Q7v (al:∀ x,SR P B pl tb (ev x) (evV x)) {x y:Operand}(h:gq kt raw (.max x y) ev own=some (cs,v)):QOk P B pl tb σ (.max x y) evV v:=by
 simp only[gq] at h;split at h
 ·rename_i k a k' b h1 h2;obtain⟨e1,e2⟩:=Mh al h1 h2;split at h
  ·rename_i hk;subst hk;obtain⟨rfl,rfl⟩:=QE h;exact⟨.int k (MZ a b),by simp only[Q8,e1,e2,if_true];rfl,JX _ _⟩
  ·cases h
 ·cases h
theorem Q5v (al:∀ x,SR P B pl tb (ev x) (evV x)) {x y z w:Operand}(h:gq kt raw (.max4 x y z w) ev own=some (cs,v)):QOk P B pl tb σ (.max4 x y z w) evV v:=by
 simp only[gq] at h;split at h
 ·rename_i k a k2 b k3 c k4 d h1 h2 h3 h4;obtain⟨e1,e2⟩:=Mh al h1 h2;obtain⟨e3,e4⟩:=Mh al h3 h4;split at h
  ·rename_i hk;obtain⟨rfl,rfl,rfl⟩:=hk;obtain⟨rfl,rfl⟩:=QE h;exact⟨.int k (MZ (MZ (MZ a b) c) d),by simp only[Q8,e1,e2,e3,e4,and_self,if_true];rfl,JX _ _⟩
  ·cases h
 ·cases h
theorem Q8k (al:∀ x,SR P B pl tb (ev x) (evV x)) {x y:Operand}(h:gq kt raw (.min x y) ev own=some (cs,v)):QOk P B pl tb σ (.min x y) evV v:=by
 simp only[gq] at h;split at h
 ·rename_i k a k' b h1 h2;obtain⟨e1,e2⟩:=Mh al h1 h2;split at h
  ·rename_i hk;subst hk;obtain⟨rfl,rfl⟩:=QE h;exact⟨.int k (Cv a b),by simp only[Q8,e1,e2,if_true];rfl,JX _ _⟩
  ·cases h
 ·cases h
theorem CB (al:∀ x,SR P B pl tb (ev x) (evV x)) {fn:Fn}{a b:List Operand}(h:gq kt raw (.makeFunc fn a b) ev own=some (cs,v)):QOk P B pl tb σ (.makeFunc fn a b) evV v:=by
 cases fn with
 |func f =>obtain⟨rfl,rfl⟩:=QE h;refine⟨.func (.func f) (a.map evV).toArray (b.map evV).toArray,by simp only[Q8],?_⟩;simp only[SR];exact⟨_,_,rfl,SRs.map fun x _=>al x,SRs.map fun x _=>al x⟩
 |_=>cases h
theorem SlRel.sl {h:Heap}{sz:Nat}{α:Type}{R:α→List Value→Prop}{l:List α}{v:Value}(hs:SlRel h sz R l v):∃ cs a cap,h.sl sz v=some cs∧Rows R l cs∧v=.slice a l.length cap:=by
 rcases hs with⟨rfl,rfl⟩|⟨i,o,cap,c,e,wr,t,rfl,h2,h3,h4,h5,h6⟩
 ·exact⟨[],_,_,rfl,.nil,rfl⟩
 ·refine⟨_,_,cap,?_,h6,rfl⟩;simp only[Heap.sl,h3];rw[if_pos ⟨h4,h5⟩]
theorem TU {h:Heap}:∀ {xs:List Int}{cs:List Value},Rows (KC h (.i .u8)) xs cs→Gm cs=some ⟨(xs.map fun x=>x.toNat.toUInt8).toArray⟩:=by
 have key:∀ {xs:List Int}{cs:List Value},Rows (KC h (.i .u8)) xs cs→cs.mapM Sc=some (xs.map fun x=>x.toNat.toUInt8):=fun {xs cs} hr=>by
  induction hr with
  |nil=>rfl
  |@cons x xs c cs hx _ ih =>simp only[KC] at hx;subst hx;simp only[List.singleton_append,List.mapM_cons,Sc,ih,List.map_cons];rfl
 intro xs cs hr;simp only[Gm,key hr,Option.map_some]
theorem A3 (al:∀ x,SR P B pl tb (ev x) (evV x)) (hle:B.Le σ) (aA:∀ d,OR P B pl tb σ (pl d) (Qe own d)) {x:Operand}(h:gq kt raw (.ext (.bytesStr x)) ev own=some (cs,v)):QOk P B pl tb σ (.ext (.bytesStr x)) evV v:=by
 simp only[gq] at h;split at h
 ·rename_i xs h1;obtain⟨rfl,rfl⟩:=QE h;obtain⟨cs,a,cap,h2,h3,h4⟩:=(Kg hle aA h1 (al x)).sl;refine⟨.string ⟨(HP xs).toArray⟩,?_,DI _⟩;have aJ:Kind.size (.i .u8)=1:=rfl;rw[h4,aJ] at h2;simp only[Q8,Z0,h4,h2,TU h3];rfl
 ·cases h
theorem O4 (al:∀ x,SR P B pl tb (ev x) (evV x)) (aA:∀ d,OR P B pl tb σ (pl d) (Qe own d)) {neg:Bool}{x y:Operand}(h:gq kt raw (.ext (.eqNil 0 neg x y)) ev own=some (cs,v)) (hc:∀ c∈cs,c):QOk P B pl tb σ (.ext (.eqNil 0 neg x y)) evV v:=by
 have hx:=al x;have hy:=al y;simp only[gq] at h;split at h
 ·rename_i h1 h2;obtain⟨rfl,rfl⟩:=QE h;rw[h1] at hx;rw[h2] at hy;simp only[SR] at hx hy;exact⟨.bool (!neg),by simp only[Q8,Z0,hx,hy,Zw];cases neg<;>rfl,Zi _⟩
 ·rename_i o f h1 h2;obtain⟨rfl,rfl⟩:=QE h;rw[h1] at hx;rw[h2] at hy;simp only[SR] at hx hy;obtain⟨b,_,hb⟩:=hx;exact⟨.bool neg,by simp only[Q8,Z0,hb,hy,Zw];cases neg<;>rfl,Zi _⟩
 ·rename_i l f h1 h2;obtain⟨rfl,rfl⟩:=QE h;rw[h1] at hx;rw[h2] at hy;simp only[SR] at hx hy;obtain⟨b,c,e,wr,t,_,hb,_⟩:=hx;exact⟨.bool neg,by simp only[Q8,Z0,hb,hy,Zw];cases neg<;>rfl,Zi _⟩
 ·rename_i o c h1 h2;obtain⟨rfl,rfl⟩:=QE h;rw[h1] at hx;rw[h2] at hy;simp only[SR,DR] at hx hy;rcases hx with⟨rfl,hb⟩|⟨rfl,b,_,hb⟩
  ·exact⟨.bool (bif neg then false else true),by simp only[Q8,Z0,hb,hy,Zw];cases neg<;>rfl,Zi _⟩
  ·exact⟨.bool (bif neg then true else false),by simp only[Q8,Z0,hb,hy,Zw];cases neg<;>rfl,Zi _⟩
 ·rename_i o c o' f h1 h2;split at h
  ·rename_i l u ho;split at h
   ·rename_i he;obtain⟨rfl,rfl⟩:=he;obtain⟨rfl,rfl⟩:=QE h;have uh:c=true:=hc _ (by simp);rw[h1] at hx;rw[h2] at hy;simp only[SR,DR] at hx hy;have av:=aA o;rw[ho] at av;obtain⟨i,cc,e,t,hp,hg,_⟩:=av;obtain⟨b',bE,hy⟩:=hy;rcases hx with⟨jX,_⟩|⟨_,b,fe,hb⟩
    ·rw[uh] at jX;cases jX
    ·rw[hp] at bE fe;simp only[phd,Value.pointer.injEq,Option.some.injEq] at bE fe;have e1:i=b':=by injection bE
     have e2:i=b:=by injection fe
     subst e1;subst e2;exact⟨.bool (!neg),by simp only[Q8,Z0,hb,hy,Zw,hg,Option.isSome_some,and_self,if_true];cases neg<;>rfl,Zi _⟩
   ·cases h
  ·cases h
 ·cases h
theorem CF (al:∀ x,SR P B pl tb (ev x) (evV x)) (aA:∀ d,OR P B pl tb σ (pl d) (Qe own d)) {x:Operand}(h:gq kt raw (.ext (.toUnsafe x)) ev own=some (cs,v)):QOk P B pl tb σ (.ext (.toUnsafe x)) evV v:=by
 have hx:=al x;simp only[gq] at h;split at h
 ·rename_i o f h1;split at h
  ·rename_i l u ho;split at h
   ·rename_i hf;obtain⟨rfl,rfl⟩:=QE h;rw[h1] at hx;have qj:=hx;simp only[SR] at hx;obtain⟨b,hp,hv⟩:=hx;have av:=aA o;rw[ho] at av;obtain⟨i,c,e,t,fe,hg,hl,_⟩:=av;rw[hp] at fe;have e1:b=i:=by simpa using fe
    subst e1;refine⟨.pointer (some ⟨b,f,none⟩),?_,by rw[←hv];exact qj⟩;simp only[Q8,Z0,hv,hg];rw[if_pos (by rw[←hl.length];exact hf)]
   ·cases h
  ·cases h
 ·cases h
theorem TX (al:∀ x,SR P B pl tb (ev x) (evV x)) (aA:∀ d,OR P B pl tb σ (pl d) (Qe own d)) {u size:Nat}{x:Operand}(h:gq kt raw (.ext (.fromUnsafe u size x)) ev own=some (cs,v)):QOk P B pl tb σ (.ext (.fromUnsafe u size x)) evV v:=by
 have hx:=al x;simp only[gq] at h;split at h
 ·rename_i o f h1;split at h
  ·rename_i l t0 ho;split at h
   ·rename_i hf;obtain⟨rfl,rfl,aJ⟩:=hf;obtain⟨rfl,rfl⟩:=QE h;rw[h1] at hx;have qj:=hx;simp only[SR] at hx;obtain⟨b,hp,hv⟩:=hx;have av:=aA o;rw[ho] at av;obtain⟨i,c,e,t,fe,hg,hl,hu⟩:=av;obtain⟨he,ht⟩:=hu _ rfl;subst ht;rw[hp] at fe;have e1:b=i:=by simpa using fe
    subst e1;refine⟨.pointer (some ⟨b,0,none⟩),?_,by rw[←hv];exact qj⟩;simp only[Q8,Z0,hv,hg];rw[if_pos ⟨trivial,he,by rw[←hl.length];exact aJ⟩]
   ·cases h
  ·cases h
 ·cases h
theorem Sf (al:∀ x,SR P B pl tb (ev x) (evV x)) (aA:∀ d,OR P B pl tb σ (pl d) (Qe own d)) {x:Operand}(h:gq kt raw (.ext (.sliceData x)) ev own=some (cs,v)) (hc:∀ c∈cs,c):QOk P B pl tb σ (.ext (.sliceData x)) evV v:=by
 have hx:=al x;simp only[gq] at h;split at h
 ·rename_i h1;obtain⟨rfl,rfl⟩:=QE h;rw[h1] at hx;simp only[SR] at hx;exact⟨.pointer none,by simp only[Q8,Z0,hx],by simp[SR]⟩
 ·rename_i o h1;split at h
  ·rename_i ty k xs nl ho;obtain⟨rfl,rfl⟩:=QE h;have dR:nl=false→xs≠[]:=hc _ (by simp);rw[h1] at hx;simp only[SR] at hx;have av:=aA o;rw[ho] at av;rcases av with⟨_,_,hp⟩|⟨lb,i,cap,c,t,hp,cX,hg,_⟩
   ·refine⟨.pointer none,by simp only[Q8,Z0,hx.1,hp],?_⟩;simp only[SR,DR];exact .inl ⟨by rw[hp];rfl,trivial⟩
   ·have aF:=List.length_pos_iff.2 (dR lb);refine⟨.pointer (some ⟨i,0,none⟩),?_,?_⟩
    ·simp only[Q8,Z0,hx.1,hp,hg,Option.isSome_some,and_true];rw[if_pos (by omega)]
    ·simp only[SR,DR];exact .inr ⟨i,xs.length,cap,by rw[hp];rfl,aF,rfl⟩
  ·cases h
 ·cases h
theorem BE {size:Nat}{i o len cap l h:Nat}{c:List Value}{e:El}{wr t:Bool}(hg:σ.get i=some (.cells c e wr t)) (he:e.sz=size) (h1:l≤h) (h2:h≤cap) :
  Wm size σ (.slice (some ⟨i,o,none⟩) len cap) l h none=some (.slice (some ⟨i,o+l*size,none⟩) (h-l) (cap-l),σ):=by
 simp only[Wm,hg];rw[if_pos ⟨he,h1,h2⟩]
theorem Q5u {H:Heap}{k:Kind}{l:List k.T}{v:Value}(h:KC H (.list k) l [v]):∃ a c,v=.slice a l.length c:=by
 obtain⟨v',e,hs⟩:=h;obtain rfl:=(List.cons.inj e).1;rcases hs with⟨rfl,rfl⟩|⟨i,o,cap,c,e',wr,t,rfl,_⟩
 ·exact⟨_,_,rfl⟩
 ·exact⟨_,_,rfl⟩
theorem L8 {H:Heap}(hle:H.Le σ) {k:Kind}{l:List k.T}{v:Value}{a b:Nat}(h:KC H (.list k) l [v]) (k1:a≤b) (k2:b≤l.length) :
  ∃ u,Wm k.size σ v a b none=some (u,σ)∧KC H (.list k) ((l.drop a).take (b-a)) [u]:=by
 obtain⟨v',e,hs⟩:=h;obtain rfl:=(List.cons.inj e).1;rcases hs with⟨rfl,rfl⟩|⟨i,o,cap,c,e',wr,t,rfl,h4,h5,h6,h7,h8⟩
 ·simp only[List.length_nil] at k2;have za:a=0:=by omega
  have zb:b=0:=by omega
  subst za;subst zb;exact⟨.slice none 0 0,by simp only[Wm];rfl,_,rfl,.inl ⟨by simp,rfl⟩⟩
 ·have hlen:((l.drop a).take (b-a)).length=b-a:=by simp;omega
  refine⟨.slice (some ⟨i,o+a*k.size,none⟩) (b-a) (cap-a),BE (hle.2 _ _ h5) h6 (by omega) (by omega),_,rfl,.inr ⟨i,o+a*k.size,cap-a,c,e',wr,t,by rw[hlen],by rw[hlen];omega,h5,h6,?_,?_⟩⟩
  ·rw[hlen];have:(a+(b-a))*k.size≤l.length*k.size:=Nat.mul_le_mul_right _ (by omega);rw[Nat.add_mul] at this;omega
  ·rw[hlen];have:=(h8.drop KC.rows_len a).take KC.rows_len (b-a);have e3:(((c.drop o).take (l.length*k.size)).drop (a*k.size)).take ((b-a)*k.size)=(c.drop (o+a*k.size)).take ((b-a)*k.size):=by
    apply List.ext_getElem?;intro j;simp only[List.getElem?_take,List.getElem?_drop];split
    ·have:(a+(b-a))*k.size≤l.length*k.size:=Nat.mul_le_mul_right _ (by omega);rw[Nat.add_mul] at this;rw[if_pos (by omega),Nat.add_assoc]
    ·rfl
   rw[e3] at this;exact this
theorem Q17 (al:∀ x,SR P B pl tb (ev x) (evV x)) (hle:B.Le σ) (aA:∀ d,OR P B pl tb σ (pl d) (Qe own d)) {size:Nat}{x:Operand}{lo hi mx:Option Operand}(h:gq kt raw (.slice size x lo hi mx) ev own=some (cs,v)) (hc:∀ c∈cs,c):QOk P B pl tb σ (.slice size x lo hi mx) evV v:=by
 have ha:=al x;cases mx with
 |some m=>cases h
 |none =>
 simp only[gq] at h;split at h
 ·rename_i o heq;rw[heq] at ha;simp only[SR] at ha;have av:=aA o;split at h
  ·rename_i ty k xs nl ho;rw[ho] at av;split at h
   ·rename_i aJ;split at h
    ·rename_i a b h1 h2;obtain⟨rfl,rfl⟩:=QE h;have k0:0≤a:=hc _ (by simp);have k1:a≤b:=hc _ (by simp);have k2:b≤xs.length:=hc _ (by simp);have e1:=QI (evV:=evV) (d:=0) al h1 k0;have e2:=QI (evV:=evV) al h2 (by omega);rcases av with⟨_,rfl,h3⟩|⟨_,i,cap,c,t,h3,h4,h5,h6,h7⟩
     ·simp only[List.length_nil] at k2 e2;have za:a.toNat=0:=by omega
      have zb:b.toNat=0:=by omega
      have zc:(b-a).toNat=0:=by omega
      refine⟨.slice none 0 0,?_,?_⟩
      ·simp only[Q8,ha.1,h3,e1,e2,za,zb,Wm];rfl
      ·rw[za,zc];simp only[SR];exact .inl ⟨trivial,trivial,trivial,h3⟩
     ·refine⟨.slice (some ⟨i,0+a.toNat*size,none⟩) (b.toNat-a.toNat) (cap-a.toNat),?_,?_⟩
      ·simp only[Q8,ha.1,h3,e1,e2];exact BE h5 aJ (by omega) (by omega)
      ·simp only[SR];refine .inr ⟨i,_,cap,cap-a.toNat,h3,by omega,by omega,?_⟩;rw[Nat.zero_add,show (b-a).toNat=b.toNat-a.toNat by omega]
    ·cases h
   ·cases h
  ·cases h
 ·rename_i o l0 n sz heq;rw[heq] at ha;simp only[SR] at ha;have av:=aA o;split at h
  ·rename_i ty k xs nl ho;rw[ho] at av;split at h
   ·rename_i aJ;obtain⟨aJ,rfl⟩:=aJ;split at h
    ·rename_i a b h1 h2;obtain⟨rfl,rfl⟩:=QE h;have k0:0≤a:=hc _ (by simp);have k1:a≤b:=hc _ (by simp);have k2:b≤n:=hc _ (by simp);have e1:=QI (evV:=evV) (d:=0) al h1 k0;have e2:=QI (evV:=evV) al h2 (by omega);rcases ha with⟨rfl,rfl,hv,hp⟩|⟨i,len,cap,aw,h3,h4,h5,hv⟩
     ·have za:a.toNat=0:=by omega
      have zb:b.toNat=0:=by omega
      have zc:(b-a).toNat=0:=by omega
      refine⟨.slice none 0 0,?_,?_⟩
      ·simp only[Q8,hv,e1,e2,za,zb,Wm];rfl
      ·rw[za,zc];simp only[SR];exact .inl ⟨trivial,trivial,trivial,hp⟩
     ·rcases av with⟨_,_,h6⟩|⟨_,i',iJ,c,t,h6,h7,h8,h9,cq⟩
      ·rw[h3] at h6;cases h6
      ·rw[h3] at h6;obtain⟨rfl,rfl,rfl⟩:=(by simpa using h6:i=i'∧len=xs.length∧cap=iJ);refine⟨.slice (some ⟨i,l0*sz+a.toNat*sz,none⟩) (b.toNat-a.toNat) (aw-a.toNat),?_,?_⟩
       ·simp only[Q8,hv,e1,e2];exact BE h8 aJ (by omega) (by omega)
       ·simp only[SR];refine .inr ⟨i,_,cap,aw-a.toNat,h3,by omega,by omega,?_⟩;rw[Nat.add_mul,show (b-a).toNat=b.toNat-a.toNat by omega]
    ·cases h
   ·cases h
  ·cases h
 ·rename_i k l heq;rw[heq] at ha;simp only[SR] at ha;split at h
  ·rename_i aJ;split at h
   ·rename_i a b h1 h2;obtain⟨rfl,rfl⟩:=QE h;have k0:0≤a:=hc _ (by simp);have k1:a≤b:=hc _ (by simp);have k2:b≤l.length:=hc _ (by simp);have e1:=QI (evV:=evV) (d:=0) al h1 k0;have e2:=QI (evV:=evV) al h2 (by omega);obtain⟨v',e⟩:=List.length_eq_one_iff.1 (KC.length ha);obtain⟨u,g1,g2⟩:=L8 hle (a:=a.toNat) (b:=b.toNat) ha (by omega) (by omega);obtain⟨n,cap,e3⟩:=Q5u ha;refine⟨u,?_,?_⟩
    ·simp only[Q8,e3,e1,e2];rw[←aJ,←e3];exact g1
    ·simp only[SR];rw[show (b-a).toNat=b.toNat-a.toNat by omega];exact g2
   ·cases h
  ·cases h
 ·rename_i o w heq;rw[heq] at ha;simp only[SR] at ha;have av:=aA o;split at h
  ·rename_i ty q k xs nl hole ho;rw[ho] at av
   have key:∀ (k:Kind) (l:List k.T),KC (Jw (pl o)) (.list k) l [evV x]→(if k.size=size then (match Xu ev lo 0,Xu ev hi l.length with
     |some a,some b=>some ([0≤a,a≤b,b≤(l.length:Int)],SV.dd o (.inn k ((l.drop a.toNat).take (b-a).toNat)))
     |_,_=>none) else none)=some (cs,v)→QOk P B pl tb σ (.slice size x lo hi none) evV v:=by
    intro k l ha h;split at h
    ·rename_i aJ;split at h
     ·rename_i a b h1 h2;obtain⟨rfl,rfl⟩:=QE h;have k0:0≤a:=hc _ (by simp);have k1:a≤b:=hc _ (by simp);have k2:b≤l.length:=hc _ (by simp);have e1:=QI (evV:=evV) (d:=0) al h1 k0;have e2:=QI (evV:=evV) al h2 (by omega);obtain⟨u,g1,g2⟩:=L8 (DP.le av) (a:=a.toNat) (b:=b.toNat) ha (by omega) (by omega);obtain⟨n,cap,e3⟩:=(BJ ha).len;refine⟨u,?_,?_⟩
      ·simp only[Q8,e3,e1,e2];rw[←aJ,←e3];exact g1
      ·simp only[SR,DR];rw[show (b-a).toNat=b.toNat-a.toNat by omega];exact g2
     ·cases h
    ·cases h
   split at h
   ·exact key _ _ ha h
   ·exact key _ _ ha.1 h
   ·cases h
  ·cases h
 ·rename_i heq;rw[heq] at ha;simp only[SR] at ha;split at h
  ·rename_i a b h1 h2;obtain⟨rfl,rfl⟩:=QE h;have k0:a=0:=hc _ (by simp);have k1:b=0:=hc _ (by simp);subst k0;subst k1;have e1:=QI (evV:=evV) (d:=0) al h1 (Int.le_refl _);have e2:=QI (evV:=evV) (d:=0) al h2 (Int.le_refl _);refine⟨.slice none 0 0,?_,?_⟩
   ·simp only[Q8,ha,e1,e2,Wm];rfl
   ·simp only[SR]
  ·cases h
 ·cases h
theorem Q2e (al:∀ x,SR P B pl tb (ev x) (evV x)) {neg:Bool}{x y:Operand}(aA:∀ d,OR P B pl tb σ (pl d) (Qe own d)) (h:gq kt raw (.ext (.eqNil 1 neg x y)) ev own=some (cs,v)) (hc:∀ c∈cs,c):QOk P B pl tb σ (.ext (.eqNil 1 neg x y)) evV v:=by
 have ha:=al x;have hb:=al y;simp only[gq] at h;split at h
 ·rename_i h1 h2;rw[h1] at ha;rw[h2] at hb;simp only[SR] at ha hb;obtain⟨rfl,rfl⟩:=QE h;refine⟨.bool (!neg),?_,Zi _⟩;simp only[Q8,Z0,ha,hb,Zw];cases neg<;>rfl
 ·rename_i o h1 h2;rw[h1] at ha;rw[h2] at hb;simp only[SR] at ha hb;have av:=aA o;split at h
  ·rename_i ty k xs nl ho;rw[ho] at av;obtain⟨rfl,rfl⟩:=QE h;refine⟨.bool (bif neg then !nl else nl),?_,Zi _⟩;rcases av with⟨rfl,_,h3⟩|⟨rfl,i,cap,c,t,h3,_⟩
   ·simp only[Q8,Z0,ha.1,h3,hb,Zw];cases neg<;>rfl
   ·simp only[Q8,Z0,ha.1,h3,hb,Zw];cases neg<;>rfl
  ·cases h
 ·rename_i o h1 h2;rw[h1] at ha;rw[h2] at hb;simp only[SR] at ha hb;have av:=aA o;split at h
  ·rename_i ty q k xs nl hole ho;rw[ho] at av;obtain⟨rfl,rfl⟩:=QE h;refine⟨.bool (bif neg then !nl else nl),?_,Zi _⟩;obtain⟨is,_,_,g2,_,_,g5⟩:=av;obtain⟨e1,_⟩:=ha;rcases g2 with⟨_,h3,_⟩|⟨i,cap,c,t,js,h3,_⟩
   ·obtain rfl:=g5.2 h3;simp only[Q8,Z0,e1,h3,hb,Zw];cases neg<;>rfl
   ·have hn:nl=false:=by
     cases nl with
     |false=>rfl
     |true=>rw[g5.1 rfl] at h3;cases h3
    subst hn;simp only[Q8,Z0,e1,h3,hb,Zw];cases neg<;>rfl
  ·cases h
 ·rename_i k l h1 h2;rw[h1] at ha;rw[h2] at hb;simp only[SR] at ha hb;obtain⟨rfl,rfl⟩:=QE h;have hl:=hc (l≠[]) (by simp);refine⟨.bool neg,?_,Zi _⟩;obtain⟨u,hu,hs⟩:=ha;obtain rfl:=(List.cons.inj hu).1;rcases hs with⟨e,_⟩|⟨i,o,cap,c,e,wr,t,h3,_⟩
  ·exact absurd e hl
  ·simp only[Q8,Z0,h3,hb,Zw];cases neg<;>rfl
 ·cases h
theorem ID (al:∀ x,SR P B pl tb (ev x) (evV x)) {mk:MK}{z:Value}{ok:Bool}{x i:Operand}(_hle:B.Le σ) (aA:∀ d,OR P B pl tb σ (pl d) (Qe own d)) (h:gq kt raw (.ext (.lookup mk z ok x i)) ev own=some (cs,v)):QOk P B pl tb σ (.ext (.lookup mk z ok x i)) evV v:=by
 have ha:=al x;simp only[gq] at h;split at h
 ·rename_i o h1;rw[h1] at ha;simp only[SR] at ha;have av:=aA o;split at h
  ·rename_i kk vk m ho;rw[ho] at av;obtain⟨id,es,clock,h2,h3,h4⟩:=av;split at h
   ·rename_i dV;obtain⟨dV,hz⟩:=dV;split at h
    ·rename_i key cL;have hk:=Bl cL (al i) QC;have bS:=Tf dV hk;have hall:=MR.keys dV h4.1;have qk:KV B vk vk.dflt z:=Rk hz;have aN:σ.mapAt id=some (es,clock,true):=by simp[Heap.mapAt,h3]
     have aK:=MR.find dV hk qk h4.1
     have base:∀ u,(match Qw (evV i) es with
      |some e=>some (if ok then Value.tuple #[e.2.1,.bool true] else e.2.1,σ)
      |none=>some (if ok then .tuple #[z,.bool false] else z,σ))=some (u,σ)→Q8 (.ext (.lookup mk z ok x i)) evV σ=some (u,σ):=fun u hu=>by
      simp only[Q8,Z0,bS,if_true,ha.1,h2,aN,hall];exact hu
     cases ok with
     |true =>
      simp only[if_true] at h;obtain⟨rfl,rfl⟩:=QE h;rcases aK with⟨e,k1,k2,k3⟩|⟨k1,k2,k3⟩
      ·refine⟨.tuple #[e.2.1,.bool true],base _ (by rw[k1];rfl),?_⟩;simp only[SR];refine⟨[e.2.1,.bool true],rfl,?_⟩;simp only[SRs,SR];exact⟨_,_,rfl,JY k3,_,_,rfl,by simp[KC,k2],rfl⟩
      ·refine⟨.tuple #[z,.bool false],base _ (by rw[k1];rfl),?_⟩;simp only[SR];refine⟨[z,.bool false],rfl,?_⟩;simp only[SRs,SR];exact⟨_,_,rfl,by rw[k3];exact JY qk,_,_,rfl,by simp[KC,k2],rfl⟩
     |false =>
      simp only[Bool.false_eq_true,if_false] at h;obtain⟨rfl,rfl⟩:=QE h;rcases aK with⟨e,k1,k2,k3⟩|⟨k1,k2,k3⟩
      ·exact⟨e.2.1,base _ (by rw[k1];rfl),JY k3⟩
      ·exact⟨z,base _ (by rw[k1];rfl),by rw[k3];exact JY qk⟩
    ·cases h
   ·cases h
  ·cases h
 ·cases h
theorem It (al:∀ x,SR P B pl tb (ev x) (evV x)) {x:Operand}(aA:∀ d,OR P B pl tb σ (pl d) (Qe own d)) (h:gq kt raw (.ext (.lenMap x)) ev own=some (cs,v)):QOk P B pl tb σ (.ext (.lenMap x)) evV v:=by
 have ha:=al x;simp only[gq] at h;split at h
 ·rename_i o h1;rw[h1] at ha;simp only[SR] at ha;have av:=aA o;split at h
  ·rename_i kk vk m ho;rw[ho] at av;obtain⟨id,es,clock,h2,h3,h4⟩:=av;obtain⟨rfl,rfl⟩:=QE h;have aN:σ.mapAt id=some (es,clock,true):=by simp[Heap.mapAt,h3]
   refine⟨.int .i64 es.length,by simp only[Q8,Z0,ha.1,h2,aN],?_⟩;rw[h4.1.length];exact JX _ _
  ·cases h
 ·cases h
theorem MR.at {kk vk:Kind}:∀ {m:List (kk.T×vk.T)}{es:List Jk}{r:Nat}{e:Jk},MR B kk vk m es→es[r]?=some e→∃ h:r<m.length,KV B kk m[r].1 e.1∧KV B vk m[r].2 e.2.1
 |[],es,r,e,h,he=>by simp only[MR] at h;subst h;simp at he
 |x::m,es,r,e,h,he=>by
  obtain⟨e',bX,rfl,h1,h2,h3⟩:=h;cases r with
  |zero=>simp only[List.getElem?_cons_zero,Option.some.injEq] at he;subst he;exact⟨by simp,h1,h2⟩
  |succ r =>obtain⟨k1,k2,k3⟩:=MR.at h3 (by simpa using he);exact⟨by simpa using k1,k2,k3⟩
theorem NL:∀ {k:Kind},k.keyk=true→∀ {x:k.T}{cs:List Value},KC B k x cs→cs.all Qv=true
 |.pair a b,hk,x,cs,h=>by simp only[Kind.keyk,Bool.and_eq_true] at hk;obtain⟨c1,c2,rfl,h1,h2⟩:=h;rw[List.all_append,NL hk.1 h1,NL hk.2 h2];rfl
 |.i _,_,x,cs,h=>by simp only[KC] at h;subst h;rfl
 |.bo,_,x,cs,h=>by simp only[KC] at h;subst h;rfl
 |.st,_,x,cs,h=>by simp only[KC] at h;subst h;rfl
 |.list _,hk,_,_,_=>by cases hk
theorem FP {k:Kind}(hk:k.keyk=true) {x:k.T}{v:Value}(h:KV B k x v):YK v=true:=by
 rcases h with⟨ho,h⟩|⟨ho,cs,rfl,h⟩
 ·have:=NL hk h;rw[List.all_cons,Bool.and_eq_true] at this;have hp:=this.1;cases v<;>first|exact hp|cases hp
 ·show cs.toArray.toList.all Qv=true;exact NL hk h
theorem FY {es:List Jk}{clock:Nat}(h:SOk es clock) {r r':Nat}{e e':Jk}(h1:es[r]?=some e) (h2:es[r']?=some e') (he:e.2.2=e'.2.2):r=r':=by
 obtain⟨k1,rfl⟩:=List.getElem?_eq_some_iff.1 h1;obtain⟨k2,rfl⟩:=List.getElem?_eq_some_iff.1 h2;have:=h.1;rw[List.nodup_iff_pairwise_ne,List.pairwise_iff_getElem] at this;rcases Nat.lt_trichotomy r r' with ai|ai|ai
 ·exact absurd (by rw[List.getElem_map,List.getElem_map];exact he) (this r r' (by simpa using k1) (by simpa using k2) ai)
 ·exact ai
 ·exact absurd (by rw[List.getElem_map,List.getElem_map];exact he.symm) (this r' r (by simpa using k2) (by simpa using k1) ai)
theorem At {es:List Jk}{clock:Nat}(h:SOk es clock) {r:Nat}{e:Jk}(h1:es[r]?=some e):es.find? (fun e'=>e'.2.2==e.2.2)=some e:=by
 obtain⟨k1,rfl⟩:=List.getElem?_eq_some_iff.1 h1;rw[List.find?_eq_some_iff_getElem];refine⟨by simp,r,k1,rfl,fun j hj=>?_⟩;have cB:j<es.length:=by omega
 simp only[Bool.not_eq_true',beq_eq_false_iff_ne];intro he;have:=FY h (List.getElem?_eq_getElem cB) h1 he;omega
theorem Q0y (al:∀ x,SR P B pl tb (ev x) (evV x)) (hle:B.Le σ) (aA:∀ d,OR P B pl tb σ (pl d) (Qe own d)) {x:Operand}(h:gq kt raw (.ext (.entry x)) ev own=some (cs,v)) (hc:∀ c∈cs,c):QOk P B pl tb σ (.ext (.entry x)) evV v:=by
 simp only[gq] at h;split at h
 ·rename_i o f h1;split at h
  ·rename_i kk vk m dn ho;split at h
   ·rename_i aj;obtain⟨rfl,hk,hv⟩:=aj;obtain⟨rfl,rfl⟩:=QE h;have ui:dn≠[]:=hc _ (by simp);have e1:=al x;rw[h1] at e1;simp only[SR] at e1;obtain⟨b,e2,e3⟩:=e1;have av:=aA o;rw[ho] at av;obtain⟨j,i,es,clock,wr,seen,h2,h3,h4,h5,h6⟩:=av;rw[h2] at e2;obtain rfl:j=b:=by simpa using e2
    have eM:0<dn.length:=List.length_pos_iff.2 ui;have dD:dn[dn.length-1]?=some (dn.getLastD 0):=by rw[List.getLastD_eq_getLast?,List.getLast?_eq_getElem?];rw[List.getElem?_eq_getElem (show dn.length-1<dn.length by omega)];rfl
    obtain⟨e,jV,jt⟩:=h6.2 _ _ dD;have mg:seen.getLast?=some e.2.2:=by rw[List.getLast?_eq_getElem?,h6.1];exact jt
    obtain⟨hr,k1,k2⟩:=MR.at h5.1 jV;have k2:=k2.kc hv;have aN:σ.mapAt i=some (es,clock,wr):=by simp[Heap.mapAt,hle.2 _ _ h4]
    have eo:=At h5.2 jV;refine⟨.tuple #[e.1,e.2.1],?_,?_⟩
    ·simp only[Q8,Z0,e3,h3,aN,mg,eo,if_true];rw[if_pos (FP hk k1)]
    ·simp only[SR,SRs];refine⟨[e.1,e.2.1],rfl,e.1,[e.2.1],rfl,?_,e.2.1,[],rfl,?_,rfl⟩
     ·have:m.getD (dn.getLastD 0) (kk.dflt,vk.dflt)=m[dn.getLastD 0]:=by rw[List.getD_eq_getElem?_getD,List.getElem?_eq_getElem hr];rfl
      rw[this];exact JY k1
     ·have:m.getD (dn.getLastD 0) (kk.dflt,vk.dflt)=m[dn.getLastD 0]:=by rw[List.getD_eq_getElem?_getD,List.getElem?_eq_getElem hr];rfl
      rw[this];exact k2
   ·cases h
  ·cases h
 ·cases h
theorem T1 (al:∀ x,SR P B pl tb (ev x) (evV x)) (gb:∀ c,evV (.const c)=c) (hle:B.Le σ) (aA:∀ d,OR P B pl tb σ (pl d) (Qe own d)) {o:VOp}(h:gq kt raw o ev own=some (cs,v)) (hc:∀ c∈cs,c):QOk P B pl tb σ o evV v:=by
 cases o with
 |move x=>obtain⟨rfl,rfl⟩:=QE h;exact⟨evV x,rfl,al x⟩
 |arith=>exact Q1i al h hc
 |div=>exact Q7g al h hc
 |bits=>exact Q4r al h
 |shift=>exact Q3f al h hc
 |cmp=>exact Q79 al h
 |str=>exact Q8e al h hc
 |eqB=>exact Q7n al h
 |un=>exact Q9x al h hc
 |convI=>exact Q29 al h hc
 |convS=>exact Q3d al h
 |build=>exact Q1u al h
 |load=>exact Q4u al hle aA h
 |fieldAddr=>exact Sm al h
 |field=>exact Q33 al h
 |indexAddr=>exact RY al hle aA h hc
 |indexAddrArr=>exact BZ al gb h
 |indexStr=>exact CM al h hc
 |indexArr=>exact AQ al gb h
 |slice=>exact Q17 al hle aA h hc
 |sliceStr=>exact Cw al h hc
 |len=>exact Q7f al aA h
 |lenStr=>exact Is al h
 |max=>exact Q7v al h
 |max4=>exact Q5v al h
 |min=>exact Q8k al h
 |makeFunc=>exact CB al h
 |extract=>exact Fm al h
 |nilCheck=>exact Aj al h
 |ext x =>
  cases x with
  |eqNil k neg a b =>
   match k with
   |1=>exact Q2e al aA h hc
   |0=>exact O4 al aA h hc
   |(n+2)=>cases h
  |eqAgg n s a b=>exact Q2c al h
  |toUnsafe a=>exact CF al aA h
  |fromUnsafe u size a=>exact TX al aA h
  |sliceData a=>exact Sf al aA h hc
  |bytesStr a=>exact A3 al hle aA h
  |lookup=>exact ID al hle aA h
  |lenMap=>exact It al aA h
  |entry a=>exact Q0y al hle aA h hc
  |_=>cases h
 |_=>cases h
end
end
end Go.V