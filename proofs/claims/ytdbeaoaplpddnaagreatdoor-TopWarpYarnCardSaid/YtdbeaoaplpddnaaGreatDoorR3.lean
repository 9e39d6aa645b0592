/- A framework for walks, contracts of functions, and their proofs: part 3. -/
import Derived.Test.YtdbeaoaplpddnaaGreatDoorProg
import Derived.Laws.Closers25b
import Derived.Test.YtdbeaoaplpddnaaGreatDoorR2
namespace Go.V
open Go
structure FRel (e:ET) (env:Env):Prop where
 m:e.m=List.length env
 sm:e.m≤1000000
 get:∀ i,env.getD i undef=e.get i
theorem ET.get_lt {e:ET}{i:Nat}(hi:i<e.m):e.get i=e.t.get undef i:=by unfold ET.get;rw[show Nat.blt i e.m=true from Nat.ble_eq_true_of_le hi]
theorem ET.get_ge {e:ET}{i:Nat}(hi:e.m≤i):e.get i=undef:=by
 unfold ET.get;cases hb:Nat.blt i e.m with
 |false=>rfl
 |true=>have:=Nat.le_of_ble_eq_true hb;omega
theorem ET.set_lt {e:ET}{i:Nat}{v:Value}(hi:i<e.m):e.set i v=⟨e.t.set undef 32 i v,e.m⟩:=by unfold ET.set;rw[show Nat.blt i e.m=true from Nat.ble_eq_true_of_le hi]
theorem ET.set_ge {e:ET}{i:Nat}{v:Value}(hi:e.m≤i):e.set i v=e:=by
 unfold ET.set;cases hb:Nat.blt i e.m with
 |false=>rfl
 |true=>have:=Nat.le_of_ble_eq_true hb;omega
theorem ET.set_m (e:ET) (i:Nat) (v:Value):(e.set i v).m=e.m:=by
 rcases Nat.lt_or_ge i e.m with h|h
 ·rw[ET.set_lt h]
 ·rw[ET.set_ge h]
theorem ET.get_set {e:ET}(hs:e.m≤1000000) (i:Nat) (v:Value) (j:Nat):(e.set i v).get j=if j=i∧i<e.m then v else e.get j:=by
 rcases Nat.lt_or_ge i e.m with hi|hi
 ·rw[ET.set_lt hi];rcases Nat.lt_or_ge j e.m with hj|hj
  ·rw[ET.get_lt (e:=⟨e.t.set undef 32 i v,e.m⟩) hj,ET.get_lt hj];show (e.t.set undef 32 i v).get undef j=_;rw[GT.get_set undef 32 _ _ _ _ (by omega)];by_cases h:j=i
   ·rw[if_pos h,if_pos ⟨h,hi⟩]
   ·rw[if_neg h,if_neg (fun e=>h e.1)]
  ·rw[ET.get_ge (e:=⟨e.t.set undef 32 i v,e.m⟩) hj,ET.get_ge hj,if_neg (by rintro⟨rfl,_⟩;omega)]
 ·rw[ET.set_ge hi,if_neg (by rintro⟨_,h⟩;omega)]
theorem FRel.set {e:ET}{env:Env}(h:FRel e env) (i:Nat) (v:Value):FRel (e.set i v) (env.set i v):=by
 refine⟨by rw[ET.set_m,List.length_set];exact h.m,by rw[ET.set_m];exact h.sm,fun j=>?_⟩;rw[ET.get_set h.sm,←h.get,List.getD_eq_getElem?_getD,List.getD_eq_getElem?_getD,List.getElem?_set,h.m];by_cases bX:i=j
 ·subst bX;rcases Nat.lt_or_ge i (List.length env) with hi|hi
  ·rw[if_pos rfl,if_pos hi,if_pos ⟨rfl,hi⟩];rfl
  ·rw[if_pos rfl,if_neg (by omega),if_neg (by rintro⟨_,h⟩;omega),List.getElem?_eq_none hi]
 ·rw[if_neg bX,if_neg (fun e=>bX e.1.symm)]
theorem FRel.put {e:ET}{env:Env}(h:FRel e env) (d:Option Nat) (v:Value):FRel (e.put d v) (Jq env d v):=by
 cases d with
 |none=>exact h
 |some d=>exact h.set d v
theorem MM {e:ET}{env:Env}(h:FRel e env):U5 e=Q8 env:=by
 funext x
 cases x with
 |tmp t=>exact(h.get t).symm
 |_=>rfl
theorem Rp {e:ET}{env:Env}(h:FRel e env) (g:Option (Nat×Bool)):Cc e g=ZC env g:=by
 cases g with
 |none=>rfl
 |some p =>obtain⟨d,w⟩:=p;simp only[Cc,ZC,h.get];cases e.get d<;>rfl
theorem Bs:∀ (ps:List Nat) (vs:List Value) {e:ET}{env:Env},FRel e env→FRel (Ef e ps vs) (De env ps vs)
 |[],vs,e,env,h=>by cases vs<;>exact h
 |p::ps,[],e,env,h=>h
 |p::ps,v::vs,e,env,h=>Bs ps vs (h.set p v)
theorem Lz:∀ (l:List Value) (i:Nat) (t:GT Value) (j:Nat),i+l.length≤1000000→(etL l i t).get undef j=if i≤j∧j<i+l.length then l.getD (j-i) undef else t.get undef j
 |[],i,t,j,_=>by rw[if_neg (by simp only[List.length_nil];omega)];rfl
 |v::l,i,t,j,h=>by
  have h:i+(l.length+1)≤1000000:=h;show (etL l (i+1) (t.set undef 32 i v)).get undef j=_;rw[Lz l (i+1) _ j (by omega),GT.get_set undef 32 _ _ _ _ (by omega)];by_cases aI:j=i
  ·subst aI;rw[if_neg (by omega),if_pos rfl,if_pos (by simp)];simp
  ·by_cases hc:i+1≤j∧j<i+1+l.length
   ·rw[if_pos hc,if_pos (by simp;omega),show j-i=j-(i+1)+1 by omega];rfl
   ·rw[if_neg hc,if_neg aI,if_neg (by simp;omega)]
theorem ET.of_rel {args:List Value}{nt:Nat}(h:(ET.of args nt).m≤1000000):FRel (ET.of args nt) (args++List.replicate (nt-args.length) undef):=by
 refine⟨by simp[ET.of],h,fun i=>?_⟩;have hm:(ET.of args nt).m=args.length+(nt-args.length):=rfl;rw[hm] at h;rcases Nat.lt_or_ge i (ET.of args nt).m with hi|hi
 ·rw[ET.get_lt hi];show _=(etL args 0 .nil).get undef i;rw[Lz _ _ _ _ (by omega),List.getD_eq_getElem?_getD,List.getElem?_append];rw[hm] at hi;by_cases hl:i<args.length
  ·rw[if_pos hl,if_pos (by omega)];simp[List.getD_eq_getElem?_getD]
  ·rw[if_neg hl,if_neg (by omega),List.getElem?_replicate,if_pos (by omega)];rfl
 ·rw[ET.get_ge hi];rw[hm] at hi;rw[List.getD_eq_getElem?_getD,List.getElem?_eq_none (by simp;omega)];rfl
def LS (P:Program) (f:FuncId) (m:Memo):Prop :=
 VCalled P f m.args (JT m.bl []) (fun u τ=>u=m.v∧τ=JT m.bl m.fr)∧(∀ b∈m.bl,b.c.all QK=true)∧∀ b∈m.fr,b.c.all QK=true
structure TabOk (P:Program) (T:Tab):Prop where
 code:∀ f vc rs nt,T f=some (.code vc rs nt)→Fun P f vc rs nt
 codeJ:∀ f vc rs nt,T f=some (.codeJ vc rs nt)→Fun P f vc rs nt
 codeM:∀ f vc rs nt ms,T f=some (.codeM vc rs nt ms)→Fun P f vc rs nt∧∀ m∈ms,LS P f m
 same:∀ f,T f=some .same→∀ (v:Value) (σ:Heap) (K:Value→Heap→Prop),K v σ→VCalled P f [v] σ K
section
variable {P:Program}{T:Tab}{ev:FK}
abbrev Kf:=Nat→Env×Loop
def YOk (P:Program) (ys:Ys) (rs:Kf) (n:Nat):Prop :=
 ∀ i c,ys.find i=some c→i<n∧FRel c.env (rs i).1∧WL P i (Rl (vwp (Q7 P) c.a (some i)) (vwp (Q7 P) c.b (some i)) c.ps (rs i).1 (rs i).2 i)
theorem YOk.mono {ys:Ys}{rs bn:Kf}{n n':Nat}(h:YOk P ys rs n) (hn:n≤n') (hr:∀ i,i<n→bn i=rs i):YOk P ys bn n':=fun i c hc=>by obtain⟨h1,h2,h3⟩:=h i c hc;rw[hr i h1];exact⟨by omega,h2,h3⟩
def FM {A:Type}(G:A→Prop) (rs:Kf) (h:CH) (k:Value→CH→A) (K:Value→Heap→Prop):Prop :=
 ∀ v h' bn σ',h.n≤h'.n→(∀ i,i<h.n→bn i=rs i)→CSim bn h' σ'→G (k v h')→K v σ'
def Ag {A:Type}(G:A→Prop) (rs:Kf) (h:CH) (m:Nat) (k:Exit→ET→CH→A) (Q:Exit→Env→Heap→Prop):Prop :=
 ∀ e dk h' bn σ' af,h.n≤h'.n→(∀ i,i<h.n→bn i=rs i)→CSim bn h' σ'→FRel dk af→List.length af=m→G (k e dk h')→Q e af σ'
def Ai {A:Type}(G:A→Prop) (rs:Kf) (h:CH) (m:Nat) (k:ET→CH→A) (K:Env→Heap→Prop):Prop :=
 ∀ dk h' bn σ' af,h.n≤h'.n→(∀ i,i<h.n→bn i=rs i)→CSim bn h' σ'→FRel dk af→List.length af=m→G (k dk h')→K af σ'
def Sd (P:Program) (ev:FK):Prop:=∀ {A:Type}(R:AnsOps A) (G:A→Prop),Good R G→∀ (ys:Ys) (c:VCode) (ro:Option Nat) (et:ET) (env:Env) (h:CH) (k:Exit→ET→CH→A) (rs:Kf) (σ:Heap) (Q:Exit→Env→Heap→Prop),
 YOk P ys rs h.n→CSim rs h σ→FRel et env→G (ev R ys c ro et h k)→Ag G rs h (List.length env) k Q→vwp (Q7 P) c ro Q env σ
theorem N9 {rs:Kf}{h:CH}{σ:Heap}(hs:CSim rs h σ) {et:ET}{env:Env}(hE:FRel et env) {r:VResult}{v:Value}(hr:GP et h r=some v):ZW env σ r=some v:=by
 cases r with
 |tmp t=>simp only[GP] at hr;simp only[ZW,hE.get];exact hr
 |cell a agg size =>
  simp only[GP] at hr;split at hr
  ·rename_i p hp;rw[←hE.get] at hp;obtain⟨_,σ',h1,_⟩:=WB (o:=.load agg size (.tmp a)) (ev:=Q8 env) hs hp;simp only[ZW,h1,Option.map_some];exact hr
  ·cases hr
theorem VZ {rs:Kf}{h:CH}{σ:Heap}(hs:CSim rs h σ) {et:ET}{env:Env}(hE:FRel et env):∀ (l:List VResult) (vs:List Value),UW et h l=some vs→l.mapM (ZW env σ)=some vs
 |[],vs,hr=>by simp[UW] at hr;subst hr;rfl
 |r::l,vs,hr=>by
  simp only[UW] at hr;split at hr
  ·cases hr
  ·rename_i v hv;split at hr
   ·cases hr
   ·rename_i ws hw;obtain rfl:=osj hr;rw[List.mapM_cons,N9 hs hE hv];simp[VZ hs hE l ws hw]
theorem VT {rs:Kf}{h:CH}{σ:Heap}(hs:CSim rs h σ) {et:ET}{env:Env}(hE:FRel et env) {l:List VResult}{v:Value}(hr:Vs et h l=some v):JE env σ l=some v:=by
 unfold Vs at hr;split at hr
 ·exact N9 hs hE hr
 ·rename_i aC;split at hr
  ·rename_i vs cm;unfold JE;split
   ·rename_i r;exact absurd rfl (aC r)
   ·rw[VZ hs hE _ _ cm];exact hr
  ·cases hr
variable {A:Type}{R:AnsOps A}{G:A→Prop}
theorem Vp (hG:Good R G) {rl:List VResult}{k:Value→CH→A}{rs:Kf}{h:CH}{σ:Heap}{K:Value→Heap→Prop}{m:Nat}(hk:FM G rs h k K):Ag G rs h m (EC R.fail rl k) (Q0m σ rl K):=by
 intro e dk h' bn σ' af hn hr a0 bL _ hg;have fin:G (match Vs dk h' rl with|some v=>k v h'|none=>R.fail)→QW (JE af σ' rl) fun v=>∃ v' aK,DropTo σ v σ' v' aK∧K v' aK:=by
  intro hg;split at hg
  ·rename_i v hv;rw[VT a0 bL hv];exact⟨v,σ',.refl _ _ _,hk v h' bn σ' hn hr a0 hg⟩
  ·exact(hG.fail hg).elim
 cases e with
 |normal=>exact fin hg
 |ret=>exact fin hg
 |_=>exact(hG.fail hg).elim
noncomputable def CH.toHeap (rs:Kf) (h:CH):Heap:=⟨fun i=>(h.get i).map (EB.to (rs i)),h.n,fun i hi=>by rw[CH.get_ge hi];rfl⟩
theorem M0 {rs:Kf}{h:CH}(hr:h.n≤1000000001):CSim rs h (h.toHeap rs):=⟨rfl,hr,fun _=>rfl⟩
theorem CSim.eq {rs:Kf}{h:CH}{σ:Heap}(hs:CSim rs h σ):σ=h.toHeap rs:=Heap.ext' (fun j=>hs.get j) hs.n.symm
def Sq (x:Value×CH) (a:Option (Value×CH)):Prop:=∃ y,a=some y∧y.1=x.1∧y.2.n=x.2.n∧∀ i,y.2.get i=x.2.get i
theorem Am {h h':CH}(hs:h.same h'=true):h.n=h'.n∧∀ i,h.get i=h'.get i:=by
 simp only[CH.same,Bool.and_eq_true,List.all_eq_true,List.mem_range,Nat.beq_eq] at hs;refine⟨hs.1,fun i=>?_⟩;rcases Nat.lt_or_ge i h.n with hi|hi
 ·have:=hs.2 i hi;split at this
  ·rename_i h1 h2;rw[h1,h2]
  ·rename_i a b h1 h2;rw[h1,h2,EB.beq_eq this]
  ·cases this
 ·rw[CH.get_ge hi,CH.get_ge (by rw[←hs.1];exact hi)]
theorem HE (x:Value×CH):Good joinOps (Sq x):=by
 refine⟨fun ⟨y,h,_⟩=>(by cases h),fun a b h=>?_⟩;obtain⟨y,h1,h2,h3,h4⟩:=h;cases a with
 |none=>cases h1
 |some xa =>
  cases b with
  |none=>cases h1
  |some xb =>
   simp only[joinOps] at h1;split at h1
   ·rename_i hc;obtain rfl:=osj h1;have e1:=Uk _ _ _ hc.1;obtain⟨e2,e3⟩:=Am hc.2;exact⟨⟨xa,rfl,h2,h3,h4⟩,xb,rfl,by rw[←e1];exact h2,by rw[←e2];exact h3,fun i=>by rw[←e3 i];exact h4 i⟩
   ·cases h1
theorem CZ {b:EB}{q:Env×Loop}(h:b.plainE=true):(b.to q).plain=true∧∀ q',b.to q'=b.to q:=by cases b<;>first|exact⟨h,fun _=>rfl⟩|cases h
def gcP (n0:Nat) (refs:List Nat) (i:Nat):Nat:=if i<n0 then i else refs.getD (i-n0) 0
def RExt (n0:Nat) (a b:List Nat):Prop:=(∃ t,b=a++t∧∀ x∈t,n0≤x)∧(a.Nodup→b.Nodup)
theorem RExt.refl (n0:Nat) (a:List Nat):RExt n0 a a:=⟨⟨[],by simp,fun x hx=>by cases hx⟩,id⟩
theorem RExt.trans {n0:Nat}{a b c:List Nat}(h:RExt n0 a b) (k:RExt n0 b c):RExt n0 a c:=by obtain⟨⟨t,rfl,ht⟩,h2⟩:=h;obtain⟨⟨u,rfl,hu⟩,k2⟩:=k;exact⟨⟨t++u,by simp,fun x hx=>(List.mem_append.1 hx).elim (ht x) (hu x)⟩,fun h=>k2 (h2 h)⟩
def Sub (a b:List Nat):Prop:=∃ t,b=a++t
theorem Sub.trans {a b c:List Nat}(h:Sub a b) (k:Sub b c):Sub a c:=by obtain⟨t,rfl⟩:=h;obtain⟨u,rfl⟩:=k;exact⟨t++u,by simp⟩
theorem RExt.sub {n0:Nat}{a b:List Nat}(h:RExt n0 a b):Sub a b:=by obtain⟨⟨t,h,_⟩,_⟩:=h;exact⟨t,h⟩
theorem Hp (n0:Nat) (refs:List Nat) (i:Nat):RExt n0 refs (gcI n0 refs i).2∧∀ (all:List Nat),Sub (gcI n0 refs i).2 all→(gcI n0 refs i).1<n0+all.length∧gcP n0 all (gcI n0 refs i).1=i:=by
 unfold gcI;split
 ·rename_i hi;exact⟨RExt.refl _ _,fun all _=>⟨by simp only;omega,by simp[gcP,hi]⟩⟩
 ·rename_i hi;split
  ·rename_i hc;have hm:i∈refs:=by simpa using hc
   have ah:=List.idxOf_lt_length_of_mem hm;refine⟨RExt.refl _ _,fun all ⟨t,ht⟩=>?_⟩;simp only at ht;have bN:refs.idxOf i<all.length:=by rw[ht,List.length_append];omega
   refine⟨by simp only;omega,?_⟩;simp only[gcP,if_neg (show ¬ n0+refs.idxOf i<n0 by omega),show n0+refs.idxOf i-n0=refs.idxOf i by omega,List.getD_eq_getElem?_getD];rw[ht,List.getElem?_append_left ah,List.getElem?_eq_getElem ah];simp
  ·rename_i hc;have hm:i∉refs:=by simpa using hc
   refine⟨⟨⟨[i],rfl,fun x hx=>by simp at hx;omega⟩,fun h1=>List.nodup_append.2 ⟨h1,by simp,fun a ha b hb=>by simp at hb;subst hb;rintro rfl;exact hm ha⟩⟩,fun all ⟨t,ht⟩=>?_⟩;simp only at ht;have ah:refs.length<all.length:=by rw[ht];simp
   refine⟨by simp only;omega,?_⟩;simp only[gcP,if_neg (show ¬ n0+refs.length<n0 by omega),show n0+refs.length-n0=refs.length by omega];simp[ht,List.getD_eq_getElem?_getD]
def II (n0:Nat) (refs eP:List Nat) (v' v:Value):Prop:=RExt n0 refs eP∧∀ (all:List Nat),Sub eP all→Ren (n0+all.length) (gcP n0 all) v' v
def Q1j (n0:Nat) (refs eP:List Nat) (v' v:List Value):Prop:=RExt n0 refs eP∧∀ (all:List Nat),Sub eP all→LRen (n0+all.length) (gcP n0 all) v' v
theorem WG {n0:Nat}{g:List Nat→Value→Option (Value×List Nat)}(hg:∀ refs v p,g refs v=some p→II n0 refs p.2 p.1 v):∀ (vs:List Value) (refs:List Nat) (p:List Value×List Nat),A7 g vs refs=some p→Q1j n0 refs p.2 p.1 vs
 |[],refs,p,h=>by obtain rfl:=osj h;exact⟨RExt.refl _ _,fun all _=>⟨rfl,fun i a b ha=>by simp at ha⟩⟩
 |v::vs,refs,p,h=>by
  simp only[A7] at h;split at h
  ·cases h
  ·rename_i p1 h1;split at h
   ·cases h
   ·rename_i p2 h2;obtain rfl:=osj h;obtain⟨a1,a2⟩:=hg _ _ _ h1;obtain⟨b1,b2⟩:=WG hg vs _ _ h2;refine⟨a1.trans b1,fun all hall=>?_⟩;have c1:=a2 all (b1.sub.trans hall);have c2:=b2 all hall;refine⟨by simp[c2.1],fun i a b ha hb=>?_⟩;cases i with
    |zero=>simp at ha hb;subst ha;subst hb;exact c1
    |succ i=>exact c2.2 i a b (by simpa using ha) (by simpa using hb)
theorem LRen.agg {n:Nat}{π:Nat→Nat}{cK:List Value}{cs:Array Value}(h:LRen n π cK cs.toList):Ren n π (.agg cK.toArray) (.agg cs) :=
 .agg _ _ (by simpa using h.1) fun i h1 h2=>h.2 i _ _ (by simp) (by simp)
theorem LRen.tuple {n:Nat}{π:Nat→Nat}{cK:List Value}{cs:Array Value}(h:LRen n π cK cs.toList):Ren n π (.tuple cK.toArray) (.tuple cs) :=
 .tuple _ _ (by simpa using h.1) fun i h1 h2=>h.2 i _ _ (by simp) (by simp)
theorem ML (n0:Nat):∀ (f:Nat) (refs:List Nat) (v:Value) (p:Value×List Nat),gcX n0 f refs v=some p→II n0 refs p.2 p.1 v:=by
 intro f;induction f with
 |zero=>intro refs v p h;cases h
 |succ f ih =>
  intro refs v p h;unfold gcX at h;split at h
  ·rename_i i o;obtain rfl:=osj h;obtain⟨h1,h2⟩:=Hp n0 refs i;refine⟨h1,fun all hall=>?_⟩;obtain⟨k1,k2⟩:=h2 all hall;have:=Ren.ptr (n:=n0+all.length) (π:=gcP n0 all) (gcI n0 refs i).1 o k1
   rwa [k2] at this
  ·rename_i i o l c;obtain rfl:=osj h;obtain⟨h1,h2⟩:=Hp n0 refs i;refine⟨h1,fun all hall=>?_⟩;obtain⟨k1,k2⟩:=h2 all hall;have:=Ren.sl (n:=n0+all.length) (π:=gcP n0 all) (gcI n0 refs i).1 o l c k1
   rwa [k2] at this
  ·rename_i i;obtain rfl:=osj h;obtain⟨h1,h2⟩:=Hp n0 refs i;refine⟨h1,fun all hall=>?_⟩;obtain⟨k1,k2⟩:=h2 all hall;have:=Ren.map (n:=n0+all.length) (π:=gcP n0 all) (gcI n0 refs i).1 k1
   rwa [k2] at this
  ·obtain rfl:=osj h;exact⟨RExt.refl _ _,fun all _=>.poison _⟩
  ·split at h
   ·rename_i q hq;obtain rfl:=osj h;obtain⟨h1,h2⟩:=ih _ _ _ hq;exact⟨h1,fun all hall=>.iface _ _ _ (h2 all hall)⟩
   ·cases h
  ·split at h
   ·rename_i q hq;obtain rfl:=osj h;obtain⟨h1,h2⟩:=WG ih _ _ _ hq;exact⟨h1,fun all hall=>(h2 all hall).agg⟩
   ·cases h
  ·split at h
   ·rename_i q hq;obtain rfl:=osj h;obtain⟨h1,h2⟩:=WG ih _ _ _ hq;exact⟨h1,fun all hall=>(h2 all hall).tuple⟩
   ·cases h
  ·split at h
   ·rename_i q hq;split at h
    ·rename_i q2 tj;obtain rfl:=osj h;obtain⟨h1,h2⟩:=WG ih _ _ _ hq;obtain⟨h3,h4⟩:=WG ih _ _ _ tj;refine⟨h1.trans h3,fun all hall=>?_⟩;have c1:=h2 all (h3.sub.trans hall);have c2:=h4 all hall;exact .func _ _ _ _ _ (by simpa using c1.1) (by simpa using c2.1) (fun i h1 h2=>c1.2 i _ _ (by simp) (by simp)) (fun i h1 h2=>c2.2 i _ _ (by simp) (by simp))
    ·cases h
   ·cases h
  ·split at h
   ·rename_i hp;obtain rfl:=osj h;exact⟨RExt.refl _ _,fun all _=>.plain _ hp⟩
   ·cases h
theorem HY (n0:Nat):∀ (es:List J1) (refs:List Nat) (p:List J1×List Nat),Q0o n0 es refs=some p→RExt n0 refs p.2∧∀ (all:List Nat),Sub p.2 all →
  p.1.length=es.length∧∀ (k:Nat) (a b:J1),p.1[k]?=some a→es[k]?=some b→a.1=b.1∧a.2.2=b.2.2∧Ren (n0+all.length) (gcP n0 all) a.2.1 b.2.1
 |[],refs,p,h=>by obtain rfl:=osj h;exact⟨RExt.refl _ _,fun all _=>⟨rfl,fun i a b ha=>by simp at ha⟩⟩
 |e::es,refs,p,h=>by
  simp only[Q0o] at h;split at h
  ·cases h
  ·rename_i p1 h1;split at h
   ·cases h
   ·rename_i p2 h2;obtain rfl:=osj h;obtain⟨a1,a2⟩:=ML n0 _ _ _ _ h1;obtain⟨b1,b2⟩:=HY n0 es _ _ h2;refine⟨a1.trans b1,fun all hall=>?_⟩;have c1:=a2 all (b1.sub.trans hall);obtain⟨c2,c3⟩:=b2 all hall;refine⟨by simp[c2],fun i a b ha hb=>?_⟩;cases i with
    |zero=>simp at ha hb;subst ha;subst hb;exact⟨rfl,rfl,c1⟩
    |succ i=>exact c3 i a b (by simpa using ha) (by simpa using hb)
theorem AE {n0:Nat}{refs:List Nat}{b:EB}{p:EB×List Nat}(h:gcB n0 refs b=some p):RExt n0 refs p.2∧∀ (all:List Nat),Sub p.2 all→∀ q q',BRen (n0+all.length) (gcP n0 all) (p.1.to q') (b.to q):=by
 unfold gcB at h;split at h
 ·split at h
  ·rename_i q hq;obtain rfl:=osj h;obtain⟨h1,h2⟩:=WG (ML n0 8) _ _ _ hq;exact⟨h1,fun all hall _ _=>⟨rfl,rfl,rfl,h2 all hall⟩⟩
  ·cases h
 ·split at h
  ·rename_i q hq;obtain rfl:=osj h;obtain⟨h1,h2⟩:=HY n0 _ _ _ hq;exact⟨h1,fun all hall _ _=>⟨rfl,rfl,(h2 all hall).1,(h2 all hall).2⟩⟩
  ·cases h
 ·cases h
theorem L3 {h':CH}{n0:Nat}:∀ (f k:Nat) (refs:List Nat) (acc:CH) (r:CH×List Nat),A9 h' n0 f k refs acc=some r→acc.n=n0+k→acc.n≤1000000001 →
  RExt n0 refs r.2∧r.1.n=n0+r.2.length∧r.1.n≤1000000001∧(∀ i,i<acc.n→r.1.get i=acc.get i) ∧
  ∀ j,k≤j→j<r.2.length→∃ b b',h'.get (r.2.getD j 0)=some b∧r.1.get (n0+j)=some b'∧∀ q q',BRen (n0+r.2.length) (gcP n0 r.2) (b'.to q') (b.to q):=by
 intro f;induction f with
 |zero=>intro k refs acc r h;cases h
 |succ f ih =>
  intro k refs acc r h hn hs;simp only[A9] at h;split at h
  ·split at h
   ·rename_i hk;obtain rfl:=osj h;exact⟨RExt.refl _ _,by rw[hn,hk],hs,fun _ _=>rfl,fun j h1 h2=>by simp only at h2;omega⟩
   ·cases h
  ·rename_i hk;split at h
   ·cases h
   ·rename_i b hb;split at h
    ·cases h
    ·rename_i p hp;split at h
     ·rename_i aU;have aU:acc.n≤1000000000:=Nat.le_of_ble_eq_true aU;obtain⟨a1,a2⟩:=AE hp;have ic:(acc.push p.1).n=acc.n+1:=rfl;obtain⟨b1,b2,b3,b4,b5⟩:=ih (k+1) p.2 (acc.push p.1) r h (by rw[ic];omega) (by rw[ic];omega);refine⟨a1.trans b1,b2,b3,fun i hi=>?_,fun j lA dL=>?_⟩
      ·rw[b4 i (by rw[ic];omega),CH.get_push hs,if_neg (by omega)]
      ·by_cases dX:j=k
       ·subst dX;have aZ:j<refs.length:=by omega
        obtain⟨t,ht⟩:=(a1.trans b1).sub;have hg:r.2.getD j 0=refs.getD j 0:=by rw[ht,List.getD_eq_getElem?_getD,List.getD_eq_getElem?_getD,List.getElem?_append_left aZ]
        refine⟨b,p.1,by rw[hg];exact hb,?_,a2 r.2 b1.sub⟩;rw[←hn,b4 _ (by rw[ic];omega),CH.get_push hs,if_pos rfl]
       ·exact b5 j (by omega) dL
     ·cases h
theorem Mp {rs bn:Kf}{h h':CH}{σ σ':Heap}(hs:CSim rs h σ) (a0:CSim bn h' σ') (hr:∀ i,i<h.n→bn i=rs i) {v:Value}{y x:Value×CH}(hg:T5 h h' v=some y) (h1:y.1=x.1) (h2:y.2.n=x.2.n) (h3:∀ i,y.2.get i=x.2.get i) :
  DropTo σ v σ' x.1 (x.2.toHeap rs):=by
 unfold T5 at hg;split at hg
 ·cases hg
 ·rename_i p hp;split at hg
  ·cases hg
  ·rename_i q hq;obtain rfl:=osj hg;simp only at h1 h2 h3;obtain⟨f1,f2⟩:=ML h.n 8 [] v p hp;unfold Ey at hq;split at hq
   ·rename_i dA;simp only[CH.keepOk,Bool.and_eq_true,List.all_eq_true,List.mem_range] at dA;obtain⟨hle,dA⟩:=dA;have hle:h.n≤h'.n:=Nat.le_of_ble_eq_true hle;have oh:=hs.sm;obtain⟨g0,g1,g2,g3,g4⟩:=L3 _ 0 p.2 ⟨h'.t,h.n⟩ q hq rfl oh;have hall:=f1.trans g0;have iJ:q.2.Nodup:=hall.2 List.nodup_nil;have a7:∀ x∈q.2,h.n≤x:=by
     obtain⟨⟨t,ht,hx⟩,_⟩:=hall;simpa [ht] using hx
    have hold:∀ i,i<h.n→q.1.get i=h'.get i:=fun i hi=>by rw[g3 i hi,CH.get_lt (h:=⟨h'.t,h.n⟩) hi,CH.get_lt (by omega)]
    have iL:(x.2.toHeap rs).n=h.n+q.2.length:=by show x.2.n=_;rw[←h2,g1]
    have qX:∀ i,(x.2.toHeap rs).get i=(q.1.get i).map (EB.to (rs i)):=fun i=>by show (x.2.get i).map _=_;rw[←h3 i]
    rw[←h1];refine DropTo.rename (gcP h.n q.2) (by rw[iL,←hs.n];omega) (fun i hi=>?_) (fun i jC iG=>?_) (fun i j jC iG lA dL he=>?_) (by rw[iL];exact f2 q.2 g0.sub)
    ·rw[←hs.n] at hi;refine⟨by simp[gcP,hi],by rw[qX,hold i hi,a0.get,hr i hi],?_⟩;have:=dA i hi;rw[a0.get,hs.get];split at this
     ·rename_i e1 e2;rw[e1,e2];exact .inl rfl
     ·rename_i a b e1 e2;rw[e1,e2];rw[Bool.or_eq_true] at this;rcases this with hb|hb
      ·exact .inr ⟨_,rfl,(CZ hb).1⟩
      ·rw[EB.beq_eq hb,hr i hi];exact .inl rfl
     ·cases this
    ·rw[←hs.n] at jC;rw[iL] at iG;obtain⟨b,b',e1,e2,e3⟩:=g4 (i-h.n) (by omega) (by omega);have ie:gcP h.n q.2 i=q.2.getD (i-h.n) 0:=by simp[gcP,Nat.not_lt.2 jC]
     have aL:q.2.getD (i-h.n) 0∈q.2:=by
      have:i-h.n<q.2.length:=by omega
      simp[List.getD_eq_getElem?_getD,this]
     rw[show h.n+(i-h.n)=i by omega] at e2;rw[ie];refine⟨by rw[←hs.n];exact a7 _ aL,b'.to (rs i),b.to (bn (q.2.getD (i-h.n) 0)),by rw[qX,e2];rfl,by rw[a0.get,e1];rfl,by rw[iL];exact e3 _ _⟩
    ·rw[←hs.n] at jC lA;rw[iL] at iG dL;simp only[gcP,Nat.not_lt.2 jC,Nat.not_lt.2 lA,if_false] at he;have gh:i-h.n<q.2.length:=by omega
     have gi:j-h.n<q.2.length:=by omega
     simp only[List.getD_eq_getElem?_getD,List.getElem?_eq_getElem gh,List.getElem?_eq_getElem gi,Option.getD_some] at he;have:=(List.getElem_inj (h₀:=gh) (h₁:=gi) iJ).1 he;omega
   ·cases hq
theorem Gw {a m d:Nat}{g:Value→Option Value}(hg:∀ v u,g v=some u→Sh a m d v u):∀ (vs us:List Value),Oh g vs=some us→vs.length=us.length∧∀ (i:Nat) (v u:Value),vs[i]?=some v→us[i]?=some u→Sh a m d v u
 |[],us,h=>by obtain rfl:=osj h;exact⟨rfl,fun i v u h=>by simp at h⟩
 |v::vs,us,h=>by
  simp only[Oh] at h;split at h
  ·cases h
  ·rename_i u hu;split at h
   ·cases h
   ·rename_i lB eB;obtain rfl:=osj h;obtain⟨h1,h2⟩:=Gw hg vs lB eB;refine⟨by simp[h1],fun i v' u' fF cu=>?_⟩;cases i with
    |zero=>simp at fF cu;subst fF;subst cu;exact hg _ _ hu
    |succ i=>exact h2 i v' u' (by simpa using fF) (by simpa using cu)
theorem AF (a m d:Nat):∀ (f:Nat) (v u:Value),shX a m d f v=some u→Sh a m d v u:=by
 intro f;induction f with
 |zero=>intro v u h;cases h
 |succ f ih =>
  intro v u h;unfold shX at h;split at h
  ·split at h
   ·rename_i hc;obtain rfl:=osj h;exact .ptr _ _ hc.1 hc.2
   ·cases h
  ·split at h
   ·rename_i hc;obtain rfl:=osj h;exact .sl _ _ _ _ hc.1 hc.2
   ·cases h
  ·split at h
   ·rename_i p hp;obtain rfl:=osj h;obtain⟨h1,h2⟩:=Gw ih _ _ hp;exact .agg _ _ (by simpa using h1) fun i k1 k2=>h2 i _ _ (by simp) (by simp)
   ·cases h
  ·split at h
   ·rename_i p hp;obtain rfl:=osj h;obtain⟨h1,h2⟩:=Gw ih _ _ hp;exact .tuple _ _ (by simpa using h1) fun i k1 k2=>h2 i _ _ (by simp) (by simp)
   ·cases h
  ·split at h
   ·rename_i hc;obtain rfl:=osj h;exact .plain _ hc
   ·cases h
theorem CF {rs:Kf}{h:CH}{σ:Heap}(hs:CSim rs h σ) {i:Nat}{b:PB}(hb:Q2i h i b=true):∃ wr,σ.get i=some (b.blk wr):=by
 unfold Q2i at hb;split at hb
 ·rename_i c e w t hg;simp only[Bool.and_eq_true,decide_eq_true_eq,beq_iff_eq] at hb;obtain⟨rfl,rfl,h3⟩:=hb;obtain rfl:=K0 (Uk 20) _ _ h3;exact⟨w,hs.cells hg⟩
 ·cases hb
theorem Bc {rs:Kf}{h:CH}{σ:Heap}(hs:CSim rs h σ):∀ (l:List Nat) (m:List PB),Co h l m=true→l.length=m.length∧∀ i b,m[i]?=some b→∃ wr,σ.get (l.getD i 0)=some (b.blk wr)
 |[],[],_=>⟨rfl,fun i b h=>by simp at h⟩
 |j::l,b::m,hb=>by
  simp only[Co,Bool.and_eq_true] at hb;obtain⟨h1,h2⟩:=Bc hs l m hb.2;refine⟨by simp[h1],fun i b' bU=>?_⟩;cases i with
  |zero=>simp at bU;subst bU;simpa using CF hs hb.1
  |succ i=>simpa using h2 i b' (by simpa using bU)
 |[],_::_,h=>by cases h
 |_::_,[],h=>by cases h
theorem Mn {rs:Kf}:∀ (fr:List PB) {h:CH}{σ:Heap},CSim rs h σ→h.n+fr.length≤1000000000→CSim rs (Vg fr h) (Xd σ fr)∧(Vg fr h).n=h.n+fr.length
 |[],h,σ,hs,_=>by
  have:Xd σ []=σ:=Heap.ext' (fun j=>by
   show (if j<σ.n then σ.get j else _)=_;split
   ·rfl
   ·rename_i hj;rw[σ.wf j (by omega)];simp) rfl
  rw[this];exact⟨hs,rfl⟩
 |b::l,h,σ,hs,hr=>by
  have hr:h.n+(l.length+1)≤1000000000:=hr;have hn:=hs.n;have h1:CSim rs (h.push (.cells b.c b.esz true b.tight)) (σ.push (b.blk true)):=hs.push (Nat.ble_eq_true_of_le (by omega)) rfl;obtain⟨h2,h3⟩:=Mn l h1 (by show h.n+1+_≤_;omega);refine⟨?_,by rw[show Vg (b::l) h=Vg l (h.push (.cells b.c b.esz true b.tight)) from rfl,h3];show h.n+1+l.length=h.n+(l.length+1);omega⟩;have:Xd σ (b::l)=Xd (σ.push (b.blk true)) l:=Heap.ext' (fun j=>by
   show (if j<σ.n then σ.get j else _)=(if j<σ.n+1 then (σ.push (b.blk true)).get j else _);rcases Nat.lt_trichotomy j σ.n with hj|hj|hj
   ·rw[if_pos hj,if_pos (by omega),Heap.get_push_lt _ _ hj]
   ·subst hj;rw[if_neg (by omega),if_pos (by omega),Heap.get_push_self];simp
   ·rw[if_neg (by omega),if_neg (by omega)];rw[show j-σ.n=(j-(σ.push (b.blk true)).n)+1 by simp;omega];rfl) (by simp[Xd];omega)
  rw[this];exact h2
theorem D4 {h:CH}{args:List Value}{refs:List Nat}:∀ (ms:List Memo) (m:Memo),RK h args refs ms=some m→m∈ms∧args=m.args∧Co h refs m.bl=true
 |[],m,h=>by cases h
 |m0::ms,m,h=>by
  simp only[RK] at h;split at h
  ·rename_i hc;obtain rfl:=osj h;rw[Bool.and_eq_true] at hc;exact⟨List.mem_cons_self,K0 (Uk 20) _ _ hc.1,hc.2⟩
  ·obtain⟨h1,h2⟩:=D4 ms m h;exact⟨List.mem_cons_of_mem _ h1,h2⟩
theorem DJ {f:FuncId}{args:List Value}{ms:List Memo}(hm:∀ m∈ms,LS P f m) {rs:Kf}{h:CH}{σ:Heap}(hs:CSim rs h σ) {p:Value×CH}(hp:Hf h args ms=some p)
  {K:Value→Heap→Prop}(hK:∀ σ',h.n≤p.2.n→CSim rs p.2 σ'→K p.1 σ'):VCalled P f args σ K:=by
 unfold Hf at hp;split at hp
 ·cases hp
 ·rename_i q hq;split at hp
  ·cases hp
  ·rename_i m oS;obtain⟨h1,h2,h3⟩:=D4 ms m oS;obtain⟨k1,k2,k3⟩:=hm m h1;obtain⟨l1,l2⟩:=Bc hs _ _ h3;split at hp
   ·cases hp
   ·rename_i hr;have hr:=Nat.le_of_ble_eq_true hr;split at hp
    ·rename_i v hv;obtain rfl:=osj hp;obtain⟨s1,s2⟩:=Mn m.fr hs hr;have hx:=(WG (ML 0 8) _ _ _ hq).2 q.2 ⟨[],by simp⟩;rw[h2,l1] at hx;refine VCalled.localize (π:=gcP 0 q.2) k1 k2 k3 (fun i b hb=>?_) (by simpa using hx) ?_ (hK _ (by rw[s2];omega) s1)
     ·have:=l2 i b hb;simpa [gcP] using this
     ·have:=AF _ _ _ _ _ _ hv
      rwa [hs.n] at this
    ·cases hp
theorem Gq (hm:P.follows .mixedOrders=true) (hT:TabOk P T) (cE:Sd P ev) (hG:Good R G) {ys:Ys}{f:FuncId}{args:List Value}{h:CH}{k:Value→CH→A}{rs:Kf}{σ:Heap}{K:Value→Heap→Prop}
  (hY:YOk P ys rs h.n) (hs:CSim rs h σ) (he:G (R9 T ev R ys f args h k)) (hk:FM G rs h k K):VCalled P f args σ K:=by
 unfold R9 at he;split at he
 ·rename_i vc rl nt hf;have hF:=hT.code f vc rl nt hf;split at he
  ·rename_i hb;exact hF.calls hm Pj (cE R G hG ys vc none _ _ h _ rs σ _ hY hs (ET.of_rel (Nat.le_of_ble_eq_true hb)) he (Vp hG hk))
  ·exact(hG.fail he).elim
 ·rename_i vc rl nt hf;have hF:=hT.codeJ f vc rl nt hf;split at he
  ·rename_i hb;split at he
   ·rename_i x hx;split at he
    ·rename_i hc;have aU:x.2.n≤1000000000:=Nat.le_of_ble_eq_true hc.1;have hK:=hk x.1 x.2 rs _ (Nat.le_of_ble_eq_true hc.2) (fun _ _=>rfl) (M0 (by omega)) he;refine hF.calls hm Pj (cE joinOps (Sq x) (HE x) ys vc none _ _ h _ rs σ _ hY hs (ET.of_rel (Nat.le_of_ble_eq_true hb)) (show Sq x _ from ⟨x,hx,rfl,rfl,fun _=>rfl⟩) ?_);intro e dk h' bn σ' af hn hr a0 bL _ hg;have fin:Sq x (match Vs dk h' rl with|some v=>T5 h h' v|none=>none)→QW (JE af σ' rl) fun v=>∃ v' aK,DropTo σ v σ' v' aK∧K v' aK:=by
      rintro⟨y,hy,h1,h2,h3⟩;split at hy
      ·rename_i v hv;rw[VT a0 bL hv];exact⟨_,_,Mp hs a0 hr hy h1 h2 h3,hK⟩
      ·cases hy
     cases e with
     |normal=>exact fin hg
     |ret=>exact fin hg
     |_=>obtain⟨y,hy,_⟩:=hg;cases hy
    ·exact(hG.fail he).elim
   ·exact(hG.fail he).elim
  ·exact(hG.fail he).elim
 ·rename_i vc rl nt ms hf;obtain⟨hF,hM⟩:=hT.codeM f vc rl nt ms hf;split at he
  ·rename_i p hp;exact DJ hM hs hp fun σ' hn a0=>hk _ _ rs σ' hn (fun _ _=>rfl) a0 he
  ·split at he
   ·rename_i hb;exact hF.calls hm Pj (cE R G hG ys vc none _ _ h _ rs σ _ hY hs (ET.of_rel (Nat.le_of_ble_eq_true hb)) he (Vp hG hk))
   ·exact(hG.fail he).elim
 ·rename_i hf;split at he
  ·rename_i v;exact hT.same f hf v σ K (hk v h rs σ (Nat.le_refl _) (fun _ _=>rfl) hs he)
  ·exact(hG.fail he).elim
 ·exact(hG.fail he).elim
theorem HJ (hm:P.follows .mixedOrders=true) (cE:Sd P ev) (hG:Good R G) {ys:Ys}{f:FuncId}{vc:VCode}{rl:List VResult}{nt:Nat}(hf:T f=some (.code vc rl nt)) (hF:Fun P f vc rl nt) {args:List Value}{h:CH}{k:Value→CH→A}{rs:Kf}{σ:Heap}{K:Value→Heap→Prop}
  (hY:YOk P ys rs h.n) (hs:CSim rs h σ) (he:G (R9 T ev R ys f args h k)) (hk:FM G rs h k K):VCallsTo P f args σ K:=by
 unfold R9 at he;rw[hf] at he;simp only at he;split at he
 ·rename_i hb;exact hF.callsTo hm Pj (cE R G hG ys vc none _ _ h _ rs σ _ hY hs (ET.of_rel (Nat.le_of_ble_eq_true hb)) he (Vp hG hk))
 ·exact(hG.fail he).elim
theorem T4 (cE:Sd P ev) (hG:Good R G) {ys:Ys}{i:Nat}{args:List Value}{h:CH}{k:Value→CH→A}{rs:Kf}{σ:Heap}{K:Value→Heap→Prop}
  (hY:YOk P ys rs h.n) (hs:CSim rs h σ) (he:G (Lt ev R ys i args h k)) (hk:FM G rs h k K):VYields P i args σ K:=by
 unfold Lt at he;split at he
 ·rename_i c hc;obtain⟨aL,j9,aj⟩:=hY i c hc;split at he
  ·rename_i hg;split at he
   ·rename_i hlen;refine aj args σ K ⟨hs.lp hg,hlen,?_⟩;refine cE R G hG ys c.a (some i) _ _ h _ rs σ _ hY hs (Bs c.ps args j9) he ?_;intro e jD h1 eQ σ1 bk fJ fb ig eZ _ hg1;cases e with
    |normal =>
     simp only[EM] at hg1;split at hg1
     ·rename_i gk;have e1:eQ i=rs i:=fb i aL;have mJ:=ig.lp gk;rw[e1] at mJ;refine⟨mJ,?_⟩;have jC:=ig.lt gk;refine cE R G hG ys c.b (some i) jD bk _ _ eQ _ _ (hY.mono (n':=(h1.upd i (.lp .busy none)).n) fJ fb) (ig.upd jC (b:=.lp .busy none) (by rw[EB.to,e1])) eZ hg1 ?_;intro e2 fe h2 dH σ2 aP en du dI ff _ cN;have kp:h1.n≤h2.n:=en;have lC:dH i=rs i:=(du i jC).trans e1;unfold Ck at cN;split at cN
      ·rename_i mK;have iG:=dI.lt mK;have mL:=dI.lp mK;rw[lC] at mL;refine⟨mL,?_⟩;have dB:∀ j,j<h.n→dH j=rs j:=fun j hj=>(du j (Nat.lt_of_lt_of_le hj fJ)).trans (fb j hj);cases e2 with
       |normal=>exact hk _ (h2.upd i (.lp .ready none)) dH _ (Nat.le_trans fJ kp) dB (dI.upd iG (b:=.lp .ready none) (by simp only[EB.to,lC])) cN
       |ret=>exact hk _ (h2.upd i (.lp .done (some .ret))) dH _ (Nat.le_trans fJ kp) dB (dI.upd iG (b:=.lp .done (some .ret)) (by simp only[EB.to,lC])) cN
       |exit id=>exact hk _ (h2.upd i (.lp .done (some (.exit id)))) dH _ (Nat.le_trans fJ kp) dB (dI.upd iG (b:=.lp .done (some (.exit id))) (by simp only[EB.to,lC])) cN
       |_=>exact(hG.fail cN).elim
      ·exact(hG.fail cN).elim
     ·exact(hG.fail hg1).elim
    |_=>exact(hG.fail hg1).elim
   ·exact(hG.fail he).elim
  ·exact(hG.fail he).elim
 ·exact(hG.fail he).elim
theorem M8 (hG:Good R G) {i m since clock:Nat}{seen:List Nat}{h:CH}{k:Value→CH→A}:∀ (es:List J1),
  (∀ e∈es,seen.contains e.2.2=true)∧VV R i m since clock seen h k es=none ∨
  ∃ a,VV R i m since clock seen h k es=some a∧(G a→∀ e∈es,seen.contains e.2.2=false→G (k (.tuple #[.bool true,e.1,e.2.1]) (h.upd i (.iter m since (seen++[e.2.2]) clock))))
 |[]=>.inl ⟨fun _ h=>(by cases h),rfl⟩
 |e::es=>by
  have ih:=M8 hG (i:=i) (m:=m) (since:=since) (clock:=clock) (seen:=seen) (h:=h) (k:=k) es;by_cases hc:seen.contains e.2.2=true
  ·have he:VV R i m since clock seen h k (e::es)=VV R i m since clock seen h k es:=by rw[VV,if_pos hc]
   rw[he];rcases ih with⟨h1,h2⟩|⟨a,h1,h2⟩
   ·exact .inl ⟨fun x hx=>by rcases List.mem_cons.1 hx with rfl|hx;exact hc;exact h1 x hx,h2⟩
   ·refine .inr ⟨a,h1,fun ku x hx a9=>?_⟩;rcases List.mem_cons.1 hx with rfl|hx
    ·rw[hc] at a9;cases a9
    ·exact h2 ku x hx a9
  ·rcases ih with⟨h1,h2⟩|⟨a,h1,h2⟩
   ·refine .inr ⟨k (.tuple #[.bool true,e.1,e.2.1]) (h.upd i (.iter m since (seen++[e.2.2]) clock)),by rw[VV,if_neg hc,h2],fun ku x hx a9=>?_⟩;rcases List.mem_cons.1 hx with rfl|hx
    ·exact ku
    ·rw[h1 x hx] at a9;cases a9
   ·refine .inr ⟨R.both (k (.tuple #[.bool true,e.1,e.2.1]) (h.upd i (.iter m since (seen++[e.2.2]) clock))) a,by rw[VV,if_neg hc,h1],fun ku x hx a9=>?_⟩;obtain⟨g1,g2⟩:=hG.both _ _ ku;rcases List.mem_cons.1 hx with rfl|hx
    ·exact g1
    ·exact h2 g2 x hx a9
theorem R2 (hG:Good R G) {x:Value}{h:CH}{k:Value→CH→A}{rs:Kf}{σ:Heap}{K:Value→Heap→Prop}(hs:CSim rs h σ) (he:G (EY R x h k)) (hk:FM G rs h k K):Tz x σ K:=by
 unfold EY at he;unfold Tz;split at he
 ·rename_i i;split at he
  ·rename_i m since seen last hg;have hi:=hs.lt hg;simp only[hs.iter hg];split at he
   ·rename_i es clock wr f_;obtain⟨k1,_⟩:=hs.mapAt f_;simp only[k1];split at he
    ·rename_i hc;refine⟨hc.1,hc.2,?_⟩;rcases M8 hG (i:=i) (m:=m) (since:=since) (clock:=clock) (seen:=seen) (h:=h) (k:=k) es with⟨h1,h2⟩|⟨a,h1,h2⟩
     ·rw[h2] at he;simp only at he;split at he
      ·exact⟨fun _=>hk _ _ rs σ (Nat.le_refl _) (fun _ _=>rfl) hs he,fun e fy ky=>by rw[h1 e fy] at ky;cases ky⟩
      ·exact(hG.fail he).elim
     ·rw[h1] at he;simp only at he;have key:G a→∀ e∈es,seen.contains e.2.2=false→K (.tuple #[.bool true,e.1,e.2.1]) (σ.upd i (.obj (.iter m since (seen++[e.2.2]) clock) true)):=fun ku e fy ky =>
       hk _ (h.upd i (.iter m since (seen++[e.2.2]) clock)) rs _ (Nat.le_refl _) (fun _ _=>rfl) (hs.upd hi rfl) (h2 ku e fy ky)
      split at he
      ·obtain⟨g1,g2⟩:=hG.both _ _ he;exact⟨fun _=>hk _ _ rs σ (Nat.le_refl _) (fun _ _=>rfl) hs g1,key g2⟩
      ·rename_i hn;exact⟨fun hh=>absurd hh hn,key he⟩
    ·exact(hG.fail he).elim
   ·exact(hG.fail he).elim
  ·exact(hG.fail he).elim
 ·exact(hG.fail he).elim
theorem BB (hm:P.follows .mixedOrders=true) (hT:TabOk P T) (cE:Sd P ev) (hG:Good R G) {ys:Ys}{o:VOp}{et:ET}{env:Env}(hE:FRel et env) {h:CH}{k:Value→CH→A}{rs:Kf}{σ:Heap}{K:Value→Heap→Prop}
  (hY:YOk P ys rs h.n) (hs:CSim rs h σ) (he:G (F7 T ev R ys o et h k)) (hk:FM G rs h k K):vop (Q7 P) o env σ K:=by
 have ai:=MM hE;have other:∀ o':VOp,G (Cb R (TR o' (U5 et) h) k)→QW (Q9 o' (Q8 env) σ) fun p=>K p.1 p.2:=by
  intro o' hg;rw[ai] at hg;unfold Cb at hg;split at hg
  ·rename_i p hp;obtain⟨h1,σ',h2,h3⟩:=WB hs hp;rw[h2];exact hk _ _ rs σ' h1 (fun _ _=>rfl) h3 hg
  ·exact(hG.fail hg).elim
 cases o
 case callF f args =>
  simp only[F7,ai] at he;exact Gq hm hT cE hG hY hs he hk
 case callV f args =>
  simp only[F7,ai] at he;simp only[vop];unfold Ew at he;split at he
  ·rename_i g first cap hg
   simp only[hg];exact Gq hm hT cE hG hY hs he hk
  ·rename_i i first cap hg
   simp only[hg];exact T4 cE hG hY hs he hk
  ·exact(hG.fail he).elim
 case ext x =>
  cases x
  case nextMap x =>
   simp only[F7,ai] at he;exact R2 hG hs he hk
  case delete a b c=>exact other (.ext (.delete a b c)) he
  case mapEntry a z b c=>exact other (.ext (.mapEntry a z b c)) he
  case entryStore a b c=>exact other (.ext (.entryStore a b c)) he
  all_goals exact other _ he
 case move a=>exact other (.move a) he
 case makeFunc a b c=>exact other (.makeFunc a b c) he
 case bad=>exact other .bad he
 all_goals exact other _ he
theorem GR (hm:P.follows .mixedOrders=true) (hT:TabOk P T) (cE:Sd P ev) (hG:Good R G) {ys:Ys}{k:ET→CH→A}{K:Env→Heap→Prop}:∀ (ops:List VOper) (et:ET) (env:Env) (h:CH) (rs:Kf) (σ:Heap),
  YOk P ys rs h.n→CSim rs h σ→FRel et env→G (LU T ev R ys ops et h k)→Ai G rs h (List.length env) k K→NJ (Q7 P) ops env σ K:=by
 intro ops;induction ops with
 |nil=>intro et env h rs σ hY hs hE he hk;exact hk et h rs σ env (Nat.le_refl _) (fun _ _=>rfl) hs hE rfl he
 |cons o rest ih =>
  intro et env h rs σ hY hs hE he hk
  have he:G (match Cc et o.guard with
   |none=>R.fail
   |some true=>F7 T ev R ys o.op et h fun v h'=>LU T ev R ys rest (et.put o.dst v) h' k
   |some false=>LU T ev R ys rest (et.put o.dst undef) h k):=he
  rw[Rp hE] at he;simp only[NJ];split at he
  ·exact(hG.fail he).elim
  ·rename_i hw;rw[hw];refine⟨fun _=>?_,fun hh=>by cases hh⟩;refine BB hm hT cE hG hE hY hs he ?_;intro v h' bn σ' hn hr a0 hg;refine ih _ _ h' bn σ' (hY.mono hn hr) a0 (hE.put _ _) hg ?_;intro fe h2 dH σ2 aP en du dI ff hl cN;exact hk fe h2 dH σ2 aP (Nat.le_trans hn en) (fun i hi=>(du i (by omega)).trans (hr i hi)) dI ff (by rw[hl,Zj]) cN
  ·rename_i hw;rw[hw];refine⟨fun hh=>(by cases hh),fun _=>?_⟩;refine ih _ _ h rs σ hY hs (hE.put _ _) he ?_;intro fe h2 dH σ2 aP en du dI ff hl cN;exact hk fe h2 dH σ2 aP en du dI ff (by rw[hl,Zj]) cN
def CSims (rs:Kf) (n:Nat):List CH→List Heap→Prop
 |[],[]=>True
 |h::hs,σ::σs=>(CSim rs h σ∧h.n≤n)∧CSims rs n hs σs
 |_,_=>False
theorem CSims.mono {rs bn:Kf}{n n':Nat}(hn:n≤n') (hr:∀ i,i<n→bn i=rs i):∀ {hs:List CH}{σs:List Heap},CSims rs n hs σs→CSims bn n' hs σs
 |[],[],_=>trivial
 |h::hs,σ::σs,⟨⟨h1,h2⟩,h3⟩=>⟨⟨h1.rs fun i hi=>hr i (by omega),by omega⟩,CSims.mono hn hr h3⟩
 |[],_::_,h=>h.elim
 |_::_,[],h=>h.elim
theorem CSims.snoc {rs:Kf}{n:Nat}{h:CH}{σ:Heap}(hs:CSim rs h σ) (hn:h.n≤n):∀ {hl:List CH}{σl:List Heap},CSims rs n hl σl→CSims rs n (hl++[h]) (σl++[σ])
 |[],[],_=>⟨⟨hs,hn⟩,trivial⟩
 |_::_,_::_,⟨h1,h2⟩=>⟨h1,CSims.snoc hs hn h2⟩
 |[],_::_,h=>h.elim
 |_::_,[],h=>h.elim
theorem Mm {rs:Kf}{h:CH}{σ:Heap}(hs:CSim rs h σ) {op:VOp}{ev:Operand→Value}{v:Value}(hr:R_ op ev v h=true):Jk op ev v σ:=by
 unfold R_ at hr;split at hr
 ·rename_i q hq;obtain⟨_,σ',h2,_⟩:=WB hs hq;unfold Jk;rw[h2];exact Uk _ _ _ hr
 ·cases hr
def Az:List (Nat×(CH→Bool))→List (Nat×(Heap→Prop))→Prop
 |[],[]=>True
 |c::l,d::m=>(c.1=d.1∧∀ rs h σ,CSim rs h σ→c.2 h=true→d.2 σ)∧Az l m
 |_,_=>False
theorem Uy {rs:Kf}{h:CH}{σ:Heap}(hs:CSim rs h σ) {r:Nat}:∀ {l:List (Nat×(CH→Bool))}{m:List (Nat×(Heap→Prop))},Az l m→CI r h l=true→Ji r σ m
 |[],[],_,_=>trivial
 |c::l,d::m,⟨⟨h1,h2⟩,h3⟩,he=>by
  simp only[CI,Bool.and_eq_true,Bool.or_eq_true,Bool.not_eq_true'] at he;refine⟨fun hr=>h2 rs h σ hs ?_,Uy hs h3 he.2⟩;rcases he.1 with h|h
  ·rw[h1,Nat.ble_eq_true_of_le hr] at h;cases h
  ·exact h
 |[],_::_,h,_=>h.elim
 |_::_,[],h,_=>h.elim
theorem CSims.mem {rs:Kf}{n:Nat}:∀ {hl:List CH}{σl:List Heap},CSims rs n hl σl→∀ (f:CH→Bool) (Q:Heap→Prop),(∀ rs h σ,CSim rs h σ→f h=true→Q σ)→∀ j,(hl.drop j).all f=true→∀ τ∈σl.drop j,Q τ
 |[],[],_,_,_,_,_,_,τ,hτ=>by simp at hτ
 |h::hl,σ::σl,⟨h1,h2⟩,f,Q,hQ,0,ha,τ,hτ=>by
  simp only[List.drop_zero,List.all_cons,Bool.and_eq_true,List.mem_cons] at ha hτ;rcases hτ with rfl|hτ
  ·exact hQ rs h τ h1.1 ha.1
  ·exact CSims.mem h2 f Q hQ 0 (by simpa using ha.2) τ (by simpa using hτ)
 |h::hl,σ::σl,⟨h1,h2⟩,f,Q,hQ,j+1,ha,τ,hτ=>CSims.mem h2 f Q hQ j (by simpa using ha) τ (by simpa using hτ)
 |[],_::_,h,_,_,_,_,_,_,_=>h.elim
 |_::_,[],h,_,_,_,_,_,_,_=>h.elim
theorem CSims.length {rs:Kf}{n:Nat}:∀ {hl:List CH}{σl:List Heap},CSims rs n hl σl→hl.length=σl.length
 |[],[],_=>rfl
 |_::_,_::_,⟨_,h⟩=>by simp[CSims.length h]
 |[],_::_,h=>h.elim
 |_::_,[],h=>h.elim
theorem Mi (hm:P.follows .mixedOrders=true) (hT:TabOk P T) (cE:Sd P ev) (hG:Good R G) {ys:Ys}{k:ET→CH→A}{K:Env→Heap→Prop}:∀ (ops:List DOper) (et:ET) (env:Env) (hl:List CH) (h:CH) (pe:List (Nat×(CH→Bool))) (rs:Kf) (σl:List Heap) (σ:Heap) (pv:List (Nat×(Heap→Prop))),
  YOk P ys rs h.n→CSim rs h σ→FRel et env→CSims rs h.n hl σl→Az pe pv→G (VP T ev R ys ops et hl h pe k)→Ai G rs h (List.length env) k K→Zi (Q7 P) ops env σl σ pv K:=by
 intro ops;induction ops with
 |nil=>intro et env hl h pe rs σl σ pv hY hs hE kz hp he hk;exact hk et h rs σ env (Nat.le_refl _) (fun _ _=>rfl) hs hE rfl he
 |cons o rest ih =>
  intro et env hl h pe rs σl σ pv hY hs hE kz eC he hk;have ai:=MM hE;simp only[VP,Rp hE,ai] at he;simp only[Zi];have hlen:=kz.length;split at he
  ·exact(hG.fail he).elim
  ·rename_i hw;rw[hw];refine⟨fun _=>?_,fun hh=>by cases hh⟩;split at he
   ·rename_i au;rw[if_pos au];split at he
    ·rename_i p hp;split at he
     ·rename_i kA;obtain⟨mM,pC⟩:=kA;simp only[CH.newOk,Bool.and_eq_true,List.all_eq_true] at mM;obtain⟨n1,n2,n3⟩:=mM;have n1:h.n≤p.2.n:=Nat.le_of_ble_eq_true n1;have n2:p.2.n≤1000000000:=Nat.le_of_ble_eq_true n2;have kB:CSim rs p.2 (p.2.toHeap rs):=M0 (by omega);refine .inl ⟨p.1,p.2.toHeap rs,?_,?_,?_⟩
      ·refine BB hm hT cE (F3 p) hE hY hs hp ?_;intro v h' bn σ' hn hr a0 hg;have hg:(v,h')=p:=osj hg;subst hg;refine⟨rfl,?_⟩;have:CSim rs h' σ':=by
        refine⟨a0.n,a0.sm,fun i=>?_⟩;rw[a0.get];cases gk:h'.get i with
        |none=>rfl
        |some b =>
         rcases Nat.lt_or_ge i h.n with hi|hi
         ·rw[hr i hi]
         ·have aL:=a0.lt gk;have:=n3 i (List.mem_range'_1.2 ⟨hi,by simp at n1 ⊢;omega⟩);simp only[gk] at this;cases b<;>first|rfl|cases this
       exact this.eq
      ·rw[←hlen];exact Uy kB eC pC
      ·refine ih _ _ _ p.2 pe rs _ _ pv (hY.mono n1 (fun _ _=>rfl)) kB (hE.put _ _) ((kz.mono n1 (fun _ _=>rfl)).snoc kB (Nat.le_refl _)) eC he ?_;intro fe h2 dH σ2 aP en du dI ff ck cN;exact hk fe h2 dH σ2 aP (Nat.le_trans n1 en) (fun i hi=>du i (by omega)) dI ff (by rw[ck,Zj]) cN
     ·exact(hG.fail he).elim
    ·exact(hG.fail he).elim
   ·rename_i au;rw[if_neg au];have done:∀ (u:Value) (oi:List (Nat×(CH→Bool))) (om:List (Nat×(Heap→Prop))),Az oi om→G (VP T ev R ys rest (et.put o.dst u) hl h oi k)→Zi (Q7 P) rest (Jq env o.dst u) σl σ om K:=by
     intro u oi om bj hg;refine ih _ _ hl h oi rs σl σ om hY hs (hE.put _ _) kz bj hg ?_;intro fe h2 dH σ2 aP en du dI ff ck cN;exact hk fe h2 dH σ2 aP en du dI ff (by rw[ck,Zj]) cN
    split at he
    ·rename_i bb;rw[if_pos bb];split at he
     ·rename_i p hp;split at he
      ·rename_i hall;obtain⟨_,σ',h2,_⟩:=WB hs hp;rw[h2];refine⟨kz.mem _ _ (fun rs h σ hc hf=>Mm hc hf) _ hall,?_⟩;refine done _ _ _ ?_ he;rw[←hlen];split
       ·exact⟨⟨rfl,fun rs h σ hc hf=>Mm hc hf⟩,eC⟩
       ·exact eC
      ·exact(hG.fail he).elim
     ·exact(hG.fail he).elim
    ·rename_i bb;rw[if_neg bb];split at he
     ·rename_i p hp;obtain⟨_,σ',h2,_⟩:=WB hs hp;rw[h2];exact done _ _ _ eC he
     ·exact(hG.fail he).elim
  ·rename_i hw;rw[hw];refine⟨fun hh=>(by cases hh),fun _=>?_⟩;split at he
   ·rename_i au;rw[if_pos au];split at he
    ·rename_i pC;refine⟨by rw[←hlen];exact Uy hs eC pC,?_⟩;refine ih _ _ _ h pe rs _ σ pv hY hs (hE.put _ _) (kz.snoc hs (Nat.le_refl _)) eC he ?_;intro fe h2 dH σ2 aP en du dI ff ck cN;exact hk fe h2 dH σ2 aP en du dI ff (by rw[ck,Zj]) cN
    ·exact(hG.fail he).elim
   ·rename_i au;rw[if_neg au];refine ih _ _ _ h pe rs _ σ pv hY hs (hE.put _ _) kz eC he ?_;intro fe h2 dH σ2 aP en du dI ff ck cN;exact hk fe h2 dH σ2 aP en du dI ff (by rw[ck,Zj]) cN
theorem ET.list_eq {e:ET}{env:Env}(h:FRel e env):e.list=env:=by
 apply List.ext_getElem?;intro i;unfold ET.list;rw[List.getElem?_map];rcases Nat.lt_or_ge i e.m with hi|hi
 ·rw[List.getElem?_range hi];have:=h.get i;rw[h.m] at hi;rw[List.getD_eq_getElem?_getD,List.getElem?_eq_getElem hi] at this;rw[List.getElem?_eq_getElem hi,Option.map_some,←this];rfl
 ·rw[List.getElem?_eq_none (by simpa using hi),List.getElem?_eq_none (by rw[←h.m];exact hi)];rfl
theorem HQ {ρ:Plc}{n:Nat}{vs:Array Value}{cs:List Value}(h:VRel ρ n (.tuple vs) (.tuple cs.toArray)):LRel ρ n vs.toList cs:=by
 obtain⟨ds,he,hl⟩:=h.tuple_inv;have:cs.toArray=ds:=by injection he
 subst this;simpa using hl
theorem P0 (hm:P.follows .mixedOrders=true) (hT:TabOk P T) (cE:Sd P ev) {ys:Ys}{x:Value×CH}{vs:Array Value}(iN:x.1=.tuple vs) {K:Env→Heap→Prop}{et:ET}{env:Env}{h:CH}{rs:Kf}{σ:Heap}(hY:YOk P ys rs h.n) (hs:CSim rs h σ) (hE:FRel et env)
  (hk:K vs.toList (x.2.toHeap rs)):∀ (alts:List (List DOper)),Sq x (Rr T ev ys et h alts)→∀ ops∈alts,Zi (Q7 P) ops env [σ] σ [] fun bk σ1=>∃ aP σ2,DropE σ bk σ1 aP σ2∧K aP σ2:=by
 have one:∀ a:List DOper,Sq x (F6 T ev ys et h a)→Zi (Q7 P) a env [σ] σ [] fun bk σ1=>∃ aP σ2,DropE σ bk σ1 aP σ2∧K aP σ2:=by intro a ha;refine Mi hm hT cE (HE x) a et env [h] h [] rs [σ] σ [] hY hs hE ⟨⟨hs,Nat.le_refl _⟩,trivial⟩ trivial ha ?_;intro dk h' bn σ' af hn hr a0 bL hl hg;obtain⟨y,hy,h1,h2,h3⟩:=hg;unfold Ow at hy;have hd:=Mp hs a0 hr hy h1 h2 h3;rw[ET.list_eq bL,iN] at hd;refine⟨vs.toList,x.2.toHeap rs,?_,hk⟩;intro ρ0 w0 ρ w cs ft pa hH hL;obtain⟨ρ',d1,d2,d3⟩:=hd ρ0 w0 ρ w (.tuple cs.toArray) ft pa hH (VRel.tuple_of hL);exact⟨ρ',HQ d1,d2,d3⟩
 intro alts;induction alts with
 |nil=>rintro⟨y,hy,_⟩;cases hy
 |cons a l ih =>
  intro he ops ho;cases l with
  |nil =>obtain rfl:=List.mem_singleton.1 ho;exact one _ he
  |cons b r =>
   obtain⟨g1,g2⟩:=(HE x).both _ _ he;rcases List.mem_cons.1 ho with rfl|ho
   ·exact one _ g1
   ·exact ih g2 ops ho
theorem PQ (hm:P.follows .mixedOrders=true) (hT:TabOk P T) (cE:Sd P ev) (hG:Good R G) {ys:Ys}{k:ET→CH→A}{K:Env→Heap→Prop}:∀ (aN:List DSeg) (et:ET) (env:Env) (h:CH) (rs:Kf) (σ:Heap),
  YOk P ys rs h.n→CSim rs h σ→FRel et env→G (D7 T ev R ys aN et h k)→Ai G rs h (List.length env) k K→VB (Q7 P) aN env σ K:=by
 intro aN;induction aN with
 |nil=>intro et env h rs σ hY hs hE he hk;exact hk et h rs σ env (Nat.le_refl _) (fun _ _=>rfl) hs hE rfl he
 |cons x rest ih =>
  intro et env h rs σ hY hs hE he hk;have next:Ai G rs h (List.length env) (fun et h=>D7 T ev R ys rest et h k) (fun env σ=>VB (Q7 P) rest env σ K):=by intro jD h1 eQ σ1 bk fJ fb ig eZ dZ hg1;refine ih jD bk h1 eQ σ1 (hY.mono fJ fb) ig eZ hg1 ?_;intro fe h2 dH σ2 aP en du dI ff ck cN;exact hk fe h2 dH σ2 aP (Nat.le_trans fJ en) (fun i hi=>(du i (by omega)).trans (fb i hi)) dI ff (ck.trans dZ) cN
  cases x with
  |one o=>exact GR hm hT cE hG [o] et env h rs σ hY hs hE he next
  |alts l =>
   have many:G (match Rr T ev ys et h l with
     |some x=>(match x.1 with
      |.tuple vs=>if x.2.room=true∧Nat.ble h.n x.2.n=true∧vs.toList.length=et.m then D7 T ev R ys rest (ET.of vs.toList 0) x.2 k else R.fail
      |_=>R.fail)
     |none=>R.fail)→VB (Q7 P) (.alts l::rest) env σ K:=by
    intro he;split at he
    ·rename_i x hx;split at he
     ·rename_i vs iN;split at he
      ·rename_i hc;obtain⟨c1,c2,c3⟩:=hc;have aU:x.2.n≤1000000000:=Nat.le_of_ble_eq_true c1;have tk:FRel (ET.of vs.toList 0) vs.toList:=by
        have:=ET.of_rel (args:=vs.toList) (nt:=0) (by show vs.toList.length+(0-vs.toList.length)≤_;have:=hE.sm;omega);simpa using this
       exact P0 hm hT cE iN hY hs hE (next _ x.2 rs _ _ (Nat.le_of_ble_eq_true c2) (fun _ _=>rfl) (M0 (by omega)) tk (by rw[c3,hE.m]) he) l ⟨x,hx,rfl,rfl,fun _=>rfl⟩
      ·exact(hG.fail he).elim
     ·exact(hG.fail he).elim
    ·exact(hG.fail he).elim
   match l,he with
   |[],he=>exact many he
   |[a],he =>intro ops ho;obtain rfl:=List.mem_singleton.1 ho;refine Mi hm hT cE hG ops et env [h] h [] rs [σ] σ [] hY hs hE ⟨⟨hs,Nat.le_refl _⟩,trivial⟩ trivial he ?_;intro dk h' bn σ' af hn hr a0 bL hl hg;exact⟨af,σ',.refl _ _ _,next dk h' bn σ' af hn hr a0 bL hl hg⟩
   |a::b::r,he=>exact many he
def H_ (P:Program) (T:Tab) (ev:FK) (c:VCode):Prop:=∀ {A:Type}(R:AnsOps A) (G:A→Prop),Good R G→∀ (ys:Ys) (ro:Option Nat) (et:ET) (env:Env) (h:CH) (k:Exit→ET→CH→A) (rs:Kf) (σ:Heap) (Q:Exit→Env→Heap→Prop),
 YOk P ys rs h.n→CSim rs h σ→FRel et env→G (Tf T ev R ys c ro et h k)→Ag G rs h (List.length env) k Q→vwp (Q7 P) c ro Q env σ
theorem Tj (hm:P.follows .mixedOrders=true) (hT:TabOk P T) (cE:Sd P ev) (hG:Good R G) {ys:Ys}{g:Operand}{ps:List Nat}{a b:VCode}{ro:Option Nat}{et:ET}{env:Env}{h:CH}{k:Exit→ET→CH→A}{rs:Kf}{σ:Heap}{Q:Exit→Env→Heap→Prop}
  (hY:YOk P ys rs h.n) (hs:CSim rs h σ) (hE:FRel et env) (he:G (Lx T ev R ys (U5 et g) ps a b ro et h k)) (hk:Ag G rs h (List.length env) k Q):vwp (Q7 P) (.rangeF g ps a b) ro Q env σ:=by
 rw[MM hE] at he;unfold Lx at he;simp only[vwp,T9];split at he
 ·rename_i f first cap hg
  simp only[hg];split at he
  ·rename_i vc rl nt hf;have hF:=hT.code f vc rl nt hf;split at he
   ·rename_i kA;obtain⟨aL,aU⟩:=kA;have fN:(Q7 P).it f=some fun i Y args σ K=>WL P i Y→VCallsTo P f args σ K:=by
     simp only[Q7];rw[if_pos hF.enterable]
    rw[fN];refine⟨?_,fun r tl=>?_⟩
    ·cases ro with
     |none=>trivial
     |some i =>
      simp only[Ex] at aL;split at aL
      ·rename_i st pend gk;exact⟨_,_,_,_,hs.lp gk⟩
      ·cases aL
    ·let eQ:Kf:=fun i=>if i=h.n then (env,r) else rs i
     have eA:∀ i,i<h.n→eQ i=rs i:=fun i hi=>by simp only[eQ];rw[if_neg (by omega)]
     have ig:CSim eQ (h.push (.lp .ready none)) (σ.push (.obj (.lp env r .ready none) true)) :=
      (hs.rs eA).push aU (by simp[EB.to,eQ])
     have tm:YOk P ((h.n,⟨ps,a,b,et⟩)::ys) eQ (h.push (.lp .ready none)).n:=by
      intro i c hc;simp only[Ys.find] at hc;split at hc
      ·rename_i dU;have dU:=Nat.eq_of_beq_eq_true dU;subst dU;obtain rfl:=osj hc;refine⟨Nat.lt_succ_self _,by simp only[eQ,if_true];exact hE,?_⟩;rw[hs.n] at *
       simpa [eQ,hs.n] using tl
      ·obtain⟨h1,h2,h3⟩:=hY i c hc;rw[eA i h1];exact⟨Nat.lt_succ_of_lt h1,h2,h3⟩
     rw[←hs.n];refine HJ hm cE hG hf hF tm ig he ?_;intro v h' bn σ' hn hr a0 dm;have lx:h.n+1≤h'.n:=hn;unfold Q07 at dm;unfold AZ;split at dm
     ·rename_i st pend gk;have hi:=a0.lt gk;simp only[a0.lp gk];split at dm
      ·rename_i cq;refine⟨(by rintro rfl;cases cq),?_⟩;have dB:∀ j,j<h.n→bn j=rs j:=fun j hj=>(hr j (Nat.lt_succ_of_lt hj)).trans (eA j hj);have aZ:=a0.kill hi;split at dm
       ·exact hk _ _ _ bn _ _ (by show h.n≤h'.n;omega) dB aZ hE rfl dm
       ·exact hk _ _ _ bn _ _ (by show h.n≤h'.n;omega) dB aZ hE rfl dm
       ·exact hk _ _ _ bn _ _ (by show h.n≤h'.n;omega) dB aZ hE rfl dm
       ·exact(hG.fail dm).elim
      ·exact(hG.fail dm).elim
     ·exact(hG.fail dm).elim
   ·exact(hG.fail he).elim
  ·exact(hG.fail he).elim
 ·exact(hG.fail he).elim
theorem Te (hm:P.follows .mixedOrders=true) (hT:TabOk P T) (cE:Sd P ev)
  (mN:∀ b,H_ P T ev b→H_ P T ev (.loop b)):∀ (c:VCode),H_ P T ev c:=by
 intro c;induction c with
 |skip=>intro A R G hG ys ro et env h k rs σ Q hY hs hE he hk;exact hk _ _ _ rs σ _ (Nat.le_refl _) (fun _ _=>rfl) hs hE rfl he
 |region ops =>intro A R G hG ys ro et env h k rs σ Q hY hs hE he hk;exact GR hm hT cE hG ops et env h rs σ hY hs hE he fun dk h' bn σ' af h1 h2 h3 h4 h5 h6=>hk _ _ _ _ _ _ h1 h2 h3 h4 h5 h6
 |regionD aN =>intro A R G hG ys ro et env h k rs σ Q hY hs hE he hk;exact PQ hm hT cE hG aN et env h rs σ hY hs hE he fun dk h' bn σ' af h1 h2 h3 h4 h5 h6=>hk _ _ _ _ _ _ h1 h2 h3 h4 h5 h6
 |rangeF g ps a b er dG =>intro A R G hG ys ro et env h k rs σ Q hY hs hE he hk;exact Tj hm hT cE hG hY hs hE he hk
 |seq a b er dG =>
  intro A R G hG ys ro et env h k rs σ Q hY hs hE he hk;simp only[vwp];refine er R G hG ys ro et env h _ rs σ _ hY hs hE he ?_;intro e dk h' bn σ' af hn hr a0 bL hl hg;cases e with
  |normal =>refine dG R G hG ys ro dk af h' k bn σ' Q (hY.mono hn hr) a0 bL hg ?_;intro e2 fe h2 dH σ2 aP en du dI ff ck cN;exact hk e2 fe h2 dH σ2 aP (Nat.le_trans hn en) (fun i hi=>(du i (by omega)).trans (hr i hi)) dI ff (ck.trans hl) cN
  |_=>exact hk _ dk h' bn σ' af hn hr a0 bL hl hg
 |cond c a b er dG =>
  intro A R G hG ys ro et env h k rs σ Q hY hs hE he hk;have he:G (Fk R (U5 et c) (Tf T ev R ys a ro et h k) (Tf T ev R ys b ro et h k)):=he;rw[MM hE] at he;unfold Fk at he;simp only[vwp];split at he
  ·rename_i hc;rw[hc];exact⟨fun _=>er R G hG ys ro et env h k rs σ Q hY hs hE he hk,fun hh=>by cases hh⟩
  ·rename_i hc;rw[hc];exact⟨fun hh=>(by cases hh),fun _=>dG R G hG ys ro et env h k rs σ Q hY hs hE he hk⟩
  ·exact(hG.fail he).elim
 |block id b ih =>
  intro A R G hG ys ro et env h k rs σ Q hY hs hE he hk;simp only[vwp];refine ih R G hG ys ro et env h _ rs σ _ hY hs hE he ?_;intro e dk h' bn σ' af hn hr a0 bL hl hg;cases e with
  |exit gu =>
   simp only[LY] at hg;simp only[T6];split at hg
   ·rename_i bg;rw[if_pos bg];exact hk _ dk h' bn σ' af hn hr a0 bL hl hg
   ·rename_i bg;rw[if_neg bg];exact hk _ dk h' bn σ' af hn hr a0 bL hl hg
  |_=>exact hk _ dk h' bn σ' af hn hr a0 bL hl hg
 |loop b ih =>intro A R G hG ys ro et env h k rs σ Q hY hs hE he hk;exact mN b ih R G hG ys ro et env h k rs σ Q hY hs hE he hk
 |exit id=>intro A R G hG ys ro et env h k rs σ Q hY hs hE he hk;exact hk _ _ _ rs σ _ (Nat.le_refl _) (fun _ _=>rfl) hs hE rfl he
 |ret=>intro A R G hG ys ro et env h k rs σ Q hY hs hE he hk;exact hk _ _ _ rs σ _ (Nat.le_refl _) (fun _ _=>rfl) hs hE rfl he
 |bad=>intro A R G hG ys ro et env h k rs σ Q hY hs hE he hk;exact(hG.fail he).elim
theorem Ba {v:Value}(h:Sw v=true):QK v=true∨∃ vs,v=.tuple vs∧vs.toList.all QK=true:=by unfold Sw at h;split at h<;>first|exact .inl rfl|exact .inr ⟨_,rfl,h⟩|cases h
theorem Aq {ρ:Plc}{n:Nat}{v c:Value}(h:Sw v=true) (hv:VRel ρ n v c):c=v:=by
 rcases Ba h with hp|⟨vs,rfl,hall⟩
 ·exact Y2 hp hv
 ·obtain⟨ds,rfl,hl⟩:=hv.tuple_inv;have hall:∀ x∈vs.toList,QK x=true:=List.all_eq_true.1 hall;have:ds.toList=vs.toList:=by
   apply List.ext_getElem?;intro i;rcases Nat.lt_or_ge i vs.toList.length with hi|hi
   ·have cn:i<ds.toList.length:=by rw[←hl.1];exact hi
    rw[List.getElem?_eq_getElem hi,List.getElem?_eq_getElem cn];rw[Y2 (hall _ (List.getElem_mem hi)) (hl.2 i _ _ (List.getElem?_eq_getElem hi) (List.getElem?_eq_getElem cn))]
   ·rw[List.getElem?_eq_none hi,List.getElem?_eq_none (by rw[←hl.1];exact hi)]
  rw[Be this]
theorem Lw {ρ:Plc}{n:Nat}{v:Value}(h:Sw v=true):VRel ρ n v v:=by
 rcases Ba h with hp|⟨vs,rfl,hall⟩
 ·exact J_ hp
 ·exact .tuple _ _ rfl fun i h1 _=>J_ (List.all_eq_true.1 hall _ (by simp))
theorem Ny (m:Nat) (env:Env) (h:List.length env=m):N6 (List.range m) env=env:=by
 apply List.ext_getElem?;intro i;simp only[N6,List.getElem?_map];rcases Nat.lt_or_ge i m with hi|hi
 ·rw[List.getElem?_range hi];simp[List.getD_eq_getElem?_getD,h,hi]
 ·rw[List.getElem?_eq_none (by simpa using hi),List.getElem?_eq_none (by omega)];rfl
theorem BJ:∀ (l:List Nat) (vs base:List Value) (i:Nat),l.Nodup→vs.length=l.length→(∀ x∈l,x<base.length)→(Jv l vs base)[i]?=if i∈l then vs[l.idxOf i]? else base[i]?
 |[],[],base,i,_,_,_=>by simp[Jv]
 |[],_::_,_,_,_,h,_=>by simp at h
 |_::_,[],_,_,_,h,_=>by simp at h
 |x::l,v::vs,base,i,hn,h,hb=>by
  obtain⟨h1,h2⟩:=List.nodup_cons.1 hn;simp only[Jv];rw[BJ l vs _ i h2 (by simpa using h) (fun y hy=>by rw[List.length_set];exact hb y (by simp[hy]))];by_cases lD:i=x
  ·subst lD;rw[if_neg h1,if_pos (by simp),List.getElem?_set_self (hb i (by simp))];simp
  ·by_cases gB:i∈l
   ·have e:(x::l).idxOf i=l.idxOf i+1:=by rw[List.idxOf_cons,show (x==i)=false from by simpa using Ne.symm lD];rfl
    rw[if_pos gB,if_pos (by simp[gB]),e];rfl
   ·rw[if_neg gB,if_neg (by simp[lD,gB]),List.getElem?_set_ne (Ne.symm lD)]
theorem Pc (m:Nat) (vs:List Value) (h:vs.length=m):Jv (List.range m) vs (List.replicate m poison)=vs:=by
 apply List.ext_getElem?;intro i;rw[BJ _ _ _ _ List.nodup_range (by simpa using h) (fun x hx=>by simpa using hx)];split
 ·rename_i hi;have hi:=List.mem_range.1 hi;have:(List.range m).idxOf i=i:=by
   have h1:(List.range m).idxOf i<(List.range m).length:=List.idxOf_lt_length_of_mem (List.mem_range.2 hi);have h2:=List.getElem_idxOf h1;rw[List.getElem_range] at h2;exact h2
  rw[this]
 ·rename_i hi;have hi:m≤i:=by simpa using hi
  rw[List.getElem?_eq_none (by simpa using hi),List.getElem?_eq_none (by omega)]
theorem La (hm:P.follows .mixedOrders=true) (hT:TabOk P T):∀ (n:Nat) (c:VCode),H_ P T (Ho T n) c:=by
 intro n;induction n using Nat.strongRecOn with
 |ind n og =>
  have cE:Sd P (Ho T n):=by
   cases n with
   |zero=>intro A R G hG ys c ro et env h k rs σ Q hY hs hE he hk;exact(hG.fail he).elim
   |succ n=>intro A R G hG ys c ro et env h k rs σ Q hY hs hE he hk;exact og n (Nat.lt_succ_self _) c R G hG ys ro et env h k rs σ Q hY hs hE he hk
  refine Te hm hT cE fun b dG=>?_;intro A R G hG ys ro et env h k rs σ Q hY hs hE he hk;have mO:∀ j,j≤n→H_ P T (Ho T j) b:=fun j hj=>by
   rcases Nat.lt_or_ge j n with h'|h'
   ·exact og j h' b
   ·obtain rfl:j=n:=by omega
    exact dG
  simp only[vwp];refine⟨List.range (List.length env),fun j vs σ1=>j≤n∧∃ jD h1 eQ,h.n≤h1.n∧(∀ i,i<h.n→eQ i=rs i)∧CSim eQ h1 σ1∧FRel jD vs∧List.length vs=List.length env∧G (Tf T (Ho T j) R ys (.loop b) ro jD h1 k),n,?_,?_⟩
  ·rw[Ny _ _ rfl];exact⟨Nat.le_refl _,et,h,rs,Nat.le_refl _,fun _ _=>rfl,hs,hE,rfl,he⟩
  ·rintro j vs σ1 ⟨hj,jD,h1,eQ,g1,g2,g3,gE,g4,g5⟩;rw[Pc _ _ g4];refine mO j hj R G hG ys ro jD vs h1 _ eQ σ1 _ (hY.mono g1 g2) g3 gE g5 ?_;intro e dk h' bn σ' af hn hr a0 bL hl hg;cases e with
   |normal =>
    cases j with
    |zero=>exact(hG.fail hg).elim
    |succ j =>
     refine⟨j,Nat.lt_succ_self _,by omega,dk,h',bn,Nat.le_trans g1 hn,fun i hi=>(hr i (by omega)).trans (g2 i hi),a0,?_,?_,?_⟩
     ·rw[Ny _ _ (hl.trans g4)];exact bL
     ·rw[Ny _ _ (hl.trans g4)];exact hl.trans g4
     ·exact hg
   |_=>exact hk _ dk h' bn σ' af (Nat.le_trans g1 hn) (fun i hi=>(hr i (by omega)).trans (g2 i hi)) a0 bL (hl.trans g4) hg
theorem Rf (hm:P.follows .mixedOrders=true) (hT:TabOk P T) (n:Nat):Sd P (Ho T n):=by
 cases n with
 |zero=>intro A R G hG ys c ro et env h k rs σ Q hY hs hE he hk;exact(hG.fail he).elim
 |succ n=>intro A R G hG ys c ro et env h k rs σ Q hY hs hE he hk;exact La hm hT n c R G hG ys ro et env h k rs σ Q hY hs hE he hk
theorem HRel.forget {ρ:Plc}{σ:Heap}{w:World}(hH:HRel ρ σ w):HRel (fun _=>none) Heap.empty w :=
 ⟨⟨fun i b h=>(by cases h),fun _ _=>rfl,fun i p h=>(by cases h),fun i j p q b _ h=>(by cases h)⟩,fun g cs hg=>⟨(hH.tab g cs hg).1,fun ⟨_,_,_,h,_⟩=>by cases h⟩⟩
theorem Ti {f:FuncId}{args:List Value}(ha:args.all QK=true) {v:Value}(hv:Sw v=true) (he:Jy P f) (h0:VCallsTo P f args Heap.empty (fun u _=>u=v)) {σ:Heap}{K:Value→Heap→Prop}(hK:K v σ):VCalled P f args σ K:=by
 refine VCallsTo.called he ?_;intro ρ w aw hH hL;refine (h0 (fun _=>none) w aw hH.forget ?_).mono ?_
 ·refine⟨hL.1,fun i a c jc hc=>?_⟩;have hp:=List.all_eq_true.1 ha a (List.mem_of_getElem? jc);have:=Y2 hp (hL.2 i a c jc hc);subst this;exact J_ hp
 ·rintro e w' ⟨c,rfl,u,ρ',σ',rfl,dM,fM,hE⟩;refine⟨c,rfl,u,ρ,σ,hK,?_,?_,?_⟩
  ·have:c=u:=Aq hv dM;subst this;exact Lw hv
  ·exact hH.world hE.size (fun i p hp=>hE.keep _ (hH.lt i p hp) (fun ⟨_,_,_,h,_⟩=>by cases h)) fun g cs hg=>hE.keep _ (hH.tab.lt hg) (fun ⟨_,_,_,h,_⟩=>by cases h)
  ·exact⟨hE.os,hE.tape,hE.output,hE.size,fun B hB _=>hE.keep B hB (fun ⟨_,_,_,h,_⟩=>by cases h),fun _ _ h=>h,Nat.le_refl _,fun _ _ _ h=>h⟩
theorem Aa (hm:P.follows .mixedOrders=true) (hT:TabOk P T) (n:Nat) {f:FuncId}{vc:VCode}{rl:List VResult}{nt:Nat}(hF:Fun P f vc rl nt) (args:List Value) (ha:args.all QK=true) (v:Value) (hv:Sw v=true) (p:Value→Bool) (hp:∀ u,p u=true→u=v)
  (dD:Nat.ble (ET.of args nt).m 1000000=true) (he:Ho T n YL [] vc none (ET.of args nt) CH.empty (EC false rl fun v _=>p v)=true) {σ:Heap}{K:Value→Heap→Prop}(hK:K v σ):VCalled P f args σ K:=by
 refine Ti ha hv hF.enterable ?_ hK;refine hF.callsTo hm Pj ?_
 exact Rf hm hT n YL (·=true) Rw [] vc none _ _ CH.empty _ (fun _=>([],default)) Heap.empty _ (fun i c h=>by cases h) ⟨rfl,by decide,fun i=>rfl⟩ (ET.of_rel (Nat.le_of_ble_eq_true dD)) he
  (Vp (R:=YL) Rw fun v' h' bn σ' _ _ _ hg=>hp v' hg)
end
end Go.V
namespace Go.V
open Go
def AA (P:Program) (f:FuncId):Option FEnt→Prop
 |none=>True
 |some (.code vc rs nt)=>Fun P f vc rs nt
 |some (.codeJ vc rs nt)=>Fun P f vc rs nt
 |some (.codeM vc rs nt ms)=>Fun P f vc rs nt∧∀ m∈ms,LS P f m
 |some .same=>∀ (v:Value) (σ:Heap) (K:Value→Heap→Prop),K v σ→VCalled P f [v] σ K
def EntsOk (P:Program):Nat→List (Option FEnt)→Prop
 |_,[]=>True
 |i,e::l=>AA P i e∧EntsOk P (i+1) l
theorem EntsOk.get {P:Program}:∀ {l:List (Option FEnt)}{i j:Nat}{e:FEnt},EntsOk P i l→l[j]?=some (some e)→AA P (i+j) (some e)
 |[],_,_,_,_,h=>by simp at h
 |x::l,i,0,e,h,hj=>by simp at hj;subst hj;exact h.1
 |x::l,i,j+1,e,h,hj=>by have:=EntsOk.get (l:=l) (i:=i+1) (j:=j) h.2 (by simpa using hj);rw[Nat.add_assoc,Nat.add_comm 1 j] at this;exact this
theorem E6 {P:Program}{l:List (Option FEnt)}(h:EntsOk P 0 l):TabOk P (fun f=>(l[f]?).join):=by
 have key:∀ f e,(l[f]?).join=some e→AA P f (some e):=fun f e he=>by
  have:=EntsOk.get (j:=f) (e:=e) h (by
   cases hl:l[f]? with
   |none=>rw[hl] at he;cases he
   |some x=>rw[hl] at he;simp at he;rw[he])
  simpa using this
 exact⟨fun f vc rs nt he=>key f _ he,fun f vc rs nt he=>key f _ he,fun f vc rs nt ms he=>key f _ he,fun f he=>key f _ he⟩
theorem E0 {P:Program}{f:FuncId}{fn:Func}{e:Array Value→Sem Value}(hf:P.funcs[f]?=some fn) (h1:(fn.name=="runtime.NumGoroutine")=false) (h2:fn.body.isNone=true) (h3:Extern.findNext fn=none) (h4:Extern.find fn=some e) (h5:∀ (c:Value) w,(e #[c]).run P w=.ok c w)
  (v:Value) (σ:Heap) (K:Value→Heap→Prop) (hK:K v σ):VCalled P f [v] σ K:=by
 intro ρ w aw hH hL;obtain⟨c,hc⟩:∃ c,aw=#[c]:=by
  have hl:=hL.1
  match aw,hl with
  |⟨[c]⟩,_=>exact⟨c,rfl⟩
 subst hc;refine .inr ⟨c,⟨v,ρ,σ,hK,hL.2 0 v c rfl rfl,hH,Ext.refl _ _ _⟩,fun w' _=>?_⟩;have gi:fn.body=none:=by simpa using h2
 have gh:¬ fn.name="runtime.NumGoroutine":=by simpa using h1
 simp[callFunc,hf,gh,gi,h3,h4,h5]
def isTrue:Value→Bool
 |.bool true=>true
 |_=>false
theorem Cm {v:Value}(h:isTrue v=true):v=.bool true:=by
 unfold isTrue at h;split at h
 ·rfl
 ·cases h
theorem RT {P:Program}(hm:P.follows .mixedOrders=true) {T:Tab}(hT:TabOk P T) (n:Nat) {f:FuncId}{vc:VCode}{rl:List VResult}{nt:Nat}(hF:Fun P f vc rl nt) (dD:Nat.ble (ET.of [] nt).m 1000000=true)
  (he:Ho T n YL [] vc none (ET.of [] nt) CH.empty (EC false rl fun v _=>isTrue v)=true) {σ:Heap}{K:Value→Heap→Prop}(hK:K (.bool true) σ):VCalled P f [] σ K :=
 Aa hm hT n hF [] rfl (.bool true) rfl isTrue (fun _ h=>Cm h) dD he hK
end Go.V
namespace Go.Proofs.Tryz
open Go Go.V Go.Proofs
theorem mixed:Tryz.prog.follows .mixedOrders=true:=by kernel_rfl
noncomputable def cof (fn:Func):VCode:=match fn.body.bind (comp Tryz.prog) with|some c=>c|none=>.bad
theorem Q6 {fn:Func}(h:(fn.body.bind (comp Tryz.prog)).isSome=true):fn.body.bind (comp Tryz.prog)=some (cof fn):=by
 unfold cof;cases h2:fn.body.bind (comp Tryz.prog) with
 |none=>rw[h2] at h;cases h
 |some c=>rfl
noncomputable def c2:VCode:=cof Tryz.f2
theorem Q66:Fun Tryz.prog 2 c2 [] 1:=⟨Tryz.f2,Tryz.func2,Q6 (by kernel_rfl),by kernel_rfl,rfl,rfl⟩
noncomputable def c3:VCode:=cof Tryz.f3
theorem Q5z:Fun Tryz.prog 3 c3 [.tmp 2] 184:=⟨Tryz.f3,Tryz.func3,Q6 (by kernel_rfl),by kernel_rfl,rfl,rfl⟩
noncomputable def c4:VCode:=cof Tryz.f4
theorem Q69:Fun Tryz.prog 4 c4 [.tmp 4] 268:=⟨Tryz.f4,Tryz.func4,Q6 (by kernel_rfl),by kernel_rfl,rfl,rfl⟩
noncomputable def c5:VCode:=cof Tryz.f5
theorem fun5:Fun Tryz.prog 5 c5 [.tmp 4] 203:=⟨Tryz.f5,Tryz.func5,Q6 (by kernel_rfl),by kernel_rfl,rfl,rfl⟩
noncomputable def c6:VCode:=cof Tryz.f6
theorem Q65:Fun Tryz.prog 6 c6 [.tmp 2,.tmp 3] 54:=⟨Tryz.f6,Tryz.func6,Q6 (by kernel_rfl),by kernel_rfl,rfl,rfl⟩
noncomputable def c7:VCode:=cof Tryz.f7
theorem Q60:Fun Tryz.prog 7 c7 [.tmp 4,.tmp 5] 15:=⟨Tryz.f7,Tryz.func7,Q6 (by kernel_rfl),by kernel_rfl,rfl,rfl⟩
noncomputable def c8:VCode:=cof Tryz.f8
theorem Q68:Fun Tryz.prog 8 c8 [.tmp 2] 6:=⟨Tryz.f8,Tryz.func8,Q6 (by kernel_rfl),by kernel_rfl,rfl,rfl⟩
noncomputable def c9:VCode:=cof Tryz.f9
theorem Q6d:Fun Tryz.prog 9 c9 [.tmp 2,.tmp 3] 40:=⟨Tryz.f9,Tryz.func9,Q6 (by kernel_rfl),by kernel_rfl,rfl,rfl⟩
noncomputable def c10:VCode:=cof Tryz.f10
theorem Ip:Fun Tryz.prog 10 c10 [.tmp 2] 6:=⟨Tryz.f10,Tryz.func10,Q6 (by kernel_rfl),by kernel_rfl,rfl,rfl⟩
noncomputable def c11:VCode:=cof Tryz.f11
theorem Q15:Fun Tryz.prog 11 c11 [.tmp 2,.tmp 3] 52:=⟨Tryz.f11,Tryz.func11,Q6 (by kernel_rfl),by kernel_rfl,rfl,rfl⟩
noncomputable def c12:VCode:=cof Tryz.f12
theorem Q33:Fun Tryz.prog 12 c12 [.tmp 2,.tmp 3] 55:=⟨Tryz.f12,Tryz.func12,Q6 (by kernel_rfl),by kernel_rfl,rfl,rfl⟩
noncomputable def c13:VCode:=cof Tryz.f13
theorem Q1g:Fun Tryz.prog 13 c13 [.tmp 2,.tmp 3] 75:=⟨Tryz.f13,Tryz.func13,Q6 (by kernel_rfl),by kernel_rfl,rfl,rfl⟩
noncomputable def c14:VCode:=cof Tryz.f14
theorem Ot:Fun Tryz.prog 14 c14 [.tmp 0] 42:=⟨Tryz.f14,Tryz.func14,Q6 (by kernel_rfl),by kernel_rfl,rfl,rfl⟩
noncomputable def c15:VCode:=cof Tryz.f15
theorem Q34:Fun Tryz.prog 15 c15 [.tmp 0] 42:=⟨Tryz.f15,Tryz.func15,Q6 (by kernel_rfl),by kernel_rfl,rfl,rfl⟩
noncomputable def c16:VCode:=cof Tryz.f16
theorem Q0j:Fun Tryz.prog 16 c16 [.cell 2 true 2] 51:=⟨Tryz.f16,Tryz.func16,Q6 (by kernel_rfl),by kernel_rfl,rfl,rfl⟩
noncomputable def c17:VCode:=cof Tryz.f17
theorem Q1k:Fun Tryz.prog 17 c17 [.cell 2 true 2,.tmp 3] 18:=⟨Tryz.f17,Tryz.func17,Q6 (by kernel_rfl),by kernel_rfl,rfl,rfl⟩
noncomputable def c18:VCode:=cof Tryz.f18
theorem Ih:Fun Tryz.prog 18 c18 [.cell 2 true 2] 9:=⟨Tryz.f18,Tryz.func18,Q6 (by kernel_rfl),by kernel_rfl,rfl,rfl⟩
noncomputable def c19:VCode:=cof Tryz.f19
theorem Q1f:Fun Tryz.prog 19 c19 [.tmp 4,.tmp 5,.tmp 6,.tmp 7] 58:=⟨Tryz.f19,Tryz.func19,Q6 (by kernel_rfl),by kernel_rfl,rfl,rfl⟩
noncomputable def c20:VCode:=cof Tryz.f20
theorem Q18:Fun Tryz.prog 20 c20 [.tmp 6,.tmp 7,.tmp 8] 61:=⟨Tryz.f20,Tryz.func20,Q6 (by kernel_rfl),by kernel_rfl,rfl,rfl⟩
noncomputable def c21:VCode:=cof Tryz.f21
theorem Q3e:Fun Tryz.prog 21 c21 [.tmp 6,.tmp 7] 29:=⟨Tryz.f21,Tryz.func21,Q6 (by kernel_rfl),by kernel_rfl,rfl,rfl⟩
noncomputable def c22:VCode:=cof Tryz.f22
theorem Q2q:Fun Tryz.prog 22 c22 [.tmp 0] 29:=⟨Tryz.f22,Tryz.func22,Q6 (by kernel_rfl),by kernel_rfl,rfl,rfl⟩
noncomputable def c23:VCode:=cof Tryz.f23
theorem Q1l:Fun Tryz.prog 23 c23 [.cell 4 true 2,.tmp 5] 52:=⟨Tryz.f23,Tryz.func23,Q6 (by kernel_rfl),by kernel_rfl,rfl,rfl⟩
noncomputable def c24:VCode:=cof Tryz.f24
theorem IF:Fun Tryz.prog 24 c24 [.cell 2 true 2] 48:=⟨Tryz.f24,Tryz.func24,Q6 (by kernel_rfl),by kernel_rfl,rfl,rfl⟩
noncomputable def c25:VCode:=cof Tryz.f25
theorem IS:Fun Tryz.prog 25 c25 [.tmp 4,.tmp 5] 43:=⟨Tryz.f25,Tryz.func25,Q6 (by kernel_rfl),by kernel_rfl,rfl,rfl⟩
noncomputable def c26:VCode:=cof Tryz.f26
theorem Oq:Fun Tryz.prog 26 c26 [.cell 2 true 2] 9:=⟨Tryz.f26,Tryz.func26,Q6 (by kernel_rfl),by kernel_rfl,rfl,rfl⟩
noncomputable def c27:VCode:=cof Tryz.f27
theorem Ib:Fun Tryz.prog 27 c27 [.cell 6 true 2,.tmp 7,.tmp 8] 37:=⟨Tryz.f27,Tryz.func27,Q6 (by kernel_rfl),by kernel_rfl,rfl,rfl⟩
noncomputable def c28:VCode:=cof Tryz.f28
theorem Iz:Fun Tryz.prog 28 c28 [.cell 4 true 2] 8:=⟨Tryz.f28,Tryz.func28,Q6 (by kernel_rfl),by kernel_rfl,rfl,rfl⟩
noncomputable def c29:VCode:=cof Tryz.f29
theorem O1:Fun Tryz.prog 29 c29 [.cell 8 true 2,.tmp 9] 103:=⟨Tryz.f29,Tryz.func29,Q6 (by kernel_rfl),by kernel_rfl,rfl,rfl⟩
noncomputable def c30:VCode:=cof Tryz.f30
theorem F_:Fun Tryz.prog 30 c30 [.tmp 0] 31:=⟨Tryz.f30,Tryz.func30,Q6 (by kernel_rfl),by kernel_rfl,rfl,rfl⟩
noncomputable def c31:VCode:=cof Tryz.f31
theorem Q3k:Fun Tryz.prog 31 c31 [.tmp 4,.tmp 5,.tmp 6] 29:=⟨Tryz.f31,Tryz.func31,Q6 (by kernel_rfl),by kernel_rfl,rfl,rfl⟩
noncomputable def c32:VCode:=cof Tryz.f32
theorem Q2z:Fun Tryz.prog 32 c32 [.tmp 2] 11:=⟨Tryz.f32,Tryz.func32,Q6 (by kernel_rfl),by kernel_rfl,rfl,rfl⟩
noncomputable def c33:VCode:=cof Tryz.f33
theorem Q3c:Fun Tryz.prog 33 c33 [.tmp 2] 22:=⟨Tryz.f33,Tryz.func33,Q6 (by kernel_rfl),by kernel_rfl,rfl,rfl⟩
noncomputable def c34:VCode:=cof Tryz.f34
theorem Q10:Fun Tryz.prog 34 c34 [.tmp 4] 10:=⟨Tryz.f34,Tryz.func34,Q6 (by kernel_rfl),by kernel_rfl,rfl,rfl⟩
noncomputable def c35:VCode:=cof Tryz.f35
theorem Q3g:Fun Tryz.prog 35 c35 [.tmp 4] 19:=⟨Tryz.f35,Tryz.func35,Q6 (by kernel_rfl),by kernel_rfl,rfl,rfl⟩
noncomputable def c36:VCode:=cof Tryz.f36
theorem Q2u:Fun Tryz.prog 36 c36 [.tmp 3] 8:=⟨Tryz.f36,Tryz.func36,Q6 (by kernel_rfl),by kernel_rfl,rfl,rfl⟩
noncomputable def c37:VCode:=cof Tryz.f37
theorem Q2l:Fun Tryz.prog 37 c37 [.tmp 4] 48:=⟨Tryz.f37,Tryz.func37,Q6 (by kernel_rfl),by kernel_rfl,rfl,rfl⟩
noncomputable def c38:VCode:=cof Tryz.f38
theorem Q27:Fun Tryz.prog 38 c38 [.tmp 2] 7:=⟨Tryz.f38,Tryz.func38,Q6 (by kernel_rfl),by kernel_rfl,rfl,rfl⟩
noncomputable def c39:VCode:=cof Tryz.f39
theorem Q1r:Fun Tryz.prog 39 c39 [.tmp 4] 9:=⟨Tryz.f39,Tryz.func39,Q6 (by kernel_rfl),by kernel_rfl,rfl,rfl⟩
noncomputable def c40:VCode:=cof Tryz.f40
theorem Q22:Fun Tryz.prog 40 c40 [.tmp 4,.tmp 5] 18:=⟨Tryz.f40,Tryz.func40,Q6 (by kernel_rfl),by kernel_rfl,rfl,rfl⟩
noncomputable def c41:VCode:=cof Tryz.f41
theorem Q13:Fun Tryz.prog 41 c41 [.tmp 4] 26:=⟨Tryz.f41,Tryz.func41,Q6 (by kernel_rfl),by kernel_rfl,rfl,rfl⟩
noncomputable def c42:VCode:=cof Tryz.f42
theorem Q1n:Fun Tryz.prog 42 c42 [.cell 4 false 1,.tmp 5,.tmp 6] 86:=⟨Tryz.f42,Tryz.func42,Q6 (by kernel_rfl),by kernel_rfl,rfl,rfl⟩
noncomputable def c43:VCode:=cof Tryz.f43
theorem O0:Fun Tryz.prog 43 c43 [.tmp 2] 28:=⟨Tryz.f43,Tryz.func43,Q6 (by kernel_rfl),by kernel_rfl,rfl,rfl⟩
noncomputable def c44:VCode:=cof Tryz.f44
theorem Q3d:Fun Tryz.prog 44 c44 [.cell 6 true 2] 38:=⟨Tryz.f44,Tryz.func44,Q6 (by kernel_rfl),by kernel_rfl,rfl,rfl⟩
noncomputable def c45:VCode:=cof Tryz.f45
theorem Q2t:Fun Tryz.prog 45 c45 [.tmp 5] 12:=⟨Tryz.f45,Tryz.func45,Q6 (by kernel_rfl),by kernel_rfl,rfl,rfl⟩
noncomputable def c46:VCode:=cof Tryz.f46
theorem Q35:Fun Tryz.prog 46 c46 [.tmp 6] 26:=⟨Tryz.f46,Tryz.func46,Q6 (by kernel_rfl),by kernel_rfl,rfl,rfl⟩
noncomputable def c47:VCode:=cof Tryz.f47
theorem Q2o:Fun Tryz.prog 47 c47 [.tmp 2] 18:=⟨Tryz.f47,Tryz.func47,Q6 (by kernel_rfl),by kernel_rfl,rfl,rfl⟩
noncomputable def c48:VCode:=cof Tryz.f48
theorem Q25:Fun Tryz.prog 48 c48 [.tmp 4] 19:=⟨Tryz.f48,Tryz.func48,Q6 (by kernel_rfl),by kernel_rfl,rfl,rfl⟩
noncomputable def c49:VCode:=cof Tryz.f49
theorem Q39:Fun Tryz.prog 49 c49 [.tmp 2] 8:=⟨Tryz.f49,Tryz.func49,Q6 (by kernel_rfl),by kernel_rfl,rfl,rfl⟩
noncomputable def c50:VCode:=cof Tryz.f50
theorem Q2h:Fun Tryz.prog 50 c50 [.tmp 2] 8:=⟨Tryz.f50,Tryz.func50,Q6 (by kernel_rfl),by kernel_rfl,rfl,rfl⟩
noncomputable def c51:VCode:=cof Tryz.f51
theorem Q1y:Fun Tryz.prog 51 c51 [.cell 4 true 2,.tmp 5] 21:=⟨Tryz.f51,Tryz.func51,Q6 (by kernel_rfl),by kernel_rfl,rfl,rfl⟩
noncomputable def c52:VCode:=cof Tryz.f52
theorem Q2d:Fun Tryz.prog 52 c52 [.tmp 2] 13:=⟨Tryz.f52,Tryz.func52,Q6 (by kernel_rfl),by kernel_rfl,rfl,rfl⟩
noncomputable def c53:VCode:=cof Tryz.f53
theorem Q29:Fun Tryz.prog 53 c53 [.tmp 4] 9:=⟨Tryz.f53,Tryz.func53,Q6 (by kernel_rfl),by kernel_rfl,rfl,rfl⟩
noncomputable def c54:VCode:=cof Tryz.f54
theorem Q1o:Fun Tryz.prog 54 c54 [.tmp 3] 9:=⟨Tryz.f54,Tryz.func54,Q6 (by kernel_rfl),by kernel_rfl,rfl,rfl⟩
noncomputable def c55:VCode:=cof Tryz.f55
theorem Q1c:Fun Tryz.prog 55 c55 [.tmp 4,.tmp 5] 62:=⟨Tryz.f55,Tryz.func55,Q6 (by kernel_rfl),by kernel_rfl,rfl,rfl⟩
noncomputable def c56:VCode:=cof Tryz.f56
theorem Q1w:Fun Tryz.prog 56 c56 [.cell 6 true 2,.tmp 7,.tmp 8] 84:=⟨Tryz.f56,Tryz.func56,Q6 (by kernel_rfl),by kernel_rfl,rfl,rfl⟩
noncomputable def c57:VCode:=cof Tryz.f57
theorem Q2x:Fun Tryz.prog 57 c57 [.tmp 2] 10:=⟨Tryz.f57,Tryz.func57,Q6 (by kernel_rfl),by kernel_rfl,rfl,rfl⟩
noncomputable def c58:VCode:=cof Tryz.f58
theorem I3:Fun Tryz.prog 58 c58 [.tmp 6] 11:=⟨Tryz.f58,Tryz.func58,Q6 (by kernel_rfl),by kernel_rfl,rfl,rfl⟩
noncomputable def c59:VCode:=cof Tryz.f59
theorem Q11:Fun Tryz.prog 59 c59 [.cell 2 true 2] 61:=⟨Tryz.f59,Tryz.func59,Q6 (by kernel_rfl),by kernel_rfl,rfl,rfl⟩
noncomputable def c60:VCode:=cof Tryz.f60
theorem Q0d:Fun Tryz.prog 60 c60 [.tmp 2] 27:=⟨Tryz.f60,Tryz.func60,Q6 (by kernel_rfl),by kernel_rfl,rfl,rfl⟩
noncomputable def c61:VCode:=cof Tryz.f61
theorem OP:Fun Tryz.prog 61 c61 [.tmp 4] 22:=⟨Tryz.f61,Tryz.func61,Q6 (by kernel_rfl),by kernel_rfl,rfl,rfl⟩
noncomputable def c62:VCode:=cof Tryz.f62
theorem OQ:Fun Tryz.prog 62 c62 [.cell 6 true 3,.tmp 7] 33:=⟨Tryz.f62,Tryz.func62,Q6 (by kernel_rfl),by kernel_rfl,rfl,rfl⟩
noncomputable def c63:VCode:=cof Tryz.f63
theorem I8:Fun Tryz.prog 63 c63 [.tmp 2,.tmp 3] 41:=⟨Tryz.f63,Tryz.func63,Q6 (by kernel_rfl),by kernel_rfl,rfl,rfl⟩
noncomputable def c64:VCode:=cof Tryz.f64
theorem OZ:Fun Tryz.prog 64 c64 [.cell 0 true 2] 2:=⟨Tryz.f64,Tryz.func64,Q6 (by kernel_rfl),by kernel_rfl,rfl,rfl⟩
noncomputable def c65:VCode:=cof Tryz.f65
theorem IE:Fun Tryz.prog 65 c65 [.tmp 2] 4:=⟨Tryz.f65,Tryz.func65,Q6 (by kernel_rfl),by kernel_rfl,rfl,rfl⟩
noncomputable def c66:VCode:=cof Tryz.f66
theorem Oi:Fun Tryz.prog 66 c66 [.cell 6 true 2] 44:=⟨Tryz.f66,Tryz.func66,Q6 (by kernel_rfl),by kernel_rfl,rfl,rfl⟩
noncomputable def c67:VCode:=cof Tryz.f67
theorem O_:Fun Tryz.prog 67 c67 [.cell 4 true 2] 16:=⟨Tryz.f67,Tryz.func67,Q6 (by kernel_rfl),by kernel_rfl,rfl,rfl⟩
noncomputable def c68:VCode:=cof Tryz.f68
theorem Ii:Fun Tryz.prog 68 c68 [.cell 4 true 2] 17:=⟨Tryz.f68,Tryz.func68,Q6 (by kernel_rfl),by kernel_rfl,rfl,rfl⟩
noncomputable def c69:VCode:=cof Tryz.f69
theorem Q2a:Fun Tryz.prog 69 c69 [.cell 4 true 2,.tmp 5,.tmp 6] 78:=⟨Tryz.f69,Tryz.func69,Q6 (by kernel_rfl),by kernel_rfl,rfl,rfl⟩
noncomputable def c70:VCode:=cof Tryz.f70
theorem Q16:Fun Tryz.prog 70 c70 [.tmp 4] 26:=⟨Tryz.f70,Tryz.func70,Q6 (by kernel_rfl),by kernel_rfl,rfl,rfl⟩
noncomputable def c71:VCode:=cof Tryz.f71
theorem Q1s:Fun Tryz.prog 71 c71 [.tmp 2] 16:=⟨Tryz.f71,Tryz.func71,Q6 (by kernel_rfl),by kernel_rfl,rfl,rfl⟩
noncomputable def c72:VCode:=cof Tryz.f72
theorem Q0w:Fun Tryz.prog 72 c72 [.tmp 2,.tmp 3] 64:=⟨Tryz.f72,Tryz.func72,Q6 (by kernel_rfl),by kernel_rfl,rfl,rfl⟩
noncomputable def c73:VCode:=cof Tryz.f73
theorem Q2c:Fun Tryz.prog 73 c73 [.tmp 6] 11:=⟨Tryz.f73,Tryz.func73,Q6 (by kernel_rfl),by kernel_rfl,rfl,rfl⟩
noncomputable def c74:VCode:=cof Tryz.f74
theorem Q2w:Fun Tryz.prog 74 c74 [.tmp 2] 4:=⟨Tryz.f74,Tryz.func74,Q6 (by kernel_rfl),by kernel_rfl,rfl,rfl⟩
noncomputable def c75:VCode:=cof Tryz.f75
theorem Q1q:Fun Tryz.prog 75 c75 [.tmp 2] 25:=⟨Tryz.f75,Tryz.func75,Q6 (by kernel_rfl),by kernel_rfl,rfl,rfl⟩
noncomputable def c76:VCode:=cof Tryz.f76
theorem Q1m:Fun Tryz.prog 76 c76 [.tmp 4] 26:=⟨Tryz.f76,Tryz.func76,Q6 (by kernel_rfl),by kernel_rfl,rfl,rfl⟩
noncomputable def c77:VCode:=cof Tryz.f77
theorem Q2e:Fun Tryz.prog 77 c77 [.tmp 2] 8:=⟨Tryz.f77,Tryz.func77,Q6 (by kernel_rfl),by kernel_rfl,rfl,rfl⟩
noncomputable def c78:VCode:=cof Tryz.f78
theorem Q2r:Fun Tryz.prog 78 c78 [.tmp 2] 4:=⟨Tryz.f78,Tryz.func78,Q6 (by kernel_rfl),by kernel_rfl,rfl,rfl⟩
noncomputable def c79:VCode:=cof Tryz.f79
theorem Q12:Fun Tryz.prog 79 c79 [.tmp 4] 28:=⟨Tryz.f79,Tryz.func79,Q6 (by kernel_rfl),by kernel_rfl,rfl,rfl⟩
noncomputable def c80:VCode:=cof Tryz.f80
theorem Q3h:Fun Tryz.prog 80 c80 [] 28:=⟨Tryz.f80,Tryz.func80,Q6 (by kernel_rfl),by kernel_rfl,rfl,rfl⟩
noncomputable def c81:VCode:=cof Tryz.f81
theorem O8:Fun Tryz.prog 81 c81 [.tmp 6] 11:=⟨Tryz.f81,Tryz.func81,Q6 (by kernel_rfl),by kernel_rfl,rfl,rfl⟩
noncomputable def c82:VCode:=cof Tryz.f82
theorem Q17:Fun Tryz.prog 82 c82 [.tmp 2] 14:=⟨Tryz.f82,Tryz.func82,Q6 (by kernel_rfl),by kernel_rfl,rfl,rfl⟩
noncomputable def c83:VCode:=cof Tryz.f83
theorem Q1p:Fun Tryz.prog 83 c83 [.tmp 2] 14:=⟨Tryz.f83,Tryz.func83,Q6 (by kernel_rfl),by kernel_rfl,rfl,rfl⟩
noncomputable def c84:VCode:=cof Tryz.f84
theorem Q1v:Fun Tryz.prog 84 c84 [.tmp 2] 21:=⟨Tryz.f84,Tryz.func84,Q6 (by kernel_rfl),by kernel_rfl,rfl,rfl⟩
noncomputable def c85:VCode:=cof Tryz.f85
theorem Q2y:Fun Tryz.prog 85 c85 [.tmp 2] 35:=⟨Tryz.f85,Tryz.func85,Q6 (by kernel_rfl),by kernel_rfl,rfl,rfl⟩
noncomputable def c86:VCode:=cof Tryz.f86
theorem Q32:Fun Tryz.prog 86 c86 [.tmp 4] 19:=⟨Tryz.f86,Tryz.func86,Q6 (by kernel_rfl),by kernel_rfl,rfl,rfl⟩
noncomputable def c87:VCode:=cof Tryz.f87
theorem Q20:Fun Tryz.prog 87 c87 [.tmp 2] 15:=⟨Tryz.f87,Tryz.func87,Q6 (by kernel_rfl),by kernel_rfl,rfl,rfl⟩
noncomputable def c88:VCode:=cof Tryz.f88
theorem Q0z:Fun Tryz.prog 88 c88 [.tmp 4] 24:=⟨Tryz.f88,Tryz.func88,Q6 (by kernel_rfl),by kernel_rfl,rfl,rfl⟩
noncomputable def c89:VCode:=cof Tryz.f89
theorem Q2b:Fun Tryz.prog 89 c89 [.tmp 4] 38:=⟨Tryz.f89,Tryz.func89,Q6 (by kernel_rfl),by kernel_rfl,rfl,rfl⟩
noncomputable def c90:VCode:=cof Tryz.f90
theorem Q1e:Fun Tryz.prog 90 c90 [.tmp 2] 18:=⟨Tryz.f90,Tryz.func90,Q6 (by kernel_rfl),by kernel_rfl,rfl,rfl⟩
noncomputable def c91:VCode:=cof Tryz.f91
theorem Q1z:Fun Tryz.prog 91 c91 [.tmp 4] 20:=⟨Tryz.f91,Tryz.func91,Q6 (by kernel_rfl),by kernel_rfl,rfl,rfl⟩
noncomputable def c92:VCode:=cof Tryz.f92
theorem Q1u:Fun Tryz.prog 92 c92 [.tmp 4] 36:=⟨Tryz.f92,Tryz.func92,Q6 (by kernel_rfl),by kernel_rfl,rfl,rfl⟩
noncomputable def c93:VCode:=cof Tryz.f93
theorem Q19:Fun Tryz.prog 93 c93 [.tmp 2,.tmp 3] 102:=⟨Tryz.f93,Tryz.func93,Q6 (by kernel_rfl),by kernel_rfl,rfl,rfl⟩
noncomputable def c94:VCode:=cof Tryz.f94
theorem Q3f:Fun Tryz.prog 94 c94 [.tmp 4] 9:=⟨Tryz.f94,Tryz.func94,Q6 (by kernel_rfl),by kernel_rfl,rfl,rfl⟩
noncomputable def c95:VCode:=cof Tryz.f95
theorem Q36:Fun Tryz.prog 95 c95 [.tmp 2] 6:=⟨Tryz.f95,Tryz.func95,Q6 (by kernel_rfl),by kernel_rfl,rfl,rfl⟩
noncomputable def c96:VCode:=cof Tryz.f96
theorem Q21:Fun Tryz.prog 96 c96 [.tmp 2] 32:=⟨Tryz.f96,Tryz.func96,Q6 (by kernel_rfl),by kernel_rfl,rfl,rfl⟩
noncomputable def c97:VCode:=cof Tryz.f97
theorem OU:Fun Tryz.prog 97 c97 [.tmp 4] 9:=⟨Tryz.f97,Tryz.func97,Q6 (by kernel_rfl),by kernel_rfl,rfl,rfl⟩
noncomputable def c98:VCode:=cof Tryz.f98
theorem IZ:Fun Tryz.prog 98 c98 [.tmp 4] 13:=⟨Tryz.f98,Tryz.func98,Q6 (by kernel_rfl),by kernel_rfl,rfl,rfl⟩
noncomputable def c99:VCode:=cof Tryz.f99
theorem OT:Fun Tryz.prog 99 c99 [.tmp 6] 11:=⟨Tryz.f99,Tryz.func99,Q6 (by kernel_rfl),by kernel_rfl,rfl,rfl⟩
noncomputable def Q2j:VCode:=cof Tryz.f100
theorem EF:Fun Tryz.prog 100 Q2j [.tmp 4] 17:=⟨Tryz.f100,Tryz.func100,Q6 (by kernel_rfl),by kernel_rfl,rfl,rfl⟩
noncomputable def Q38:VCode:=cof Tryz.f101
theorem Eg:Fun Tryz.prog 101 Q38 [.tmp 2] 4:=⟨Tryz.f101,Tryz.func101,Q6 (by kernel_rfl),by kernel_rfl,rfl,rfl⟩
noncomputable def Q2p:VCode:=cof Tryz.f102
theorem Ez:Fun Tryz.prog 102 Q2p [.tmp 6] 17:=⟨Tryz.f102,Tryz.func102,Q6 (by kernel_rfl),by kernel_rfl,rfl,rfl⟩
noncomputable def Q2m:VCode:=cof Tryz.f103
theorem Ee:Fun Tryz.prog 103 Q2m [.tmp 2] 14:=⟨Tryz.f103,Tryz.func103,Q6 (by kernel_rfl),by kernel_rfl,rfl,rfl⟩
noncomputable def Q3l:VCode:=cof Tryz.f104
theorem EH:Fun Tryz.prog 104 Q3l [.tmp 2] 15:=⟨Tryz.f104,Tryz.func104,Q6 (by kernel_rfl),by kernel_rfl,rfl,rfl⟩
noncomputable def Q1t:VCode:=cof Tryz.f105
theorem Et:Fun Tryz.prog 105 Q1t [.tmp 4] 9:=⟨Tryz.f105,Tryz.func105,Q6 (by kernel_rfl),by kernel_rfl,rfl,rfl⟩
noncomputable def Q2v:VCode:=cof Tryz.f106
theorem Eu:Fun Tryz.prog 106 Q2v [.cell 6 true 2] 44:=⟨Tryz.f106,Tryz.func106,Q6 (by kernel_rfl),by kernel_rfl,rfl,rfl⟩
noncomputable def Q5d:VCode:=cof Tryz.f107
theorem O5:Fun Tryz.prog 107 Q5d [] 19:=⟨Tryz.f107,Tryz.func107,Q6 (by kernel_rfl),by kernel_rfl,rfl,rfl⟩
noncomputable def Q4i:VCode:=cof Tryz.f108
theorem Il:Fun Tryz.prog 108 Q4i [.tmp 4] 48:=⟨Tryz.f108,Tryz.func108,Q6 (by kernel_rfl),by kernel_rfl,rfl,rfl⟩
noncomputable def Q4r:VCode:=cof Tryz.f109
theorem Q04:Fun Tryz.prog 109 Q4r [.tmp 2] 32:=⟨Tryz.f109,Tryz.func109,Q6 (by kernel_rfl),by kernel_rfl,rfl,rfl⟩
noncomputable def Q5g:VCode:=cof Tryz.f110
theorem Q01:Fun Tryz.prog 110 Q5g [] 9:=⟨Tryz.f110,Tryz.func110,Q6 (by kernel_rfl),by kernel_rfl,rfl,rfl⟩
noncomputable def Q4u:VCode:=cof Tryz.f111
theorem Ou:Fun Tryz.prog 111 Q4u [.tmp 5] 36:=⟨Tryz.f111,Tryz.func111,Q6 (by kernel_rfl),by kernel_rfl,rfl,rfl⟩
noncomputable def Q47:VCode:=cof Tryz.f112
theorem Og:Fun Tryz.prog 112 Q47 [] 11:=⟨Tryz.f112,Tryz.func112,Q6 (by kernel_rfl),by kernel_rfl,rfl,rfl⟩
noncomputable def Q4x:VCode:=cof Tryz.f113
theorem Ox:Fun Tryz.prog 113 Q4x [] 14:=⟨Tryz.f113,Tryz.func113,Q6 (by kernel_rfl),by kernel_rfl,rfl,rfl⟩
noncomputable def Q5q:VCode:=cof Tryz.f114
theorem Ix:Fun Tryz.prog 114 Q5q [.tmp 4] 13:=⟨Tryz.f114,Tryz.func114,Q6 (by kernel_rfl),by kernel_rfl,rfl,rfl⟩
noncomputable def Q4v:VCode:=cof Tryz.f115
theorem Q0h:Fun Tryz.prog 115 Q4v [] 19:=⟨Tryz.f115,Tryz.func115,Q6 (by kernel_rfl),by kernel_rfl,rfl,rfl⟩
noncomputable def Q5v:VCode:=cof Tryz.f116
theorem OI:Fun Tryz.prog 116 Q5v [] 19:=⟨Tryz.f116,Tryz.func116,Q6 (by kernel_rfl),by kernel_rfl,rfl,rfl⟩
noncomputable def Q2f:VCode:=cof Tryz.f117
theorem Eo:Fun Tryz.prog 117 Q2f [.tmp 4] 13:=⟨Tryz.f117,Tryz.func117,Q6 (by kernel_rfl),by kernel_rfl,rfl,rfl⟩
noncomputable def Q53:VCode:=cof Tryz.f118
theorem Q03:Fun Tryz.prog 118 Q53 [.tmp 3] 11:=⟨Tryz.f118,Tryz.func118,Q6 (by kernel_rfl),by kernel_rfl,rfl,rfl⟩
noncomputable def Q5p:VCode:=cof Tryz.f119
theorem Q0k:Fun Tryz.prog 119 Q5p [.tmp 2] 6:=⟨Tryz.f119,Tryz.func119,Q6 (by kernel_rfl),by kernel_rfl,rfl,rfl⟩
noncomputable def Q52:VCode:=cof Tryz.f120
theorem OH:Fun Tryz.prog 120 Q52 [.cell 4 true 4] 20:=⟨Tryz.f120,Tryz.func120,Q6 (by kernel_rfl),by kernel_rfl,rfl,rfl⟩
noncomputable def Q5m:VCode:=cof Tryz.f121
theorem O6:Fun Tryz.prog 121 Q5m [.tmp 6] 29:=⟨Tryz.f121,Tryz.func121,Q6 (by kernel_rfl),by kernel_rfl,rfl,rfl⟩
noncomputable def Q59:VCode:=cof Tryz.f122
theorem IT:Fun Tryz.prog 122 Q59 [.tmp 4] 81:=⟨Tryz.f122,Tryz.func122,Q6 (by kernel_rfl),by kernel_rfl,rfl,rfl⟩
noncomputable def Q5j:VCode:=cof Tryz.f123
theorem IX:Fun Tryz.prog 123 Q5j [.tmp 2] 4:=⟨Tryz.f123,Tryz.func123,Q6 (by kernel_rfl),by kernel_rfl,rfl,rfl⟩
noncomputable def Q5x:VCode:=cof Tryz.f124
theorem IB:Fun Tryz.prog 124 Q5x [.cell 6 true 4,.tmp 7] 40:=⟨Tryz.f124,Tryz.func124,Q6 (by kernel_rfl),by kernel_rfl,rfl,rfl⟩
noncomputable def Q4t:VCode:=cof Tryz.f125
theorem FZ:Fun Tryz.prog 125 Q4t [.tmp 4] 19:=⟨Tryz.f125,Tryz.func125,Q6 (by kernel_rfl),by kernel_rfl,rfl,rfl⟩
noncomputable def Q0x:VCode:=cof Tryz.f126
theorem EJ:Fun Tryz.prog 126 Q0x [.tmp 4] 19:=⟨Tryz.f126,Tryz.func126,Q6 (by kernel_rfl),by kernel_rfl,rfl,rfl⟩
noncomputable def Q0u:VCode:=cof Tryz.f127
theorem Ep:Fun Tryz.prog 127 Q0u [.tmp 4] 13:=⟨Tryz.f127,Tryz.func127,Q6 (by kernel_rfl),by kernel_rfl,rfl,rfl⟩
noncomputable def Q23:VCode:=cof Tryz.f128
theorem EA:Fun Tryz.prog 128 Q23 [] 20:=⟨Tryz.f128,Tryz.func128,Q6 (by kernel_rfl),by kernel_rfl,rfl,rfl⟩
noncomputable def Q37:VCode:=cof Tryz.f129
theorem Ei:Fun Tryz.prog 129 Q37 [.tmp 4] 19:=⟨Tryz.f129,Tryz.func129,Q6 (by kernel_rfl),by kernel_rfl,rfl,rfl⟩
noncomputable def Q3x:VCode:=cof Tryz.f130
theorem Ij:Fun Tryz.prog 130 Q3x [.tmp 4,.tmp 5] 30:=⟨Tryz.f130,Tryz.func130,Q6 (by kernel_rfl),by kernel_rfl,rfl,rfl⟩
noncomputable def Q41:VCode:=cof Tryz.f131
theorem O4:Fun Tryz.prog 131 Q41 [.tmp 2] 5:=⟨Tryz.f131,Tryz.func131,Q6 (by kernel_rfl),by kernel_rfl,rfl,rfl⟩
noncomputable def Q5s:VCode:=cof Tryz.f132
theorem Im:Fun Tryz.prog 132 Q5s [.tmp 4] 6:=⟨Tryz.f132,Tryz.func132,Q6 (by kernel_rfl),by kernel_rfl,rfl,rfl⟩
noncomputable def Q4j:VCode:=cof Tryz.f133
theorem Iw:Fun Tryz.prog 133 Q4j [] 63:=⟨Tryz.f133,Tryz.func133,Q6 (by kernel_rfl),by kernel_rfl,rfl,rfl⟩
noncomputable def Q4b:VCode:=cof Tryz.f134
theorem IV:Fun Tryz.prog 134 Q4b [] 134:=⟨Tryz.f134,Tryz.func134,Q6 (by kernel_rfl),by kernel_rfl,rfl,rfl⟩
noncomputable def Q58:VCode:=cof Tryz.f135
theorem I1:Fun Tryz.prog 135 Q58 [.tmp 2] 8:=⟨Tryz.f135,Tryz.func135,Q6 (by kernel_rfl),by kernel_rfl,rfl,rfl⟩
noncomputable def Q3y:VCode:=cof Tryz.f136
theorem It:Fun Tryz.prog 136 Q3y [] 148:=⟨Tryz.f136,Tryz.func136,Q6 (by kernel_rfl),by kernel_rfl,rfl,rfl⟩
noncomputable def Q5t:VCode:=cof Tryz.f138
theorem OF:Fun Tryz.prog 138 Q5t [.tmp 4,.tmp 5] 17:=⟨Tryz.f138,Tryz.func138,Q6 (by kernel_rfl),by kernel_rfl,rfl,rfl⟩
noncomputable def Q3n:VCode:=cof Tryz.f139
theorem IY:Fun Tryz.prog 139 Q3n [.tmp 4,.tmp 5] 51:=⟨Tryz.f139,Tryz.func139,Q6 (by kernel_rfl),by kernel_rfl,rfl,rfl⟩
noncomputable def Q4q:VCode:=cof Tryz.f140
theorem IK:Fun Tryz.prog 140 Q4q [.tmp 4] 13:=⟨Tryz.f140,Tryz.func140,Q6 (by kernel_rfl),by kernel_rfl,rfl,rfl⟩
noncomputable def Q3s:VCode:=cof Tryz.f141
theorem Oo:Fun Tryz.prog 141 Q3s [] 22:=⟨Tryz.f141,Tryz.func141,Q6 (by kernel_rfl),by kernel_rfl,rfl,rfl⟩
noncomputable def Q5n:VCode:=cof Tryz.f142
theorem Q0l:Fun Tryz.prog 142 Q5n [] 53:=⟨Tryz.f142,Tryz.func142,Q6 (by kernel_rfl),by kernel_rfl,rfl,rfl⟩
noncomputable def Q5w:VCode:=cof Tryz.f143
theorem Ic:Fun Tryz.prog 143 Q5w [] 220:=⟨Tryz.f143,Tryz.func143,Q6 (by kernel_rfl),by kernel_rfl,rfl,rfl⟩
noncomputable def Q3o:VCode:=cof Tryz.f144
theorem OC:Fun Tryz.prog 144 Q3o [] 49:=⟨Tryz.f144,Tryz.func144,Q6 (by kernel_rfl),by kernel_rfl,rfl,rfl⟩
noncomputable def Q5c:VCode:=cof Tryz.f145
theorem OA:Fun Tryz.prog 145 Q5c [] 56:=⟨Tryz.f145,Tryz.func145,Q6 (by kernel_rfl),by kernel_rfl,rfl,rfl⟩
noncomputable def Q5o:VCode:=cof Tryz.f146
theorem IJ:Fun Tryz.prog 146 Q5o [] 65:=⟨Tryz.f146,Tryz.func146,Q6 (by kernel_rfl),by kernel_rfl,rfl,rfl⟩
noncomputable def Q4h:VCode:=cof Tryz.f147
theorem Q0i:Fun Tryz.prog 147 Q4h [.tmp 6,.tmp 7] 57:=⟨Tryz.f147,Tryz.func147,Q6 (by kernel_rfl),by kernel_rfl,rfl,rfl⟩
noncomputable def Q3u:VCode:=cof Tryz.f148
theorem I4:Fun Tryz.prog 148 Q3u [] 32:=⟨Tryz.f148,Tryz.func148,Q6 (by kernel_rfl),by kernel_rfl,rfl,rfl⟩
noncomputable def Q4d:VCode:=cof Tryz.f149
theorem OL:Fun Tryz.prog 149 Q4d [.tmp 6] 133:=⟨Tryz.f149,Tryz.func149,Q6 (by kernel_rfl),by kernel_rfl,rfl,rfl⟩
noncomputable def Q4a:VCode:=cof Tryz.f150
theorem I_:Fun Tryz.prog 150 Q4a [.tmp 4] 17:=⟨Tryz.f150,Tryz.func150,Q6 (by kernel_rfl),by kernel_rfl,rfl,rfl⟩
noncomputable def Q4o:VCode:=cof Tryz.f151
theorem Q0a:Fun Tryz.prog 151 Q4o [.tmp 8] 84:=⟨Tryz.f151,Tryz.func151,Q6 (by kernel_rfl),by kernel_rfl,rfl,rfl⟩
noncomputable def Q4k:VCode:=cof Tryz.f152
theorem On:Fun Tryz.prog 152 Q4k [.tmp 8,.tmp 9] 168:=⟨Tryz.f152,Tryz.func152,Q6 (by kernel_rfl),by kernel_rfl,rfl,rfl⟩
noncomputable def Q50:VCode:=cof Tryz.f153
theorem Q08:Fun Tryz.prog 153 Q50 [.tmp 2] 19:=⟨Tryz.f153,Tryz.func153,Q6 (by kernel_rfl),by kernel_rfl,rfl,rfl⟩
noncomputable def Q5h:VCode:=cof Tryz.f154
theorem Q0c:Fun Tryz.prog 154 Q5h [.tmp 2] 25:=⟨Tryz.f154,Tryz.func154,Q6 (by kernel_rfl),by kernel_rfl,rfl,rfl⟩
noncomputable def Q44:VCode:=cof Tryz.f155
theorem I5:Fun Tryz.prog 155 Q44 [] 53:=⟨Tryz.f155,Tryz.func155,Q6 (by kernel_rfl),by kernel_rfl,rfl,rfl⟩
noncomputable def Q3q:VCode:=cof Tryz.f156
theorem Iq:Fun Tryz.prog 156 Q3q [] 60:=⟨Tryz.f156,Tryz.func156,Q6 (by kernel_rfl),by kernel_rfl,rfl,rfl⟩
noncomputable def Q49:VCode:=cof Tryz.f157
theorem O2:Fun Tryz.prog 157 Q49 [] 67:=⟨Tryz.f157,Tryz.func157,Q6 (by kernel_rfl),by kernel_rfl,rfl,rfl⟩
noncomputable def Q46:VCode:=cof Tryz.f158
theorem IP:Fun Tryz.prog 158 Q46 [.tmp 8,.tmp 9] 63:=⟨Tryz.f158,Tryz.func158,Q6 (by kernel_rfl),by kernel_rfl,rfl,rfl⟩
noncomputable def Q4y:VCode:=cof Tryz.f159
theorem OK:Fun Tryz.prog 159 Q4y [] 34:=⟨Tryz.f159,Tryz.func159,Q6 (by kernel_rfl),by kernel_rfl,rfl,rfl⟩
noncomputable def Q5l:VCode:=cof Tryz.f160
theorem IA:Fun Tryz.prog 160 Q5l [.tmp 8] 141:=⟨Tryz.f160,Tryz.func160,Q6 (by kernel_rfl),by kernel_rfl,rfl,rfl⟩
noncomputable def Q4g:VCode:=cof Tryz.f161
theorem Oa:Fun Tryz.prog 161 Q4g [.tmp 10] 90:=⟨Tryz.f161,Tryz.func161,Q6 (by kernel_rfl),by kernel_rfl,rfl,rfl⟩
noncomputable def Q4z:VCode:=cof Tryz.f162
theorem Ig:Fun Tryz.prog 162 Q4z [.tmp 10,.tmp 11] 178:=⟨Tryz.f162,Tryz.func162,Q6 (by kernel_rfl),by kernel_rfl,rfl,rfl⟩
noncomputable def Q3v:VCode:=cof Tryz.f163
theorem OD:Fun Tryz.prog 163 Q3v [] 58:=⟨Tryz.f163,Tryz.func163,Q6 (by kernel_rfl),by kernel_rfl,rfl,rfl⟩
noncomputable def Q57:VCode:=cof Tryz.f164
theorem OE:Fun Tryz.prog 164 Q57 [] 76:=⟨Tryz.f164,Tryz.func164,Q6 (by kernel_rfl),by kernel_rfl,rfl,rfl⟩
noncomputable def Q5a:VCode:=cof Tryz.f165
theorem Oc:Fun Tryz.prog 165 Q5a [.tmp 2] 7:=⟨Tryz.f165,Tryz.func165,Q6 (by kernel_rfl),by kernel_rfl,rfl,rfl⟩
noncomputable def Q4p:VCode:=cof Tryz.f166
theorem Q05:Fun Tryz.prog 166 Q4p [.tmp 2] 33:=⟨Tryz.f166,Tryz.func166,Q6 (by kernel_rfl),by kernel_rfl,rfl,rfl⟩
noncomputable def Q5r:VCode:=cof Tryz.f167
theorem I7:Fun Tryz.prog 167 Q5r [.tmp 6] 15:=⟨Tryz.f167,Tryz.func167,Q6 (by kernel_rfl),by kernel_rfl,rfl,rfl⟩
noncomputable def Q3p:VCode:=cof Tryz.f168
theorem Oy:Fun Tryz.prog 168 Q3p [.tmp 10] 36:=⟨Tryz.f168,Tryz.func168,Q6 (by kernel_rfl),by kernel_rfl,rfl,rfl⟩
noncomputable def Q4n:VCode:=cof Tryz.f169
theorem OY:Fun Tryz.prog 169 Q4n [] 82:=⟨Tryz.f169,Tryz.func169,Q6 (by kernel_rfl),by kernel_rfl,rfl,rfl⟩
noncomputable def Q5e:VCode:=cof Tryz.f170
theorem Io:Fun Tryz.prog 170 Q5e [.tmp 8] 18:=⟨Tryz.f170,Tryz.func170,Q6 (by kernel_rfl),by kernel_rfl,rfl,rfl⟩
noncomputable def Q5f:VCode:=cof Tryz.f171
theorem IQ:Fun Tryz.prog 171 Q5f [.tmp 12] 41:=⟨Tryz.f171,Tryz.func171,Q6 (by kernel_rfl),by kernel_rfl,rfl,rfl⟩
noncomputable def Q3z:VCode:=cof Tryz.f172
theorem O7:Fun Tryz.prog 172 Q3z [] 38:=⟨Tryz.f172,Tryz.func172,Q6 (by kernel_rfl),by kernel_rfl,rfl,rfl⟩
noncomputable def Q4w:VCode:=cof Tryz.f173
theorem I0:Fun Tryz.prog 173 Q4w [.tmp 8,.tmp 9] 28:=⟨Tryz.f173,Tryz.func173,Q6 (by kernel_rfl),by kernel_rfl,rfl,rfl⟩
noncomputable def Q43:VCode:=cof Tryz.f174
theorem Q0f:Fun Tryz.prog 174 Q43 [.tmp 10,.tmp 11] 32:=⟨Tryz.f174,Tryz.func174,Q6 (by kernel_rfl),by kernel_rfl,rfl,rfl⟩
theorem TF:AA Tryz.prog 137 (some .same):=E0 (e:=Extern.AbiNoEscape.same) Tryz.func137 (by kernel_rfl) (by kernel_rfl) (by kernel_rfl) (by kernel_rfl) (fun _ _=>rfl)
end Go.Proofs.Tryz
namespace Go.V
open Go
inductive Kind where
 |i (k:IntKind)
 |bo
 |st
 |list (k:Kind)
 |pair (a b:Kind)
 deriving DecidableEq,Inhabited
abbrev Kind.T:Kind→Type
 |.i _=>Int
 |.bo=>Bool
 |.st=>List UInt8
 |.list k=>List k.T
 |.pair a b=>a.T×b.T
def Kind.size:Kind→Nat
 |.pair a b=>a.size+b.size
 |_=>1
def Kind.dflt:(k:Kind)→k.T
 |.i _=>(0:Int)
 |.bo=>false
 |.st=>([]:List UInt8)
 |.list _=>[]
 |.pair a b=>(a.dflt,b.dflt)
def Kind.one:Kind→Bool
 |.pair _ _=>false
 |_=>true
theorem Kind.size_pos:∀ k:Kind,0<k.size
 |.pair a b=>by have:=a.size_pos;simp only[Kind.size];omega
 |.i _|.bo|.st|.list _=>by simp[Kind.size]
theorem Kind.one_size:∀ {k:Kind},k.one=true→k.size=1
 |.pair _ _,h=>by cases h
 |.i _,_|.bo,_|.st,_|.list _,_=>rfl
def Kind.prim:Kind→Bool
 |.i _|.bo|.st=>true
 |_=>false
def Kind.keyk:Kind→Bool
 |.pair a b=>a.keyk&&b.keyk
 |k=>k.prim
abbrev AT:List Kind→Type
 |[]=>Unit
 |[k]=>k.T
 |k::k'::ks=>k.T×AT (k'::ks)
structure Gd where
 id:Nat
 want:Bool
 c:Bool
inductive DW where
 |out
 |el (i:Int) (off sz:Nat)
 |row (k:Kind) (x:List k.T) (i:Int)
 |rowp (k:Kind) (x:List k.T) (i j:Int) (off:Nat)
 |inn (k:Kind) (x:List k.T)
 |inp (k:Kind) (l:List k.T) (j:Int) (off:Nat)
 |dat
 |obx (c:Bool)
 |yv
inductive SV where
 |dd (o:Nat) (w:DW)
 |any
 |val (k:Kind) (x:k.T)
 |bid (n:Nat) (c:Bool)
 |grd (gs:List Gd) (v:SV)
 |nilS
 |nilP
 |nilM
 |nilF
 |lst (o:Nat)
 |sub (o:Nat) (lo n sz:Nat)
 |elp (o:Nat) (i:Int) (off sz:Nat)
 |rop (k:Kind) (l:List k.T) (i:Int) (off:Nat)
 |box (o:Nat) (off:Nat)
 |cp (l:List SV) (off:Nat)
 |map (o:Nat)
 |agg (l:List SV)
 |tup (l:List SV)
 |fn (f:Nat) (first c_:List SV)
 |pf (ks:List Kind) (r:Kind) (cF:AT ks→Prop) (p:AT ks→r.T)
structure LpD where
 i:Nat
 vals:List Value
 r:Loop
inductive LpS where
 |busy
 |rdy
 |ret
 |exit (id:Nat)
def LpS.st:LpS→LoopState
 |.busy=>.busy
 |.rdy=>.ready
 |.ret=>.done
 |.exit _=>.done
def LpS.pend:LpS→Option Code
 |.busy=>none
 |.rdy=>none
 |.ret=>some .ret
 |.exit id=>some (.exit id)
def LpS.live:LpS→Bool
 |.busy=>false
 |_=>true
inductive OB where
 |dead
 |lst (ty:Nat) (k:Kind) (xs:List k.T) (nl:Bool)
 |cells (l:List SV) (u:Option Nat)
 |map (kk vk:Kind) (m:List (kk.T×vk.T))
 |stk (l:List SV) (vals:List Value)
 |deep (ty:Nat) (q:Option Nat) (k:Kind) (xs:List k.T) (nl:Bool) (hole:Option Nat)
 |iter (kk vk:Kind) (m:List (kk.T×vk.T)) (dn:List Nat)
 |mapE (kk vk:Kind) (m:List (kk.T×vk.T)) (key:kk.T) (n:Int)
 |lpf (l:List SV) (q:LpD) (s:LpS)
instance:Inhabited SV:=⟨.any⟩
instance:Inhabited OB:=⟨.dead⟩
inductive Rows {α:Type}(R:α→List Value→Prop):List α→List Value→Prop
 |nil:Rows R [] []
 |cons {x:α}{xs:List α}{c cs:List Value}(h:R x c) (t:Rows R xs cs):Rows R (x::xs) (c++cs)
def SlRel (h:Heap) (sz:Nat) {α:Type}(R:α→List Value→Prop) (l:List α) (v:Value):Prop :=
 (l=[]∧v=.slice none 0 0)∨∃ i o cap c e wr t,v=.slice (some ⟨i,o,none⟩) l.length cap∧l.length≤cap∧h.get i=some (.cells c e wr t)∧e.sz=sz∧o+l.length*sz≤c.length∧Rows R l ((c.drop o).take (l.length*sz))
def KC (h:Heap):(k:Kind)→k.T→List Value→Prop
 |.i ik,x,cs=>cs=[.int ik x]
 |.bo,x,cs=>cs=[.bool x]
 |.st,x,cs=>cs=[.string ⟨x.toArray⟩]
 |.list k,l,cs=>∃ v,cs=[v]∧SlRel h k.size (fun x c=>KC h k x c) l v
 |.pair a b,x,cs=>∃ c1 c2,cs=c1++c2∧KC h a x.1 c1∧KC h b x.2 c2
theorem Rows.length {α:Type}{R:α→List Value→Prop}{n:Nat}(hR:∀ x c,R x c→c.length=n) {xs:List α}{cs:List Value}(h:Rows R xs cs):cs.length=xs.length*n:=by
 induction h with
 |nil=>simp
 |cons h _ ih=>simp only[List.length_append,hR _ _ h,ih,List.length_cons,Nat.add_mul,Nat.one_mul];omega
theorem Rows.mono {α:Type}{R R':α→List Value→Prop}(hR:∀ x c,R x c→R' x c) {xs:List α}{cs:List Value}(h:Rows R xs cs):Rows R' xs cs:=by
 induction h with
 |nil=>exact .nil
 |cons h _ ih=>exact .cons (hR _ _ h) ih
theorem Rows.append {α:Type}{R:α→List Value→Prop}{xs ys:List α}{cs ds:List Value}(h:Rows R xs cs) (h':Rows R ys ds):Rows R (xs++ys) (cs++ds):=by
 induction h with
 |nil=>exact h'
 |cons h _ ih=>rw[List.append_assoc];exact .cons h ih
theorem Rows.at {α:Type}{R:α→List Value→Prop}{n:Nat}(hR:∀ x c,R x c→c.length=n) {xs:List α}{cs:List Value}(h:Rows R xs cs) {k:Nat}(hk:k<xs.length):R xs[k] ((cs.drop (k*n)).take n):=by
 induction h generalizing k with
 |nil=>simp at hk
 |@cons x xs c cs h t ih =>
  have hc:=hR _ _ h;cases k with
  |zero=>simp only[Nat.zero_mul,List.drop_zero,List.getElem_cons_zero];rw[←hc,List.take_left];exact h
  |succ k =>
   have:=ih (k:=k) (by simpa using hk);rw[List.getElem_cons_succ,Nat.add_mul,Nat.one_mul];have e:(c++cs).drop (k*n+n)=cs.drop (k*n):=by rw[List.drop_append,hc];rw[List.drop_eq_nil_of_le (by omega)];simp
   rw[e];exact this
theorem Rows.take {α:Type}{R:α→List Value→Prop}{n:Nat}(hR:∀ x c,R x c→c.length=n) {xs:List α}{cs:List Value}(h:Rows R xs cs) (k:Nat):Rows R (xs.take k) (cs.take (k*n)):=by
 induction h generalizing k with
 |nil=>simp;exact .nil
 |@cons x xs c cs h t ih =>
  have hc:=hR _ _ h;cases k with
  |zero=>simp;exact .nil
  |succ k =>have e1:c.take ((k+1)*n)=c:=List.take_of_length_le (by rw[hc,Nat.add_mul];omega);rw[List.take_succ_cons,List.take_append,hc,show (k+1)*n-n=k*n by rw[Nat.add_mul];omega,e1];exact .cons h (ih k)
theorem Rows.drop {α:Type}{R:α→List Value→Prop}{n:Nat}(hR:∀ x c,R x c→c.length=n) {xs:List α}{cs:List Value}(h:Rows R xs cs) (k:Nat):Rows R (xs.drop k) (cs.drop (k*n)):=by
 induction h generalizing k with
 |nil=>simp;exact .nil
 |@cons x xs c cs h t ih =>
  have hc:=hR _ _ h;cases k with
  |zero=>simp;exact .cons h t
  |succ k =>have e1:c.drop ((k+1)*n)=[]:=List.drop_eq_nil_of_le (by rw[hc,Nat.add_mul];omega);rw[List.drop_succ_cons,List.drop_append,hc,show (k+1)*n-n=k*n by rw[Nat.add_mul];omega,e1,List.nil_append];exact ih k
theorem Rows.set {α:Type}{R:α→List Value→Prop}{n:Nat}(hR:∀ x c,R x c→c.length=n) {xs:List α}{cs:List Value}(h:Rows R xs cs) {k:Nat}(hk:k<xs.length) {y:α}{d:List Value}(hd:R y d):Rows R (xs.set k y) (cs.take (k*n)++d++cs.drop (k*n+n)):=by
 have e:xs.set k y=xs.take k++([y]++xs.drop (k+1)):=by rw[List.set_eq_take_append_cons_drop,if_pos hk];rfl
 rw[e,List.append_assoc];have h2:=h.drop hR (k+1);rw[Nat.add_mul,Nat.one_mul] at h2;exact(h.take hR k).append ((show Rows R [y] d by simpa using Rows.cons hd .nil).append h2)
theorem Rows.replicate {α:Type}{R:α→List Value→Prop}{x:α}{c:List Value}(h:R x c):∀ n,Rows R (List.replicate n x) (List.replicate n c).flatten
 |0=>by simp;exact .nil
 |n+1=>by simp only[List.replicate_succ,List.flatten_cons];exact .cons h (Rows.replicate h n)
theorem KC.length {h:Heap}:∀ {k:Kind}{x:k.T}{cs:List Value},KC h k x cs→cs.length=k.size
 |.i _,_,_,e|.bo,_,_,e|.st,_,_,e=>by simp only[KC] at e;subst e;rfl
 |.list k,l,cs,e=>by obtain⟨v,rfl,_⟩:=e;rfl
 |.pair a b,x,cs,e=>by obtain⟨c1,c2,rfl,h1,h2⟩:=e;simp only[List.length_append,KC.length h1,KC.length h2,Kind.size]
theorem SlRel.mono {h h':Heap}(hl:h.Le h') {sz:Nat}{α:Type}{R R':α→List Value→Prop}(hR:∀ x c,R x c→R' x c) {l:List α}{v:Value}(hs:SlRel h sz R l v):SlRel h' sz R' l v:=by
 rcases hs with hs|⟨i,o,cap,c,e,wr,t,h1,h2,h3,h4,h5,h6⟩
 ·exact .inl hs
 ·exact .inr ⟨i,o,cap,c,e,wr,t,h1,h2,hl.2 _ _ h3,h4,h5,h6.mono hR⟩
theorem KC.mono {h h':Heap}(hl:h.Le h'):∀ {k:Kind}{x:k.T}{cs:List Value},KC h k x cs→KC h' k x cs
 |.i _,_,_,e|.bo,_,_,e|.st,_,_,e=>e
 |.list k,l,cs,e=>by obtain⟨v,hv,hs⟩:=e;exact⟨v,hv,hs.mono hl fun x c hx=>KC.mono (k:=k) hl hx⟩
 |.pair a b,x,cs,e=>by obtain⟨c1,c2,hc,h1,h2⟩:=e;exact⟨c1,c2,hc,KC.mono hl h1,KC.mono hl h2⟩
theorem KC.cellOk {h:Heap}:∀ {k:Kind}{x:k.T}{cs:List Value},KC h k x cs→cs.all cellOk=true
 |.i _,_,_,e|.bo,_,_,e|.st,_,_,e=>by simp only[KC] at e;subst e;rfl
 |.list k,l,cs,e=>by obtain⟨v,rfl,hs⟩:=e;rcases hs with⟨_,rfl⟩|⟨i,o,cap,c,e,wr,t,rfl,_⟩<;>rfl
 |.pair a b,x,cs,e=>by obtain⟨c1,c2,rfl,h1,h2⟩:=e;rw[List.all_append,KC.cellOk h1,KC.cellOk h2];rfl
def Ka:(k:Kind)→k.T→List SV
 |.pair a b,x=>Ka a x.1++Ka b x.2
 |.i k,x=>[.val (.i k) x]
 |.bo,x=>[.val .bo x]
 |.st,x=>[.val .st x]
 |.list k,x=>[.val (.list k) x]
def Rc:(k:Kind)→k.T→SV
 |.pair a b,x=>.agg (Ka (.pair a b) x)
 |.i k,x=>.val (.i k) x
 |.bo,x=>.val .bo x
 |.st,x=>.val .st x
 |.list k,x=>.val (.list k) x
inductive RowsO {α:Type}(R:α→List Value→List Nat→Prop):List α→List Value→List Nat→Prop
 |nil:RowsO R [] [] []
 |cons {x:α}{xs:List α}{c cs:List Value}{is js:List Nat}(h:R x c is) (t:RowsO R xs cs js):RowsO R (x::xs) (c++cs) (is++js)
def KO (H:Heap):(q:Option Nat)→(k:Kind)→k.T→List Value→List Nat→Prop
 |_,.i ik,x,cs,is=>cs=[.int ik x]∧is=[]
 |_,.bo,x,cs,is=>cs=[.bool x]∧is=[]
 |_,.st,x,cs,is=>cs=[.string ⟨x.toArray⟩]∧is=[]
 |q,.list k,l,cs,is=>(l=[]∧cs=[.slice none 0 0]∧is=[])∨∃ i cap c e t js,cs=[.slice (some ⟨i,0,none⟩) l.length cap]∧is=i::js∧l.length≤cap∧H.get i=some (.cells c e true t)∧e.sz=k.size∧(∀ ty,q=some ty→e.ty=ty)∧cap*k.size≤c.length ∧
   RowsO (fun x c is=>KO H none k x c is) l (c.take (l.length*k.size)) js
 |_,.pair a b,x,cs,is=>∃ c1 c2 i1 i2,cs=c1++c2∧is=i1++i2∧KO H none a x.1 c1 i1∧KO H none b x.2 c2 i2
def Q6e (i:Nat):Blk→Value
 |.cells c e _ t=>.tuple #[.int .i64 (i:Nat),.agg c.toArray,.int .i64 (e.sz:Nat),.int .i64 (e.ty:Nat),.bool t]
 |_=>.bool true
def Q5k:Value→Option (Nat×Blk)
 |.tuple ⟨[.int _ i,.agg c,.int _ sz,.int _ ty,.bool t]⟩=>some (i.toNat,.cells c.toList ⟨sz.toNat,ty.toNat⟩ true t)
 |_=>none
def OG:List Value→List (Nat×Blk)
 |[]=>[]
 |v::vs=>match Q5k v with|some p=>p::OG vs|none=>OG vs
def Hh:List (Nat×Blk)→Nat→Option Blk
 |[],_=>none
 |(j,b)::r,i=>if i=j then some b else Hh r i
def FL:List (Nat×Blk)→Nat
 |[]=>0
 |(j,_)::r=>max (j+1) (FL r)
theorem Pp:∀ (l:List (Nat×Blk)) (i:Nat),FL l≤i→Hh l i=none
 |[],_,_=>rfl
 |(j,b)::r,i,h=>by
  simp only[FL] at h;have:¬ i=j:=by omega
  simp only[Hh,if_neg this];exact Pp r i (by omega)
def Fj (l:List (Nat×Blk)):Heap:=⟨Hh l,FL l,fun i h=>Pp l i h⟩
def phd:Value→Value
 |.tuple ⟨v::_⟩=>v
 |v=>v
def JC:Value→Heap
 |.tuple ⟨_::vs⟩=>Fj (OG vs)
 |_=>Fj []
def DR (p:Value):DW→Value→Prop
 |.out,v=>v=phd p∧∃ a n c,v=.slice a n c
 |.el i off sz,v=>∃ b len cap,phd p=.slice (some ⟨b,0,none⟩) len cap∧0≤i∧i<len∧v=.pointer (some ⟨b,i.toNat*sz+off,none⟩)
 |.row k x i,v=>KC (JC p) (.list k) x [v]∧(∀ a n c,v=.slice (some a) n c→a.off=0)∧∃ b len cap c e t,phd p=.slice (some ⟨b,0,none⟩) len cap∧0≤i∧i<len∧(JC p).get b=some (.cells c e true t)∧c[i.toNat]?=some v
 |.rowp k x i j off,v=>∃ b len cap c e t r rl rc bB re rt,phd p=.slice (some ⟨b,0,none⟩) len cap∧0≤i∧i<len∧(JC p).get b=some (.cells c e true t)∧c[i.toNat]?=some (.slice (some ⟨r,0,none⟩) rl rc)∧0≤j∧j<rl∧x.length=rl∧(JC p).get r=some (.cells bB re true rt)∧rl*k.size≤bB.length∧Rows (KC (JC p) k) x (bB.take (rl*k.size))∧v=.pointer (some ⟨r,j.toNat*k.size+off,none⟩)
 |.inn k x,v=>KC (JC p) (.list k) x [v]
 |.inp k l j off,v=>∃ b o c e wr t,0≤j∧j<l.length∧(JC p).get b=some (.cells c e wr t)∧v=.pointer (some ⟨b,o+j.toNat*k.size+off,none⟩)∧o+l.length*k.size≤c.length∧Rows (KC (JC p) k) l ((c.drop o).take (l.length*k.size))
 |.dat,v=>(phd p=.slice none 0 0∧v=.pointer none)∨∃ b n cap,phd p=.slice (some ⟨b,0,none⟩) n cap∧0<n∧v=.pointer (some ⟨b,0,none⟩)
 |.yv,v=>∃ i,p=.pointer (some ⟨i,0,none⟩)∧v=.func (.yield i) #[] #[]
 |.obx c,v=>(c=false∧v=.pointer none)∨(c=true∧∃ b,phd p=.pointer (some ⟨b,0,none⟩)∧v=.pointer (some ⟨b,0,none⟩))
def KV (h:Heap) (k:Kind) (x:k.T) (v:Value):Prop:=(k.one=true∧KC h k x [v])∨(k.one=false∧∃ cs,v=.agg cs.toArray∧KC h k x cs)
theorem KV.mono {h h':Heap}(hl:h.Le h') {k:Kind}{x:k.T}{v:Value}(e:KV h k x v):KV h' k x v:=by
 rcases e with⟨ho,e⟩|⟨ho,cs,hv,e⟩
 ·exact .inl ⟨ho,e.mono hl⟩
 ·exact .inr ⟨ho,cs,hv,e.mono hl⟩
def By (h:Heap):(ks:List Kind)→AT ks→List Value→Prop
 |[],_,vs=>vs=[]
 |[k],x,vs=>∃ v,vs=[v]∧KV h k x v
 |k::k'::ks,x,vs=>∃ v cK,vs=v::cK∧KV h k x.1 v∧By h (k'::ks) x.2 cK
def gtb (tb:Nat→Option Bool):SV→Prop
 |.bid n c=>tb n=some c
 |_=>True
section
variable (P:Program)
def PfRel (B:Heap) (ks:List Kind) (r:Kind) (cF:AT ks→Prop) (p:AT ks→r.T) (v:Value):Prop :=
 ∃ g first cap,v=.func (.func g) first cap∧∀ x,cF x→∀ σ vs,B.Le σ→By σ ks x vs→VCalled P g (first.toList++vs++cap.toList) σ fun v' σ'=>σ'=σ∧KV σ r (p x) v'
mutual
def SR (B:Heap) (pl:Nat→Value) (tb:Nat→Option Bool):SV→Value→Prop
 |.any,_=>True
 |.val k x,v=>KC B k x [v]
 |.bid n c,v=>v=.bool c∧tb n=some c
 |.grd gs v,u=>((∀ g∈gs,tb g.id=some g.c)∧gtb tb v)∧((∀ g∈gs,g.c=g.want)→SR B pl tb v u)∧((∃ g∈gs,g.c≠g.want)→u=undef)
 |.nilS,v=>v=.slice none 0 0
 |.nilP,v=>v=.pointer none
 |.nilM,v=>v=.map none
 |.nilF,v=>v=.nilFunc
 |.lst o,v=>v=pl o∧∃ a n c,v=.slice a n c
 |.sub o lo n sz,v=>(lo=0∧n=0∧v=.slice none 0 0∧pl o=.slice none 0 0)∨∃ i len cap aq,pl o=.slice (some ⟨i,0,none⟩) len cap∧lo+n≤len∧n≤aq∧v=.slice (some ⟨i,lo*sz,none⟩) n aq
 |.elp o i off sz,v=>∃ b len cap,pl o=.slice (some ⟨b,0,none⟩) len cap∧0≤i∧i<len∧v=.pointer (some ⟨b,i.toNat*sz+off,none⟩)
 |.rop k l i off,v=>∃ b o c e wr t,0≤i∧i<l.length∧B.get b=some (.cells c e wr t)∧v=.pointer (some ⟨b,o+i.toNat*k.size+off,none⟩)∧o+l.length*k.size≤c.length∧Rows (KC B k) l ((c.drop o).take (l.length*k.size))
 |.box o off,v=>∃ b,pl o=.pointer (some ⟨b,0,none⟩)∧v=.pointer (some ⟨b,off,none⟩)
 |.cp l off,v=>∃ b c e wr t,B.get b=some (.cells c e wr t)∧v=.pointer (some ⟨b,off,none⟩)∧SRs B pl tb l c
 |.map o,v=>v=pl o∧∃ m,v=.map m
 |.agg l,v=>∃ cs,v=.agg cs.toArray∧SRs B pl tb l cs
 |.tup l,v=>∃ cs,v=.tuple cs.toArray∧SRs B pl tb l cs
 |.dd o w,v=>DR (pl o) w v
 |.fn f first c_,v=>∃ a b,v=.func (.func f) a.toArray b.toArray∧SRs B pl tb first a∧SRs B pl tb c_ b
 |.pf ks r cF p,v=>PfRel P B ks r cF p v
def SRs (B:Heap) (pl:Nat→Value) (tb:Nat→Option Bool):List SV→List Value→Prop
 |[],vs=>vs=[]
 |s::ss,vs=>∃ v cK,vs=v::cK∧SR B pl tb s v∧SRs B pl tb ss cK
end
end
end Go.V
namespace Go.V
open Go
abbrev Own:=List (Nat×OB)
def Qg:Own→Nat→OB
 |[],_=>.dead
 |(k,b)::r,d=>bif Nat.beq k d then b else Qg r d
def oset:Own→Nat→OB→Own
 |[],d,b=>[(d,b)]
 |(k,c)::r,d,b=>bif Nat.beq k d then (d,b)::r else bif Nat.blt d k then (d,b)::(k,c)::r else (k,c)::oset r d b
structure St where
 env:List SV
 own:Own
 nx:Nat
mutual
def SV.kill (o:Nat):SV→SV
 |.lst o'=>bif Nat.beq o' o then .any else .lst o'
 |.sub o' lo n sz=>bif Nat.beq o' o then .any else .sub o' lo n sz
 |.elp o' i off sz=>bif Nat.beq o' o then .any else .elp o' i off sz
 |.dd o' w=>bif Nat.beq o' o then .any else .dd o' w
 |.box o' off=>bif Nat.beq o' o then .any else .box o' off
 |.map o'=>bif Nat.beq o' o then .any else .map o'
 |.grd gs v=>.grd gs (SV.kill o v)
 |.agg l=>.agg (SVs.kill o l)
 |.tup l=>.tup (SVs.kill o l)
 |.cp l off=>.cp (SVs.kill o l) off
 |.fn f a b=>.fn f (SVs.kill o a) (SVs.kill o b)
 |.any=>.any
 |.val k x=>.val k x
 |.bid n c=>.bid n c
 |.nilS=>.nilS
 |.nilP=>.nilP
 |.nilM=>.nilM
 |.nilF=>.nilF
 |.rop k l i off=>.rop k l i off
 |.pf ks r cF p=>.pf ks r cF p
def SVs.kill (o:Nat):List SV→List SV
 |[]=>[]
 |s::ss=>SV.kill o s::SVs.kill o ss
end
def OB.kill (o:Nat):OB→OB
 |.cells l u=>.cells (SVs.kill o l) u
 |.dead=>.dead
 |.lst ty k xs nl=>.lst ty k xs nl
 |.map kk vk m=>.map kk vk m
 |.stk l vals=>.stk (SVs.kill o l) vals
 |.deep ty q k xs nl h=>.deep ty q k xs nl h
 |.iter kk vk m dn=>.iter kk vk m dn
 |.mapE kk vk m key n=>.mapE kk vk m key n
 |.lpf l q s=>.lpf (SVs.kill o l) q s
def SK (o:Nat):Own→Own
 |[]=>[]
 |(k,b)::r=>bif Nat.beq k o then SK o r else (k,b.kill o)::SK o r
def St.kill (s:St) (o:Nat):St:=⟨SVs.kill o s.env,SK o s.own,s.nx⟩
def St.make (s:St) (o:Nat) (b:OB):St:=⟨(s.kill o).env,oset (s.kill o).own o b,s.nx⟩
def St.put (s:St) (d:Option Nat) (v:SV):St:=match d with
 |some d=>⟨s.env.set d v,s.own,s.nx⟩
 |none=>s
def cvp:Value→SV
 |.bool b=>.val .bo b
 |.int k x=>.val (.i k) x
 |.string s=>.val .st s.data.toList
 |.pointer none=>.nilP
 |.slice none 0 0=>.nilS
 |.map none=>.nilM
 |.nilFunc=>.nilF
 |_=>.any
def cv:Value→SV
 |.agg cs=>.agg (cs.toList.map cvp)
 |v=>cvp v
def Fm:List Gd→List Gd→Bool
 |[],_=>true
 |_::_,[]=>false
 |a::l,b::m=>bif Nat.beq a.id b.id&&(a.want==b.want) then Fm l m else Fm (a::l) m
def Cj (gs:List Gd):SV→SV
 |.grd g v=>bif Fm g gs then v else .any
 |v=>v
def gev (gs:List Gd) (env:List SV):Operand→SV
 |.tmp t=>Cj gs (env.getD t .any)
 |.const v=>cv v
 |.func f=>.fn f [] []
 |.global _=>.any
def KN {k:Kind}(l:List k.T) (k':Kind):Option (List k'.T):=if h:k=k' then some (h▸l) else none
def Lr {k:Kind}(x:k.T) (k':Kind):Option k'.T:=if h:k=k' then some (h▸x) else none
def asB:SV→Option Bool
 |.val .bo b=>some b
 |.bid _ c=>some c
 |_=>none
def asI:SV→Option (IntKind×Int)
 |.val (.i k) x=>some (k,x)
 |_=>none
def asS:SV→Option (List UInt8)
 |.val .st x=>some x
 |_=>none
def Kind.flat:Kind→Bool
 |.list _=>false
 |.pair a b=>a.flat&&b.flat
 |_=>true
def view (own:Own) (k:Kind):SV→Option (List k.T)
 |.nilS=>some []
 |.val (.list _k') l=>KN l k
 |.lst o=>match Qg own o with|.lst _ _k' xs _=>KN xs k|_=>none
 |.sub o lo n sz=>match Qg own o with|.lst _ k' xs _=>if sz=k'.size then (KN xs k).map fun xs=>(xs.drop lo).take n else none|_=>none
 |.dd o w=>bif k.flat then (match Qg own o with
  |.deep _ _ _ xs _ h=>(match w with
   |.out=>(match h with|none=>KN xs k|some _=>none)
   |.inn _ l=>KN l k
   |.row _ l _=>KN l k
   |_=>none)
  |_=>none) else none
 |_=>none
def Q2k (own:Own):SV→Option Nat
 |.nilS=>some 0
 |.val (.list _) l=>some l.length
 |.lst o=>match Qg own o with|.lst _ _ xs _=>some xs.length|_=>none
 |.sub _ _ n _=>some n
 |.dd o w=>(match Qg own o with
  |.deep _ _ _ xs _ h=>(match w with
   |.out=>(match h with|none=>some xs.length|some _=>none)
   |.inn _ l=>some l.length
   |.row _ l _=>some l.length
   |_=>none)
  |_=>none)
 |_=>none
def SV.solid:SV→Bool
 |.agg _|.tup _|.any|.grd _ _=>false
 |_=>true
def VL:SV→Option (List SV)
 |.agg l=>bif l.all SV.solid then some l else none
 |.tup _=>none
 |.any=>none
 |.grd _ _=>none
 |v=>some [v]
def BA:(k:Kind)→List SV→Option k.T
 |.i ik,[v]=>match v with|.val (.i qY) x=>if ik=qY then some x else none|_=>none
 |.bo,[v]=>asB v
 |.st,[v]=>asS v
 |.list k,[v]=>match v with|.nilS=>some []|.val (.list _k') l=>KN l k|_=>none
 |.pair a b,l=>match BA a (l.take a.size),BA b (l.drop a.size) with
  |some x,some y=>some (x,y)
  |_,_=>none
 |_,_=>none
def dkV (k:Kind) (v:SV):Option k.T:=bif k.one then BA k [v] else match v with|.agg l=>BA k l|_=>none
def Rq (k:Kind) (z:Value):List Value:=bif k.one then [z] else match z with|.agg a=>a.toList|_=>[]
def Oj:(k:Kind)→Nat→SV→k.T→Option k.T
 |.pair a b,off,v,x=>bif Nat.blt off a.size then (Oj a off v x.1).map fun y=>(y,x.2) else (Oj b (off-a.size) v x.2).map fun y=>(x.1,y)
 |.i ik,_,v,_=>BA (.i ik) [v]
 |.bo,_,v,_=>BA .bo [v]
 |.st,_,v,_=>BA .st [v]
 |.list k,_,v,_=>BA (.list k) [v]
def Y6:Kind→List Value→Bool
 |.i ik,[.int k x]=>decide (ik=k)&&(x==0)
 |.bo,[.bool b]=>!b
 |.st,[.string s]=>s.data.toList.isEmpty
 |.list _,[.slice none 0 0]=>true
 |.pair a b,l=>Y6 a (l.take a.size)&&Y6 b (l.drop a.size)
 |_,_=>false
def InK (k:IntKind) (x:Int):Prop:=k.min≤x∧x≤k.max
def FW:List Gd→Prop→Prop
 |[],p=>p
 |g::gs,p=>g.c=g.want→FW gs p
def HD (gs:List Gd):List Prop→Prop→Prop
 |[],q=>q
 |c::cs,q=>FW gs c∧HD gs cs q
abbrev CSp:=(SV→List SV→Option (Prop×SV))→List SV→Option (Prop×SV×List OB)
abbrev XSp:=Nat→List SV→St→(SV→St→Prop)→Prop
abbrev ISp:=List SV→Option (Prop×Nat×Nat×(Nat→List SV))
abbrev YSp:=List SV→St→(SV→St→Prop)→Prop
abbrev OJ:=Nat→List SV→Nat×YSp→St→(St→Prop)→Prop
structure Cx where
 kt:List (Nat×Kind)
 cs:List (Nat×CSp)
 nt:Nat
 raw:List Nat
 off:Nat
 xs:List (Nat×XSp)
 it:List (Nat×ISp)
 el:List (Nat×Nat):=[]
 jn:List Nat:=[]
 nm:Bool:=false
 yl:List (Nat×YSp):=[]
 iy:List (Nat×OJ):=[]
 spl:List Nat:=[]
 xf:List (Nat×Nat):=[]
def Qs {α:Type _}:List (Nat×α)→Nat→Option α
 |[],_=>none
 |(k,x)::r,d=>bif Nat.beq k d then some x else Qs r d
mutual
def Dk (own:Own) (bx:List SV→Nat→SV):SV→SV
 |.lst o=>match Qg own o with|.lst _ k xs _=>.val (.list k) xs|_=>.any
 |.sub o lo n sz=>match Qg own o with|.lst _ k xs _=>if sz=k.size then .val (.list k) ((xs.drop lo).take n) else .any|_=>.any
 |.box o off=>match Qg own o with|.cells l _=>bx l off|_=>.any
 |.agg l=>.agg (G9 own bx l)
 |.fn f a b=>.fn f (G9 own bx a) (G9 own bx b)
 |.bid _ c=>.val .bo c
 |.val k x=>.val k x
 |.nilS=>.nilS
 |.nilP=>.nilP
 |.nilM=>.nilM
 |.nilF=>.nilF
 |.rop k l i off=>.rop k l i off
 |.cp l off=>.cp (G9 own bx l) off
 |.pf ks r cF p=>.pf ks r cF p
 |.any=>.any
 |.grd _ _=>.any
 |.elp _ _ _ _=>.any
 |.dd o w=>(match Qg own o with
  |.deep _ _ k xs _ h=>(match w with
   |.out=>(match h with|none=>.val (.list k) xs|some _=>.any)
   |.inn k x=>.val (.list k) x
   |.row k x _=>.val (.list k) x
   |_=>.any)
  |_=>.any)
 |.map _=>.any
 |.tup _=>.any
def G9 (own:Own) (bx:List SV→Nat→SV):List SV→List SV
 |[]=>[]
 |s::ss=>Dk own bx s::G9 own bx ss
end
def Q48 (own:Own) (l:List SV):List SV:=G9 own (fun _ _=>.any) l
def Q4s (own:Own) (l:List SV):List SV:=G9 own (fun c off=>.cp (Q48 own c) off) l
def Q64 (own:Own) (l:List SV):List SV:=G9 own (fun c off=>.cp (Q4s own c) off) l
def BM (own:Own) (l:List SV):List SV:=Q64 own l
def Gj:BinOp→Int→Int→Int
 |.add,a,b=>a+b
 |.sub,a,b=>a-b
 |_,a,b=>a*b
def Xe (a b:Int):Int:=if b > a then b else a
def Wa (a b:Int):Int:=if b<a then b else a
def Bm (k:IntKind) (x y:Int):Int:=x*2 ^ (Nat.min y.toNat k.bits)
def At (k:IntKind) (x y:Int):Int:=x.fdiv (2 ^ (Nat.min y.toNat k.bits))
def gfill (c:List SV):List (Nat×Nat×SV)→Option (List SV)
 |[]=>some c
 |(o,sz,v)::rest=>match VL v with
  |some vs=>if vs.length=sz∧o+sz≤c.length then gfill (setS c o vs) rest else none
  |none=>none
 where setS (c:List SV) (o:Nat):List SV→List SV
 |[]=>c
 |v::vs=>setS (c.set o v) (o+1) vs
def My (agg:Bool) (size:Nat) (l:List SV) (off:Nat):Option SV :=
 bif agg then (if off+size≤l.length then some (.agg ((l.drop off).take size)) else none) else l[off]?
def V_ (o:Nat):(k:Kind)→k.T→List SV
 |.pair a b,x=>V_ o a x.1++V_ o b x.2
 |.list k,x=>[.dd o (.inn k x)]
 |.i k,x=>[.val (.i k) x]
 |.bo,x=>[.val .bo x]
 |.st,x=>[.val .st x]
def Q28 (o:Nat) (i:Int):(k:Kind)→k.T→List SV
 |.list k,x=>[.dd o (.row k x i)]
 |.pair a b,x=>V_ o (.pair a b) x
 |.i k,x=>[.val (.i k) x]
 |.bo,x=>[.val .bo x]
 |.st,x=>[.val .st x]
def Au (own:Own) (agg:Bool) (size:Nat):SV→Option SV
 |.box o off=>match Qg own o with|.cells l _=>My agg size l off|_=>none
 |.cp l off=>My agg size l off
 |.elp o i off sz=>match Qg own o with|.lst _ k xs _=>if sz=k.size∧off+size≤sz then My agg size (Ka k (xs.getD i.toNat k.dflt)) off else none|_=>none
 |.rop k l i off=>if off+size≤k.size then My agg size (Ka k (l.getD i.toNat k.dflt)) off else none
 |.dd o w=>(match Qg own o with
  |.deep _ _ k xs _ h=>(match h with
   |none=>(match w with
    |.el i off sz=>if sz=k.size∧off+size≤sz then My agg size (Q28 o i k (xs.getD i.toNat k.dflt)) off else none
    |.rowp k' x _ j off=>if off+size≤k'.size then My agg size (V_ o k' (x.getD j.toNat k'.dflt)) off else none
    |.inp k' l j off=>if off+size≤k'.size then My agg size (V_ o k' (l.getD j.toNat k'.dflt)) off else none
    |_=>none)
   |some _=>none)
  |_=>none)
 |_=>none
def Xa (ev:Operand→SV):Option Operand→Int→Option Int
 |none,d=>some d
 |some x,_=>(asI (ev x)).map (·.2)
def Ll (k:MK) (a b:SV):Option Bool:=match k with
 |.int q=>(match asI a,asI b with|some (q1,x),some (q2,y)=>if q1=q∧q2=q then some (x==y) else none|_,_=>none)
 |.bool=>(match asB a,asB b with|some x,some y=>some (x==y)|_,_=>none)
 |.string=>(match asS a,asS b with|some x,some y=>some (x==y)|_,_=>none)
 |.agg _=>none
def Db:List MK→List SV→List SV→Option Bool
 |[],_,_=>none
 |k::ks,a::l,b::m=>(match ks with
  |[]=>(match l,m with|[],[]=>Ll k a b|_,_=>none)
  |k'::ks=>(match Ll k a b,Db (k'::ks) l m with|some x,some y=>some (x&&y)|_,_=>none))
 |_::_,_,_=>none
def Bz (xs:List Int):List UInt8:=xs.map fun x=>x.toNat.toUInt8
def gq (_kt:List (Nat×Kind)) (raw:Bool) (o:VOp) (ev:Operand→SV) (own:Own):Option (List Prop×SV) :=
 match o with
 |.move x=>some ([],ev x)
 |.arith op x y=>match asI (ev x),asI (ev y) with
  |some (k,a),some (k',b)=>if k=k' then (bif raw then some ([],.val (.i k) (k.wrap (Gj op a b))) else some ([InK k (Gj op a b)],.val (.i k) (Gj op a b))) else none
  |_,_=>none
 |.div op x y=>match asI (ev x),asI (ev y) with
  |some (k,a),some (k',b)=>if k=k' then (match op with
   |.quo=>some ([b≠0,InK k (a.tdiv b)],.val (.i k) (a.tdiv b))
   |_=>some ([b≠0],.val (.i k) (a.tmod b))) else none
  |_,_=>none
 |.bits op x y=>match asI (ev x),asI (ev y) with
  |some (k,a),some (k',b)=>if k=k' then some ([],.val (.i k) (YQ op k a b)) else none
  |_,_=>none
 |.shift op x y=>match asI (ev x),asI (ev y) with
  |some (k,a),some (_,b)=>(match op with
   |.shl=>bif raw then some ([0≤b],.val (.i k) (k.wrap (Bm k a b))) else some ([0≤b,InK k (Bm k a b)],.val (.i k) (Bm k a b))
   |_=>some ([0≤b],.val (.i k) (At k a b)))
  |_,_=>none
 |.cmp op x y=>match asI (ev x),asI (ev y) with
  |some (k,a),some (k',b)=>if k=k' then some ([],.val .bo (Q0p op a b)) else none
  |_,_=>none
 |.str op x y=>match asS (ev x),asS (ev y) with
  |some a,some b=>(match op with
   |.add=>some ([a.length+b.length≤4611686018427387904],.val .st (a++b))
   |.eql=>some ([],.val .bo (a==b))
   |.neq=>some ([],.val .bo (!(a==b)))
   |.lss=>some ([],.val .bo (Op.bytesLess a b))
   |_=>none)
  |_,_=>none
 |.eqB neg x y=>match asB (ev x),asB (ev y) with
  |some a,some b=>some ([],.val .bo (if neg then !(a==b) else (a==b)))
  |_,_=>none
 |.un op x=>match op with
  |.not=>match asB (ev x) with|some b=>some ([],.val .bo (!b))|none=>none
  |.neg=>match asI (ev x) with|some (k,n)=>some ([InK k (0-n)],.val (.i k) (0-n))|none=>none
  |.xor=>match asI (ev x) with|some (k,n)=>some ([],.val (.i k) (YQ .xor k (if k.signed then -1 else k.max) n))|none=>none
  |_=>none
 |.convI k x=>match asI (ev x) with
  |some (_,n)=>bif raw then some ([],.val (.i k) (k.wrap n)) else some ([InK k n],.val (.i k) n)
  |none=>none
 |.convS x=>match asS (ev x) with|some s=>some ([],.val .st s)|none=>none
 |.build z parts=>match gfill (z.map cvp) (parts.map fun p=>(p.1,p.2.1,ev p.2.2)) with|some l=>some ([],.agg l)|none=>none
 |.load agg size a=>bif Nat.blt 0 size then (Au own agg size (ev a)).map fun v=>([],v) else none
 |.fieldAddr off a=>match ev a with
  |.box o f=>some ([],.box o (f+off))
  |.cp l f=>some ([],.cp l (f+off))
  |.elp o i f sz=>some ([],.elp o i (f+off) sz)
  |.dd o w=>(match w with
   |.el i f sz=>some ([],.dd o (.el i (f+off) sz))
   |.rowp k x i j f=>some ([],.dd o (.rowp k x i j (f+off)))
   |.inp k l j f=>some ([],.dd o (.inp k l j (f+off)))
   |_=>none)
  |.rop k l i f=>some ([],.rop k l i (f+off))
  |_=>none
 |.field agg off size x=>match ev x with|.agg l=>(My agg size l off).map fun v=>([],v)|_=>none
 |.indexAddr size x i=>match ev x,asI (ev i) with
  |.lst o,some (_,j)=>(match Qg own o with|.lst _ k xs _=>if k.size=size then some ([0≤j,j<xs.length],.elp o j 0 size) else none|_=>none)
  |.dd o w,some (_,j)=>(match Qg own o with
   |.deep _ _ k xs _ h=>(match w with
    |.out=>(match h with|none=>(if k.size=size then some ([0≤j,j<xs.length],.dd o (.el j 0 size)) else none)|some _=>(if k.size=size then some ([0≤j,j<xs.length],.dd o (.el j 0 size)) else none))
    |.row k x i=>if k.size=size then some ([0≤j,j<x.length],.dd o (.rowp k x i j 0)) else none
    |.inn k l=>if k.size=size then some ([0≤j,j<l.length],.dd o (.inp k l j 0)) else none
    |_=>none)
   |_=>none)
  |.sub o lo n sz,some (_,j)=>(match Qg own o with|.lst _ k _ _=>if k.size=size∧sz=size then some ([0≤j,j<n],.elp o (lo+j) 0 size) else none|_=>none)
  |.val (.list k) l,some (_,j)=>if k.size=size then some ([0≤j,j<l.length],.rop k l j 0) else none
  |_,_=>none
 |.indexStr x i=>match asS (ev x),asI (ev i) with
  |some s,some (_,j)=>some ([0≤j,j<s.length],.val (.i .u8) ((s.getD j.toNat 0).toNat:Int))
  |_,_=>none
 |.indexArr len agg size x i=>match ev x,i with
  |.agg l,.const (.int _ (Int.ofNat j))=>if j<len then (My agg size l (j*size)).map fun v=>([],v) else none
  |_,_=>none
 |.indexAddrArr len size x i=>match ev x,i with
  |.box o f,.const (.int _ (Int.ofNat j))=>if j<len then some ([],.box o (f+j*size)) else none
  |.cp l f,.const (.int _ (Int.ofNat j))=>if j<len then some ([],.cp l (f+j*size)) else none
  |_,_=>none
 |.slice size x lo hi none=>match ev x with
  |.lst o=>(match Qg own o with
   |.lst _ k xs _=>if k.size=size then (match Xa ev lo 0,Xa ev hi xs.length with
    |some a,some b=>some ([0≤a,a≤b,b≤xs.length],.sub o a.toNat (b-a).toNat size)
    |_,_=>none) else none
   |_=>none)
  |.sub o l0 n sz=>(match Qg own o with
   |.lst _ k _ _=>if k.size=size∧sz=size then (match Xa ev lo 0,Xa ev hi n with
    |some a,some b=>some ([0≤a,a≤b,b≤n],.sub o (l0+a.toNat) (b-a).toNat size)
    |_,_=>none) else none
   |_=>none)
  |.val (.list k) l=>if k.size=size then (match Xa ev lo 0,Xa ev hi l.length with
   |some a,some b=>some ([0≤a,a≤b,b≤l.length],.val (.list k) ((l.drop a.toNat).take (b-a).toNat))
   |_,_=>none) else none
  |.dd o w=>(match Qg own o with
   |.deep _ _ _ _ _ _=>(match w with
    |.inn k l=>if k.size=size then (match Xa ev lo 0,Xa ev hi l.length with
     |some a,some b=>some ([0≤a,a≤b,b≤l.length],.dd o (.inn k ((l.drop a.toNat).take (b-a).toNat)))
     |_,_=>none) else none
    |.row k l _=>if k.size=size then (match Xa ev lo 0,Xa ev hi l.length with
     |some a,some b=>some ([0≤a,a≤b,b≤l.length],.dd o (.inn k ((l.drop a.toNat).take (b-a).toNat)))
     |_,_=>none) else none
    |_=>none)
   |_=>none)
  |.nilS=>(match Xa ev lo 0,Xa ev hi 0 with
   |some a,some b=>some ([a=0,b=0],.nilS)
   |_,_=>none)
  |_=>none
 |.sliceStr x lo hi=>match asS (ev x) with
  |some s=>(match Xa ev lo 0,Xa ev hi s.length with
   |some a,some b=>some ([0≤a,a≤b,b≤s.length],.val .st ((s.drop a.toNat).take (b-a).toNat))
   |_,_=>none)
  |none=>none
 |.len x=>match Q2k own (ev x) with|some n=>some ([],.val (.i .i64) (n:Nat))|none=>none
 |.lenStr x=>match asS (ev x) with|some s=>some ([],.val (.i .i64) (s.length:Nat))|none=>none
 |.max4 x y z w=>match asI (ev x),asI (ev y),asI (ev z),asI (ev w) with
  |some (k,a),some (k2,b),some (k3,c),some (k4,d)=>if k=k2∧k=k3∧k=k4 then some ([],.val (.i k) (Xe (Xe (Xe a b) c) d)) else none
  |_,_,_,_=>none
 |.max x y=>match asI (ev x),asI (ev y) with
  |some (k,a),some (k',b)=>if k=k' then some ([],.val (.i k) (Xe a b)) else none
  |_,_=>none
 |.min x y=>match asI (ev x),asI (ev y) with
  |some (k,a),some (k',b)=>if k=k' then some ([],.val (.i k) (Wa a b)) else none
  |_,_=>none
 |.makeFunc (.func f) first cap=>some ([],.fn f (first.map ev) (cap.map ev))
 |.extract x i=>match ev x with|.tup l=>(l[i]?).map fun v=>([],v)|_=>none
 |.nilCheck x=>match ev x with
  |.box o f=>some ([],.box o f)
  |.cp l f=>some ([],.cp l f)
  |.fn f a b=>some ([],.fn f a b)
  |_=>none
 |.ext (.eqNil 1 neg x y)=>match ev x,ev y with
  |.nilS,.nilS=>some ([],.val .bo (!neg))
  |.lst o,.nilS=>(match Qg own o with|.lst _ _ _ nl=>some ([],.val .bo (bif neg then !nl else nl))|_=>none)
  |.dd o .out,.nilS=>(match Qg own o with|.deep _ _ _ _ nl _=>some ([],.val .bo (bif neg then !nl else nl))|_=>none)
  |.val (.list _) l,.nilS=>some ([l≠[]],.val .bo neg)
  |_,_=>none
 |.ext (.eqNil 0 neg x y)=>match ev x,ev y with
  |.nilP,.nilP=>some ([],.val .bo (!neg))
  |.box _ _,.nilP=>some ([],.val .bo neg)
  |.cp _ _,.nilP=>some ([],.val .bo neg)
  |.dd _ (.obx c),.nilP=>some ([],.val .bo (bif neg then c else !c))
  |.dd o (.obx c),.box o' f=>(match Qg own o with
   |.cells _ _=>if o=o'∧f=0 then some ([c=true],.val .bo (!neg)) else none
   |_=>none)
  |_,_=>none
 |.ext (.eqAgg neg s x y)=>match ev x,ev y with
  |.agg l,.agg m=>(Db s l m).map fun b=>([],.val .bo (bif neg then !b else b))
  |_,_=>none
 |.ext (.toUnsafe x)=>match ev x with
  |.box o f=>(match Qg own o with|.cells l _=>if f<l.length then some ([],.box o f) else none|_=>none)
  |_=>none
 |.ext (.fromUnsafe u size x)=>match ev x with
  |.box o f=>(match Qg own o with
   |.cells l (some t)=>if f=0∧t=u∧size≤l.length then some ([],.box o 0) else none
   |_=>none)
  |_=>none
 |.ext (.bytesStr x)=>match view own (.i .u8) (ev x) with
  |some xs=>some ([],.val .st (Bz xs))
  |none=>none
 |.ext (.sliceData x)=>match ev x with
  |.nilS=>some ([],.nilP)
  |.lst o=>(match Qg own o with|.lst _ _ xs nl=>some ([nl=false→xs≠[]],.dd o .dat)|_=>none)
  |_=>none
 |.ext (.lookup mk z ok x i)=>match ev x with
  |.map o=>(match Qg own o with
   |.map kk vk m=>if mkOk mk kk=true∧Y6 vk (Rq vk z)=true then (match dkV kk (ev i) with
    |some key=>(if ok then some ([],.tup [Rc vk (aget kk m key vk.dflt),.val .bo (ahas kk m key)]) else some ([],Rc vk (aget kk m key vk.dflt)))
    |none=>none) else none
   |_=>none)
  |_=>none
 |.ext (.entry x)=>match ev x with
  |.box o f=>(match Qg own o with
   |.iter kk vk m dn=>if f=0∧kk.keyk=true∧vk.one=true then some ([dn≠[]],.tup [Rc kk (m.getD (dn.getLastD 0) (kk.dflt,vk.dflt)).1,.val vk (m.getD (dn.getLastD 0) (kk.dflt,vk.dflt)).2]) else none
   |_=>none)
  |_=>none
 |.ext (.lenMap x)=>match ev x with
  |.map o=>(match Qg own o with|.map _ _ m=>some ([],.val (.i .i64) m.length)|_=>none)
  |_=>none
 |_=>none
 where
 mkP:MK→Kind→Bool
  |.int k,.i k'=>decide (k=k')
  |.string,.st=>true
  |.bool,.bo=>true
  |_,_=>false
 mkAt:Kind→List MK→Option (List MK)
  |.pair a b,l=>(match mkAt a l with|some r=>mkAt b r|none=>none)
  |k,m::r=>bif mkP m k then some r else none
  |_,[]=>none
 mkOk (m:MK) (k:Kind):Bool:=bif k.one then mkP m k else match m with
  |.agg l=>(match mkAt k l with|some []=>true|_=>false)
  |_=>false
 keq:(k:Kind)→k.T→k.T→Bool
  |.i _,(a:Int),b=>a==b
  |.bo,(a:Bool),b=>a==b
  |.st,(a:List UInt8),b=>a==b
  |.pair k l,x,y=>keq k x.1 y.1&&keq l x.2 y.2
  |_,_,_=>false
 aget (kk:Kind) {V:Type}:List (kk.T×V)→kk.T→V→V
  |[],_,d=>d
  |(k,v)::r,key,d=>if keq kk key k then v else aget kk r key d
 ahas (kk:Kind) {V:Type}:List (kk.T×V)→kk.T→Bool
  |[],_=>false
  |(k,_)::r,key=>keq kk key k||ahas kk r key
end Go.V
namespace Go.V
open Go
def FR (kk:Kind) {V:Type}:List (kk.T×V)→kk.T→V→List (kk.T×V)
 |[],key,v=>[(key,v)]
 |(k,x)::r,key,v=>if gq.keq kk key k then (key,v)::r else (k,x)::FR kk r key v
mutual
def SV.ret (n:Nat):SV→Bool
 |.val k _=>k.flat
 |.nilS|.nilP|.nilM|.nilF=>true
 |.lst j=>Nat.blt j n
 |.box j _=>Nat.blt j n
 |.map j=>Nat.blt j n
 |.dd j w=>(match w with|.out=>Nat.blt j n|_=>false)
 |.agg l=>SVs.ret n l
 |.tup l=>SVs.ret n l
 |_=>false
def SVs.ret (n:Nat):List SV→Bool
 |[]=>true
 |s::ss=>SV.ret n s&&SVs.ret n ss
end
mutual
def Yj:SV→Bool
 |.val k _=>k.one
 |.box _ _=>false
 |.map _=>false
 |.dd _ _=>false
 |.agg l=>KF l
 |.tup l=>KF l
 |_=>true
def KF:List SV→Bool
 |[]=>true
 |s::ss=>Yj s&&KF ss
end
def OB.isL:OB→Bool
 |.lst _ _ _ _=>true
 |_=>false
def OB.ret:OB→Bool
 |.lst _ k _ _=>k.flat
 |.cells l _=>SVs.ret 0 l
 |.map kk vk _=>kk.flat&&vk.flat
 |.dead=>false
 |.stk _ _=>false
 |.deep _ _ _ _ _ h=>h.isNone
 |.iter _ _ _ _=>false
 |.mapE _ _ _ _ _=>false
 |.lpf _ _ _=>false
def gap (cs:List (Nat×CSp)):Nat→SV→List SV→Option (Prop×SV)
 |0,_,_=>none
 |n+1,f,args=>match f with
  |.fn g a b=>(match Qs cs g with
   |some sp=>(match sp (gap cs n) (a++args++b) with
    |some (c,v,[])=>bif v.ret 0 then some (c,v) else none
    |_=>none)
   |none=>none)
  |.pf ks r cF p=>(match deca ks args with
   |some x=>bif r.flat then some (cF x,Rc r (p x)) else none
   |none=>none)
  |_=>none
 where
 deca:(ks:List Kind)→List SV→Option (AT ks)
  |[],[]=>some ()
  |[k],[v]=>asV k v
  |k::k'::ks,v::vs=>match asV k v,deca (k'::ks) vs with|some x,some y=>some (x,y)|_,_=>none
  |_,_=>none
 asV (k:Kind) (v:SV):Option k.T:=bif k.one then BA k [v] else match v with|.agg l=>BA k l|_=>none
def Yn (cs:List (Nat×CSp)) (f:SV) (args:List SV):Option (Prop×SV×List OB) :=
 match f with
 |.fn g a b=>(match Qs cs g with|some sp=>sp (gap cs 3) (a++args++b)|none=>none)
 |f=>(gap cs 3 f args).map fun (c,v)=>(c,v,[])
mutual
def SV.ren (d nt:Nat):SV→SV
 |.lst j=>.lst (d+j*nt)
 |.box j off=>.box (d+j*nt) off
 |.map j=>.map (d+j*nt)
 |.dd j w=>(match w with|.out=>.dd (d+j*nt) .out|_=>.any)
 |.agg l=>.agg (SVs.ren d nt l)
 |.tup l=>.tup (SVs.ren d nt l)
 |.any=>.any
 |.val k x=>.val k x
 |.bid _ c=>.val .bo c
 |.nilS=>.nilS
 |.nilP=>.nilP
 |.nilM=>.nilM
 |.nilF=>.nilF
 |.sub _ _ _ _|.elp _ _ _ _|.grd _ _|.cp _ _|.fn _ _ _|.rop _ _ _ _|.pf _ _ _ _=>.any
def SVs.ren (d nt:Nat):List SV→List SV
 |[]=>[]
 |s::ss=>SV.ren d nt s::SVs.ren d nt ss
end
def St.makes (s:St) (d nt:Nat):Nat→List OB→St
 |_,[]=>s
 |j,b::bs=>(s.make (d+j*nt) b).makes d nt (j+1) bs
def PD (k:Kind) (ev:Operand→SV):List (Nat×Operand)→List k.T→Option (List k.T)
 |[],xs=>some xs
 |(j,x)::r,xs=>match VL (ev x) with
  |some l=>(match BA k l with
   |some y=>if j<xs.length then PD k ev r (xs.set j y) else none
   |none=>none)
  |none=>none
mutual
def nmV:SV→(SV→Prop)→Prop
 |.val k x,K=>∀ y:k.T,y=x→K (.val k y)
 |.agg l,K=>FU l fun l'=>K (.agg l')
 |.tup l,K=>FU l fun l'=>K (.tup l')
 |.any,K=>K .any
 |.dd o w,K=>K (.dd o w)
 |.bid n c,K=>K (.bid n c)
 |.grd gs v,K=>K (.grd gs v)
 |.nilS,K=>K .nilS
 |.nilP,K=>K .nilP
 |.nilM,K=>K .nilM
 |.nilF,K=>K .nilF
 |.lst o,K=>K (.lst o)
 |.sub o lo n sz,K=>K (.sub o lo n sz)
 |.elp o i off sz,K=>K (.elp o i off sz)
 |.rop k l i off,K=>K (.rop k l i off)
 |.box o off,K=>K (.box o off)
 |.cp l off,K=>K (.cp l off)
 |.map o,K=>K (.map o)
 |.fn f a b,K=>K (.fn f a b)
 |.pf ks r cF p,K=>K (.pf ks r cF p)
def FU:List SV→(List SV→Prop)→Prop
 |[],K=>K []
 |v::r,K=>nmV v fun v'=>FU r fun r'=>K (v'::r')
end
def Q3w (o:VOp) (ev:Operand→SV):Bool:=match o with
 |.load _ _ a=>(match ev a with|.elp _ _ _ _=>true|.rop _ _ _ _=>true|.dd _ _=>true|_=>false)
 |.cmp ..|.str ..|.eqB ..|.un ..|.pick ..|.indexStr ..|.bits ..|.shift ..|.div ..|.sliceStr ..|.max ..|.max4 ..|.min ..=>true
 |.ext (.lookup ..)|.ext (.eqNil ..)|.ext (.eqAgg ..)|.ext (.entry ..)=>true
 |_=>false
def gnm (C:Cx) (o:VOp) (ev:Operand→SV) (v:SV) (K:SV→Prop):Prop:=bif C.nm&&Q3w o ev then nmV v K else K v
def Rv (C:Cx) (d:Nat) (f:SV) (args:List SV) (s:St) (K:SV→St→Prop):Prop :=
 match Yn C.cs ((BM s.own [f]).getD 0 .any) (BM s.own args) with
 |some (c,v,bs)=>bif v.ret bs.length&&(bs.all OB.ret&&Nat.blt 0 C.nt) then c∧K (v.ren d C.nt) (s.makes d C.nt 0 bs) else False
 |none=>False
def BN (C:Cx) (d:Nat) (f:SV) (args:List SV) (s:St) (K:SV→St→Prop):Prop :=
 match f with
 |.fn g a b=>(match Qs C.xs g with
  |some x=>x d (a++(args++b)) s K
  |none=>Rv C d (.fn g a b) args s K)
 |.dd o .yv=>(match Qs C.yl o with
  |some y=>y args s K
  |none=>False)
 |f=>Rv C d f args s K
def gn (C:Cx) (d:Nat) (o:VOp) (ev:Operand→SV) (s:St) (K:SV→St→Prop):Prop :=
 match o with
 |.alloc t z=>K (.box d 0) (s.make d (.cells (z.map cvp) (some t)))
 |.box t x=>match VL (ev x) with
  |some l=>K (.box d 0) (s.make d (.cells (SVs.kill d l) (some t)))
  |none=>False
 |.buildSlice e z n parts=>match Qs C.kt e.ty with
  |some k=>if k.size=e.sz∧Y6 k z=true then (match PD k ev parts (List.replicate n k.dflt) with
   |some xs=>K (.lst d) (s.make d (.lst e.ty k xs false))
   |none=>False) else False
  |none=>False
 |.makeSlice e bytes z l c=>match Qs C.kt e.ty,asI (ev l),asI (ev c) with
  |some k,some (_,a),some (_,b)=>if k.size=e.sz∧Y6 k z=true then
    HD [] [0≤a,a≤b,b*bytes≤70368744177664,b≤70368744177664] (K (.lst d) (s.make d (.lst e.ty k (List.replicate a.toNat k.dflt) false))) else False
  |_,_,_=>False
 |.append e bytes x y=>match Qs C.kt e.ty with
  |some k=>(match view s.own k (ev y) with
   |some ys=>(match ev x with
    |.nilS=>if k.size=e.sz then HD [] [ys.length*bytes≤70368744177664] (K (.lst d) (s.make d (.lst e.ty k ys ys.isEmpty))) else False
    |.lst o=>(match Qg s.own o with
     |.lst ty _k' xs nl=>if ty=e.ty∧k.size=e.sz then (match KN xs k with
      |some xs=>HD [] [(xs.length+ys.length)*bytes≤70368744177664] (K (.lst o) (s.make o (.lst ty k (xs++ys) (ys.isEmpty&&nl))))
      |none=>False) else False
     |_=>False)
    |_=>False)
   |none=>False)
  |none=>False
 |.store size a v=>match ev a,VL (ev v) with
  |.box o off,some vs=>(match Qg s.own o with
   |.cells l u=>if vs.length=size∧off+size≤l.length then K .any ⟨s.env,oset s.own o (.cells (gfill.setS l off vs) u),s.nx⟩ else False
   |_=>False)
  |.elp o i off sz,some vs=>(match Qg s.own o with
   |.lst ty k xs nl=>(if off=0∧size=k.size∧sz=k.size then (match BA k vs with
     |some x=>K .any ⟨s.env,oset s.own o (.lst ty k (xs.set i.toNat x) nl),s.nx⟩
     |none=>False)
    else if size=1∧vs.length=1∧sz=k.size∧off<k.size then (match Oj k off (vs.getD 0 .any) (xs.getD i.toNat k.dflt) with
     |some x=>K .any ⟨s.env,oset s.own o (.lst ty k (xs.set i.toNat x) nl),s.nx⟩
     |none=>False) else False)
   |_=>False)
  |_,_=>False
 |.callF f args=>BN C d (.fn f [] []) (args.map ev) s K
 |.callV f args=>BN C d (ev f) (args.map ev) s K
 |.ext (.mapUpdate mk m k v)=>match ev m with
  |.map o=>(match Qg s.own o with
   |.map kk vk l=>if gq.mkOk mk kk=true then (match dkV kk (ev k),dkV vk (ev v) with
    |some key,some x=>K .any ⟨s.env,oset s.own o (.map kk vk (FR kk l key x)),s.nx⟩
    |_,_=>False) else False
   |_=>False)
  |_=>False
 |.ext (.mapEntry mk z m k)=>match ev m with
  |.map o=>(match Qg s.own o with
   |.map kk vk l=>if gq.mkOk mk kk=true∧Y6 vk (Rq vk z)=true then (match dkV kk (ev k) with
    |some key=>∀ n:Int,K (.tup [Rc vk (gq.aget kk l key vk.dflt),.val (.i .i64) n]) ⟨s.env,oset s.own o (.mapE kk vk (FR kk l key (gq.aget kk l key vk.dflt)) key n),s.nx⟩
    |none=>False) else False
   |_=>False)
  |_=>False
 |.ext (.entryStore m st v)=>match ev m with
  |.map o=>(match Qg s.own o with
   |.mapE kk vk l key n=>(match asI (ev st),dkV vk (ev v) with
    |some (.i64,n'),some x=>n'=n∧K .any ⟨s.env,oset s.own o (.map kk vk (FR kk l key x)),s.nx⟩
    |_,_=>False)
   |_=>False)
  |_=>False
 |.ext (.rangeMap x)=>match ev x with
  |.map o=>(match Qg s.own o with
   |.map kk vk m=>if kk.keyk=true∧vk.one=true then K (.box d 0) (St.make ⟨s.env,oset s.own o .dead,s.nx⟩ d (.iter kk vk m [])) else False
   |_=>False)
  |_=>False
 |.ext (.nextMap x)=>match ev x with
  |.box o f=>(match Qg s.own o with
   |.iter kk vk m dn=>if f=0∧kk.keyk=true then ((∀ r:Nat,r<m.length→r∈dn)→K (.tup [.val .bo false]) s)∧∀ r:Nat,r<m.length→r∉dn→K (.tup [.val .bo true,.any,.any]) ⟨s.env,oset s.own o (.iter kk vk m (dn++[r])),s.nx⟩ else False
   |_=>False)
  |_=>False
 |.ext (.unsafeStr e x n)=>match ev x,asI (ev n) with
  |.nilP,some (.i64,k)=>HD [] [k=0] (K (.val .st []) s)
  |.dd o .dat,some (.i64,k)=>(match Qg s.own o with
   |.lst ty (.i .u8) xs _=>if ty=e then HD [] [k=xs.length,xs.length≤4611686018427387904] (K (.val .st (Bz xs)) (s.make o .dead)) else False
   |_=>False)
  |_,_=>False
 |.ext (.strBytes e x)=>match asS (ev x) with
  |some xs=>HD [] [xs.length≤4611686018427387904] (K (.lst d) (s.make d (.lst e (.i .u8) (xs.map fun b=>(b.toNat:Int)) false)))
  |none=>False
 |.ext (.copy size a b)=>match ev a with
  |.lst o=>(match Qg s.own o with
   |.lst ty k xs nl=>if k.size=size then (match view s.own k (ev b) with
    |some ys=>K (.val (.i .i64) (Nat.min ys.length xs.length:Nat)) ⟨s.env,oset s.own o (.lst ty k (ys.take xs.length++xs.drop ys.length) nl),s.nx⟩
    |none=>False) else False
   |_=>False)
  |.sub o lo n sz=>(match Qg s.own o with
   |.lst ty k xs nl=>if k.size=size∧sz=size then (match view s.own k (ev b) with
    |some ys=>K (.val (.i .i64) (Nat.min ys.length n:Nat)) ⟨s.env,oset s.own o (.lst ty k (xs.take lo++(ys.take n++xs.drop (lo+Nat.min ys.length n))) nl),s.nx⟩
    |none=>False) else False
   |_=>False)
  |_=>False
 |_=>False
def gnd (_:Cx) (_:Nat) (_:VOp) (_:Operand→SV) (_:St) (_:SV→St→Prop):Prop:=False
def SV.thing:SV→List Nat
 |.lst o=>[o]
 |.dd o _=>[o]
 |_=>[]
def OO (l:List SV):List Nat:=l.flatMap SV.thing
def PF (d:Nat) (o:VOp) (ev:Operand→SV):List Nat:=d::(match o with
 |.buildSlice _ _ _ parts=>parts.flatMap fun p=>(match VL (ev p.2) with|some l=>OO l|none=>[])
 |.append _ _ x y=>SV.thing (ev x)++SV.thing (ev y)
 |.store _ a v=>SV.thing (ev a)++(match VL (ev v) with|some l=>OO l|none=>[])
 |_=>[])
def Tk (C:Cx) (d:Nat) (o:VOp) (ev:Operand→SV):Bool :=
 match o with
 |.buildSlice e _ _ _=>(match Qs C.kt e.ty with|some k=>!k.flat&&!(C.raw.contains d)|none=>false)
 |.makeSlice e _ _ _ _=>(match Qs C.kt e.ty with|some k=>!k.flat&&!(C.raw.contains d)|none=>false)
 |.append _ _ x y=>(match ev x with
  |.dd _ _=>true
  |_=>(match ev y with|.dd _ .out=>true|_=>false))
 |.store _ a _=>(match ev a with|.dd _ _=>true|_=>false)
 |_=>false
mutual
def SV.frz (o:Nat) (k:Kind) (xs:List k.T):SV→SV
 |.lst o'=>bif Nat.beq o' o then .val (.list k) xs else .lst o'
 |.sub o' lo n sz=>bif Nat.beq o' o then .any else .sub o' lo n sz
 |.elp o' i off sz=>bif Nat.beq o' o then .any else .elp o' i off sz
 |.dd o' w=>bif Nat.beq o' o then .any else .dd o' w
 |.box o' off=>bif Nat.beq o' o then .any else .box o' off
 |.map o'=>bif Nat.beq o' o then .any else .map o'
 |.grd gs v=>.grd gs (SV.frz o k xs v)
 |.agg l=>.agg (SVs.frz o k xs l)
 |.tup l=>.tup (SVs.frz o k xs l)
 |.cp l off=>.cp (SVs.frz o k xs l) off
 |.fn f a b=>.fn f (SVs.frz o k xs a) (SVs.frz o k xs b)
 |.any=>.any
 |.val k x=>.val k x
 |.bid n c=>.bid n c
 |.nilS=>.nilS
 |.nilP=>.nilP
 |.nilM=>.nilM
 |.nilF=>.nilF
 |.rop k l i off=>.rop k l i off
 |.pf ks r cF p=>.pf ks r cF p
def SVs.frz (o:Nat) (k:Kind) (xs:List k.T):List SV→List SV
 |[]=>[]
 |s::ss=>SV.frz o k xs s::SVs.frz o k xs ss
end
def OB.frz (o:Nat) (k:Kind) (xs:List k.T):OB→OB
 |.cells l u=>.cells (SVs.frz o k xs l) u
 |.dead=>.dead
 |.lst ty k xs nl=>.lst ty k xs nl
 |.map kk vk m=>.map kk vk m
 |.stk l vals=>.stk (SVs.frz o k xs l) vals
 |.lpf l q s=>.lpf (SVs.frz o k xs l) q s
 |.deep ty q k xs nl h=>.deep ty q k xs nl h
 |.iter kk vk m dn=>.iter kk vk m dn
 |.mapE kk vk m key n=>.mapE kk vk m key n
def Ar (o:Nat) (k:Kind) (xs:List k.T):Own→Own
 |[]=>[]
 |(j,b)::r=>bif Nat.beq j o then Ar o k xs r else (j,b.frz o k xs)::Ar o k xs r
def St.frz (s:St) (o:Nat):St:=match Qg s.own o with
 |.lst _ k xs _=>⟨SVs.frz o k xs s.env,Ar o k xs s.own,s.nx⟩
 |_=>s
def St.frzs (s:St):List Nat→St
 |[]=>s
 |o::r=>(s.frz o).frzs r
def NS:List SV→List Nat
 |[]=>[]
 |s::r=>(match s with|.lst o=>o::NS r|_=>NS r)
def FE (C:Cx) (d:Nat) (o:VOp) (ev:Operand→SV) (own:Own):List Nat:=match o with
 |.store _ a v=>(match ev a with
  |.elp q _ _ _=>(match Qg own q with
   |.lst _ k _ _=>bif k.flat then [] else (match VL (ev v) with|some l=>NS l|none=>[])
   |_=>[])
  |_=>[])
 |.buildSlice e _ _ parts=>(match Qs C.kt e.ty with
  |some k=>bif k.flat||!(C.raw.contains d) then [] else parts.flatMap fun p=>(match VL (ev p.2) with|some l=>NS l|none=>[])
  |none=>[])
 |.move x=>bif C.raw.contains (2000000+d) then NS [ev x] else []
 |_=>[]
def Ma (s:St) (j:Nat) (want:Bool):Option (List Gd×St) :=
 match s.env.getD j .any with
 |.val .bo c=>some ([⟨s.nx,want,c⟩],⟨s.env.set j (.bid s.nx c),s.own,s.nx+1⟩)
 |.bid n c=>some ([⟨n,want,c⟩],s)
 |.grd gs (.val .bo c)=>some (gs++[⟨s.nx,want,c⟩],⟨s.env.set j (.grd gs (.bid s.nx c)),s.own,s.nx+1⟩)
 |.grd gs (.bid n c)=>some (gs++[⟨n,want,c⟩],s)
 |_=>none
def gqc (C:Cx) (raw:Bool) (o:VOp) (ev:Operand→SV) (own:Own):Option (List Prop×SV) :=
 match o with
 |.callF f args=>match Yn C.cs (.fn f [] []) (BM own (args.map ev)) with
  |some (c,v,[])=>bif v.ret 0 then some ([c],v) else none
  |_=>none
 |.callV f args=>match Yn C.cs ((BM own [ev f]).getD 0 .any) (BM own (args.map ev)) with
  |some (c,v,[])=>bif v.ret 0 then some ([c],v) else none
  |_=>none
 |o=>gq C.kt raw o ev own
def Sc (nt:Nat):Option (Prop×SV×List OB)→Option (Prop×SV)
 |some (c,v,bs)=>(match v,bs with
  |.lst 0,[.lst _ k xs _]=>bif k.flat&&Nat.blt 0 nt then some (c,.val (.list k) xs) else none
  |_,_=>none)
 |none=>none
def Hv (C:Cx) (o:VOp) (ev:Operand→SV) (own:Own):Option (Prop×SV) :=
 match o with
 |.callF f args=>Sc C.nt (Yn C.cs (.fn f [] []) (BM own (args.map ev)))
 |.callV f args=>Sc C.nt (Yn C.cs ((BM own [ev f]).getD 0 .any) (BM own (args.map ev)))
 |.buildSlice e z n parts=>(match Qs C.kt e.ty with
  |some k=>if k.size=e.sz∧Y6 k z=true∧k.flat=true then (match PD k ev parts (List.replicate n k.dflt) with
   |some xs=>some (True,.val (.list k) xs)
   |none=>none) else none
  |none=>none)
 |_=>none
def T0 (env:List SV) (x:Operand):Option Bool:=match x with
 |.tmp j=>(match env.getD j .any with
  |.grd gs v=>(match gs with
   |[]=>(match v with
    |.val k x=>(match k,x with|.bo,b=>some b|_,_=>none)
    |_=>none)
   |_=>none)
  |_=>none)
 |_=>none
def LF (env:List SV) (g:Option (Nat×Bool)):Option Bool:=match g with
 |none=>none
 |some (j,want)=>(match T0 env (.tmp j) with
  |some b=>some (b==want)
  |none=>none)
def EU (gs:List Gd) (env:List SV) (c a b:Operand):Option SV :=
 match gev gs env c with
 |.bid n t =>
  match a,b with
  |.const (.bool true),b=>(asB (gev (gs++[⟨n,false,t⟩]) env b)).map fun y=>.val .bo (t||y)
  |a,.const (.bool false)=>(asB (gev (gs++[⟨n,true,t⟩]) env a)).map fun x=>.val .bo (t&&x)
  |a,b=>match gev (gs++[⟨n,true,t⟩]) env a,gev (gs++[⟨n,false,t⟩]) env b with
   |.val (.i k) x,.val (.i k') y=>if k=k' then some (.val (.i k) (if t then x else y)) else none
   |.val .bo x,.val .bo y=>some (.val .bo (if t then x else y))
   |_,_=>none
 |_=>none
def Sl (gs:List Gd) (env:List SV) (c a b:Operand):Option SV:=match T0 env c with
 |some t=>some (bif t then gev gs env a else gev gs env b)
 |none=>EU gs env c a b
def Cu:VOp→Bool
 |.alloc ..|.box ..|.buildSlice ..|.makeSlice ..|.append ..|.store ..|.callF ..|.callV ..=>false
 |.ext (.makeMap)|.ext (.mapUpdate ..)|.ext (.mapEntry ..)|.ext (.entryStore ..)|.ext (.copy ..)|.ext (.unsafeStr ..)|.ext (.strBytes ..)|.ext (.rangeMap _)|.ext (.nextMap _)=>false
 |_=>true
def UO:SV→SV
 |.bid _ c=>.val .bo c
 |v=>v
def OM (o:VOp):Option (Nat×Nat×(Nat→VOp)):=match o with
 |.indexAddrArr len size x (.tmp t)=>some (len,t,fun n=>.indexAddrArr len size x (.const (.int .i64 (Int.ofNat n))))
 |.indexArr len agg size x (.tmp t)=>some (len,t,fun n=>.indexArr len agg size x (.const (.int .i64 (Int.ofNat n))))
 |_=>none
def CV (j:Int) (f:Nat→Prop):Nat→Nat→Prop
 |0,_=>True
 |n+1,i=>(j=(i:Int)→f i)∧CV j f n (i+1)
def Q5i (C:Cx) (o:VOper) (s:St) (K:St→Prop):Prop :=
 (match o.op with
 |.pick c a b=>match Sl [] s.env c a b with
  |some v=>gnm C (.pick c a b) (gev [] s.env) v fun v=>K (s.put o.dst v)
  |none=>False
 |op=>bif Cu op then (match gq C.kt (C.raw.contains (o.dst.getD 0)) op (gev [] s.env) s.own with
   |some (cs,v)=>HD [] cs (gnm C op (gev [] s.env) v fun v=>K (s.put o.dst v))
   |none=>False)
  else (match op with
   |.ext .makeMap=>(match Qs C.kt (1000000+o.dst.getD 0) with
    |some (.pair kk vk)=>K ((s.make (C.off+o.dst.getD 0) (.map kk vk [])).put o.dst (.map (C.off+o.dst.getD 0)))
    |_=>False)
   |op=>bif Tk C (o.dst.getD 0) op (gev [] s.env) then gnd C (C.off+o.dst.getD 0) op (gev [] s.env) s fun v s'=>K (s'.put o.dst v) else gn C (C.off+o.dst.getD 0) op (gev [] s.env) s fun v s'=>K (s'.put o.dst v)))
def Q4l (C:Cx) (o:VOper) (s:St) (K:St→Prop):Prop :=
 match OM o.op with
 |some (len,i,f)=>(match asI (gev [] s.env (.tmp i)) with
  |some (_,j)=>0≤j∧j<(len:Int)∧CV j (fun n=>match gq C.kt (C.raw.contains (o.dst.getD 0)) (f n) (gev [] s.env) s.own with
   |some (cs,v)=>HD [] cs (gnm C (f n) (gev [] s.env) v fun v=>K (s.put o.dst v))
   |none=>False) len 0
  |none=>False)
 |none=>Q5i C o s K
def Q0q (C:Cx) (o:VOper) (s:St) (K:St→Prop):Prop :=
 match o.guard with
 |none=>Q4l C o (s.frzs (FE C (o.dst.getD 0) o.op (gev [] s.env) s.own)) K
 |some (j,want)=>match Ma s j want with
  |none=>False
  |some (gs,s)=>(match o.op with
   |.pick c a b=>match Sl gs s.env c a b with
    |some v=>gnm C (.pick c a b) (gev gs s.env) v fun v=>K (s.put o.dst (.grd gs (UO v)))
    |none=>False
   |op=>(match gqc C (C.raw.contains (o.dst.getD 0)) op (gev gs s.env) s.own with
    |some (cs,v)=>HD gs cs (gnm C op (gev gs s.env) v fun v=>K (s.put o.dst (.grd gs (UO v))))
    |none=>(match Hv C op (gev gs s.env) s.own with
     |some (c,v)=>HD gs [c] (gnm C op (gev gs s.env) v fun v=>K ((s.make (C.off+o.dst.getD 0) .dead).put o.dst (.grd gs v)))
     |none=>False)))
def gop (C:Cx) (o:VOper) (s:St) (K:St→Prop):Prop:=match LF s.env o.guard with
 |some t=>bif t then Q0q C ⟨o.dst,o.op,none⟩ s K else K (s.put o.dst .any)
 |none=>Q0q C o s K
def Q0t (C:Cx) (d:Option Nat) (K:St→Prop) (s:St):Prop:=match d with
 |none=>K s
 |some d=>bif C.spl.contains d then (match asB (s.env.getD d .any) with
   |some t=>(t=true→K (s.put (some d) (.grd [] (.val .bo true))))∧(t=false→K (s.put (some d) (.grd [] (.val .bo false))))
   |none=>False)
  else K s
def Q0n (C:Cx):List VOper→St→(St→Prop)→Prop
 |[],s,K=>K s
 |o::r,s,K=>gop C o s (Q0t C o.dst fun s'=>Q0n C r s' K)
def dv (o:DOper):VOper:=⟨o.dst,o.op,o.guard⟩
def Ec (l:List DOper):Bool:=l.all fun o=>!(o.kind==2)&&!(o.op.kind==2)
def gd1 (C:Cx) (o:DOper) (s:St) (K:St→Prop):Prop :=
 match o.guard with
 |none=>(match o.op with
  |.pick c a b=>(match Sl [] s.env c a b with
   |some v=>gnm C (.pick c a b) (gev [] s.env) v fun v=>K (s.put o.dst v)
   |none=>False)
  |op=>(match gq C.kt (C.raw.contains (o.dst.getD 0)) op (gev [] s.env) s.own with
   |some (cs,v)=>HD [] cs (gnm C op (gev [] s.env) v fun v=>K (s.put o.dst v))
   |none=>False))
 |some (j,want)=>(match Ma s j want with
  |none=>False
  |some (gs,s)=>(match o.op with
   |.pick c a b=>(match Sl gs s.env c a b with
    |some v=>gnm C (.pick c a b) (gev gs s.env) v fun v=>K (s.put o.dst (.grd gs (UO v)))
    |none=>False)
   |op=>(match gq C.kt (C.raw.contains (o.dst.getD 0)) op (gev gs s.env) s.own with
    |some (cs,v)=>HD gs cs (gnm C op (gev gs s.env) v fun v=>K (s.put o.dst (.grd gs (UO v))))
    |none=>False)))
def OB.wf:OB→Prop
 |.lst _ _ xs nl=>nl=true→xs=[]
 |_=>True
def Cn:List OB→Prop→Prop
 |[],q=>q
 |b::r,q=>b.wf∧Cn r q
def VY (C:Cx) (d:Nat) (f:SV) (args:List SV) (s:St) (K:List Nat→SV→St→Prop):Prop :=
 match Yn C.cs f args with
 |some (c,v,bs)=>bif v.ret bs.length&&(bs.all OB.ret&&(Nat.blt 0 C.nt&&(bs.all OB.isL&&Yj v))) then c∧Cn bs (K ((List.range bs.length).map fun j=>d+j*C.nt) (v.ren d C.nt) (s.makes d C.nt 0 bs)) else False
 |none=>False
def GW:VOp→Bool
 |.alloc ..|.box ..|.buildSlice ..|.makeSlice ..=>true
 |_=>false
def Qz (d:Nat) (o:VOp) (ev:Operand→SV):Nat:=match o with
 |.append _ _ x _=>(match ev x with|.lst q=>q|_=>d)
 |.store _ a _=>(match ev a with|.box q _=>q|.elp q _ _ _=>q|_=>d)
 |.ext (.mapUpdate _ m _ _)=>(match ev m with|.map q=>q|_=>d)
 |.ext (.mapEntry _ _ m _)=>(match ev m with|.map q=>q|_=>d)
 |.ext (.entryStore m _ _)=>(match ev m with|.map q=>q|_=>d)
 |.ext (.copy _ a _)=>(match ev a with|.lst q=>q|.sub q _ _ _=>q|_=>d)
 |.ext (.unsafeStr _ a _)=>(match ev a with|.dd q _=>q|_=>d)
 |_=>d
def OB.here:OB→Bool
 |.dead=>false
 |.stk _ _=>false
 |.deep _ _ _ _ _ _=>false
 |.iter _ _ _ _=>false
 |.mapE _ _ _ _ _=>false
 |.lpf _ _ _=>false
 |_=>true
def stP:MK→Value→Bool
 |.agg [.int .i64,.int .i64],.int .i64 n=>n==0
 |_,_=>false
def KH (o:VOp) (ev:Operand→SV) (own:Own):Option Nat:=match o with
 |.load _ _ a=>(match ev a with
  |.box q _=>bif (Qg own q).here then some (2*q) else none
  |.elp q _ _ _=>bif (Qg own q).here then some (2*q) else none
  |_=>none)
 |.ext (.lookup mk z false x _)=>bif stP mk z then (match ev x with
  |.map q=>(match Qg own q with|.map _ _ _=>some (2*q+1)|_=>none)
  |_=>none) else none
 |_=>none
def BE:VOp→Bool
 |.ext (.mapEntry mk z _ _)=>stP mk z
 |_=>false
def Z1 (A:List (Nat×Option Nat)) (j q:Nat):Bool:=A.all fun a=>Nat.blt a.1 j||(match a.2 with|some t=>!(Nat.beq t q)|none=>false)
def Gk (A:List (Nat×Option Nat)) (j:Nat) (q:Option Nat):Bool:=match q with|some q=>Z1 A j (q / 2)|none=>false
def Bv (R:List (Nat×Option Nat)) (hl t:Nat):Bool:=R.all fun r=>Nat.blt r.1 hl||(match r.2 with|some q=>!(Nat.beq (q / 2) t)|none=>false)
def PA (R:List (Nat×Option Nat)) (hl t:Nat):Bool:=R.all fun r=>Nat.blt r.1 hl||(match r.2 with|some q=>!(Nat.beq (q / 2) t)|none=>true)
def FY (R:List (Nat×Option Nat)) (hl t:Nat):Bool:=R.all fun r=>Nat.blt r.1 hl||(match r.2 with|some q=>!(Nat.beq (q / 2) t)||Nat.beq (q % 2) 1|none=>false)
def SB (mk:Bool) (R:List (Nat×Option Nat)) (hl:Nat) (ts:List Nat):Bool:=R.all fun r=>Nat.blt r.1 hl||(match r.2 with|some q=>ts.all (fun t=>!(Nat.beq (q / 2) t))|none=>mk)
def FP (o:VOp) (ev:Operand→SV):Bool:=match o with
 |.load _ _ a=>(match ev a with|.rop _ _ _ _=>true|.cp _ _=>true|_=>false)
 |_=>false
def CD (s:St) (j:Nat) (want:Bool) (o:VOp):Bool:=match Ma s j want with
 |some (gs,s1)=>FP o (gev gs s1.env)
 |none=>false
def Nb (A:List (Nat×Option Nat)) (j:Nat):Bool:=A.all fun a=>Nat.blt a.1 j||a.2.isSome
def CC (C:Cx) (f:SV) (args:List SV):Option (List Prop×SV):=match Yn C.cs f args with
 |some (c,v,bs)=>(match v,bs with
  |.lst 0,[.lst _ k xs nl]=>bif k.flat&&Nat.blt 0 C.nt then some ([c,nl=true→xs=[]],.val (.list k) xs) else none
  |_,_=>none)
 |none=>none
def L2 (env:List SV) (o:DOper):DOper:=match LF env o.guard with
 |some true=>{o with guard:=none}
 |_=>o
def OV (own:Own):SV→Option (List SV)
 |.box o off=>bif Nat.beq off 0 then (match Qg own o with|.cells l _=>some l|_=>none) else none
 |.cp l off=>bif Nat.beq off 0 then some l else none
 |_=>none
def EG (own:Own) (j:Nat):List SV→Option Nat
 |a::_=>(match OV own a with
  |some l=>(match l[j]? with
   |some (.map o)=>some o
   |_=>none)
  |none=>(match a with|.map o=>some o|_=>none))
 |[]=>none
def Cx.nx (C:Cx):Cx:={C with xs:=[]}
def JB (C:Cx):List DOper→St→Nat→Nat→List (Nat×Option Nat)→List (Nat×Option Nat)→(St→Prop)→Prop
 |[],s,_,_,_,_,K=>K s
 |o0::r,s,hl,chg,A,R,K=>match LF s.env o0.guard with
  |some false=>if o0.kind=2 then JB C r (s.put o0.dst .any) (hl+1) chg A R K else JB C r (s.put o0.dst .any) hl chg A R K
  |_=>(fun o:DOper =>
  if o.kind=2 then
   (match o.op with
   |.callF f args=>(match o.guard with
    |none=>(match Qs C.xs f with
     |some x=>(match Qs C.xf f with
      |some j=>(match EG s.own j (args.map (gev [] s.env)) with
       |some t=>bif waits o.dst.toList r&&SB false R hl [t] then
         x (C.off+o.dst.getD 0) (args.map (gev [] s.env)) s fun v s'=>JB C r (s'.put o.dst v) (hl+1) hl ((hl-1,some t)::A) R K else False
       |none=>False)
      |none=>bif waits o.dst.toList r&&R.all (fun q=>Nat.blt q.1 hl) then
       x (C.off+o.dst.getD 0) (args.map (gev [] s.env)) s fun v s'=>JB C r (s'.put o.dst v) (hl+1) hl ((hl-1,none)::A) [] K
      else VY C (C.off+o.dst.getD 0) (.fn f [] []) (BM s.own (args.map (gev [] s.env))) s fun ts v s'=>JB C r (s'.put o.dst v) (hl+1) (bif ts.isEmpty then chg else hl) (ts.map (fun t=>(hl-1,some t))++A) (bif ts.isEmpty then R else R.map fun r=>(r.1,none)) K)
     |none=>VY C (C.off+o.dst.getD 0) (.fn f [] []) (BM s.own (args.map (gev [] s.env))) s fun ts v s'=>JB C r (s'.put o.dst v) (hl+1) (bif ts.isEmpty then chg else hl) (ts.map (fun t=>(hl-1,some t))++A) (bif ts.isEmpty then R else R.map fun r=>(r.1,none)) K)
    |some (j,want)=>(match Ma s j want with
     |none=>False
     |some (gs,s)=>(match gqc C false (.callF f args) (gev gs s.env) s.own with
      |some (cs,v)=>bif Yj v then HD gs cs (gnm C (.callF f args) (gev gs s.env) v fun v=>JB C r (s.put o.dst (.grd gs (UO v))) (hl+1) chg A R K) else False
      |none=>(match CC C (.fn f [] []) (BM s.own (args.map (gev gs s.env))) with
       |some (cs,v)=>HD gs cs (JB C r ((s.make (C.off+o.dst.getD 0) .dead).put o.dst (.grd gs v)) (hl+1) hl ((hl-1,none)::A) (R.map fun r=>(r.1,none)) K)
       |none=>False))))
   |.callV f args=>(match o.guard with
    |none=>VY C (C.off+o.dst.getD 0) ((BM s.own [gev [] s.env f]).getD 0 .any) (BM s.own (args.map (gev [] s.env))) s fun ts v s'=>JB C r (s'.put o.dst v) (hl+1) (bif ts.isEmpty then chg else hl) (ts.map (fun t=>(hl-1,some t))++A) (bif ts.isEmpty then R else R.map fun r=>(r.1,none)) K
    |some _=>False)
   |.ext (.rangeMap _)=>False
   |.ext (.nextMap _)=>False
   |op=>(match o.guard with
    |none=>bif Tk C (o.dst.getD 0) op (gev [] s.env) then
      (bif SB (GW op) R hl (PF (C.off+o.dst.getD 0) op (gev [] s.env)) then
       gnd C (C.off+o.dst.getD 0) op (gev [] s.env) s fun v s'=>JB C r (s'.put o.dst v) (hl+1) hl ((PF (C.off+o.dst.getD 0) op (gev [] s.env)).map (fun t=>(hl-1,some t))++A) R K else False)
     else bif (GW op&&PA R hl (Qz (C.off+o.dst.getD 0) op (gev [] s.env)))||Bv R hl (Qz (C.off+o.dst.getD 0) op (gev [] s.env))||(BE op&&FY R hl (Qz (C.off+o.dst.getD 0) op (gev [] s.env))) then
      gn C (C.off+o.dst.getD 0) op (gev [] s.env) s fun v s'=>JB C r (s'.put o.dst v) (hl+1) hl ((hl-1,some (Qz (C.off+o.dst.getD 0) op (gev [] s.env)))::A) R K else False
    |some _=>False))
  else if o.kind=1 then
   (match o.guard with
   |none=>bif FP o.op (gev [] s.env)&&Nb A o.kmin then gd1 C o s fun s'=>JB C r s' hl chg A R K
    else bif Nat.ble chg o.kmin||Gk A o.kmin (KH o.op (gev [] s.env) s.own) then gd1 C o s fun s'=>JB C r s' hl chg A ((o.kmax,KH o.op (gev [] s.env) s.own)::R) K else False
   |some (j,want)=>bif CD s j want o.op&&Nb A o.kmin then gd1 C o s fun s'=>JB C r s' hl chg A R K
    else bif Nat.ble chg o.kmin then gd1 C o s fun s'=>JB C r s' hl chg A ((o.kmax,none)::R) K else False)
  else gd1 C o s fun s'=>JB C r s' hl chg A R K) (L2 s.env o0)
inductive Src where
 |slot (j:Nat)
 |cell (t off:Nat)
 |key (k:Nat)
structure LoopAnn where
 E:Type
 D:Type
 sl:List Nat
 vs:E→D→List SV
 own:E→D→List (Nat×Src×OB)
def FT:List Nat→List SV→List (Nat×SV)
 |[],_=>[]
 |j::js,[]=>(j,.any)::FT js []
 |j::js,v::vs=>(j,v)::FT js vs
def LoopAnn.st (A:LoopAnn) (p:A.E) (d:A.D):List (Nat×SV):=FT A.sl (A.vs p d)
def LoopP {D:Type}(F:D→(D→Prop)→Prop) (d0:D):Prop :=
 ∃ (I:D→Prop) (μ:D→Nat),I d0∧∀ d,I d→F d fun d'=>I d'∧μ d'<μ d
def Q6b (s:St) (mp:List (Nat×Option Nat)):Src→Option (Option Nat)
 |.slot j=>match s.env.getD j .any with
  |.lst a=>some (some a)
  |.sub a _ _ _=>some (some a)
  |.dd a _=>some (some a)
  |.box a _=>some (some a)
  |.map a=>some (some a)
  |.nilS=>some none
  |_=>none
 |.cell t off=>match Qs mp t with
  |some (some a)=>(match Qg s.own a with
   |.cells l _=>(match l.getD off .any with
    |.lst a=>some (some a)
    |.box a _=>some (some a)
    |.map a=>some (some a)
    |.nilS=>some none
    |_=>none)
   |_=>none)
  |_=>none
 |.key k=>some (some k)
def Ok (s:St):List (Nat×Src)→List (Nat×Option Nat)→Option (List (Nat×Option Nat))
 |[],mp=>some mp
 |(t,src)::r,mp=>match Q6b s mp src with
  |some (some a)=>if (mp.any fun p=>p.2==some a)||(Qs mp t).isSome then none else Ok s r (mp++[(t,some a)])
  |some none=>if (Qs mp t).isSome then none else Ok s r (mp++[(t,none)])
  |none=>none
def VK {k:Kind}(x:k.T) {k':Kind}(y:k'.T):Prop:=match Lr y k with|some y=>y=x|none=>False
mutual
def SV.pure:SV→Bool
 |.lst _|.sub _ _ _ _|.elp _ _ _ _|.box _ _|.map _|.grd _ _|.bid _ _|.dd _ _=>false
 |.agg l=>SVs.pure l
 |.tup l=>SVs.pure l
 |.cp l _=>SVs.pure l
 |.fn _ a b=>SVs.pure a&&SVs.pure b
 |.any|.val _ _|.nilS|.nilP|.nilM|.nilF|.rop _ _ _ _|.pf _ _ _ _=>true
def SVs.pure:List SV→Bool
 |[]=>true
 |s::ss=>SV.pure s&&SVs.pure ss
end
mutual
def Dp (mp:List (Nat×Option Nat)):SV→SV→Prop
 |.any,_=>True
 |.val k x,v=>match v with
  |.val _k' y=>VK x y
  |.bid _ c=>VK (k:=k) x (k':=.bo) c
  |.nilS=>match k,x with|.list _,x=>x=[]|_,_=>False
  |_=>False
 |.lst t,v=>match v with
  |.lst a=>if Qs mp t=some (some a) then True else False
  |.nilS=>if Qs mp t=some none then True else False
  |_=>False
 |.box t off,v=>match v with
  |.box a de=>if Qs mp t=some (some a)∧off=de then True else False
  |_=>False
 |.map t,v=>match v with
  |.map a=>if Qs mp t=some (some a) then True else False
  |_=>False
 |.dd t w,v=>(match w with
  |.obx c=>(match v with
   |.nilP=>c=false
   |.box a f=>if Qs mp t=some (some a)∧f=0 then c=true else False
   |.dd a w'=>(match w' with|.obx c'=>if Qs mp t=some (some a) then c'=c else False|_=>False)
   |_=>False)
  |.yv=>(match v with
   |.dd a w'=>(match w' with|.yv=>if Qs mp t=some (some a) then True else False|_=>False)
   |_=>False)
  |.out=>(match v with
   |.dd a w'=>(match w' with|.out=>if Qs mp t=some (some a) then True else False|_=>False)
   |.nilS=>if Qs mp t=some none then True else False
   |_=>False)
  |_=>False)
 |.agg l,v=>match v with|.agg l'=>UG mp l l'|_=>False
 |.tup l,v=>match v with|.tup l'=>UG mp l l'|_=>False
 |.fn f a b,v=>match v with|.fn f' a' b'=>if f=f' then UG mp a a'∧UG mp b b' else False|_=>False
 |.nilS,v=>match v with|.nilS=>True|_=>False
 |.nilP,v=>match v with|.nilP=>True|_=>False
 |.nilM,v=>match v with|.nilM=>True|_=>False
 |.nilF,v=>match v with|.nilF=>True|_=>False
 |.cp l off,v=>bif SVs.pure l then .cp l off=v∧SVs.pure l=true else match v with|.cp l' de=>if off=de then UG mp l l' else False|_=>False
 |.pf ks r cF p,v=>.pf ks r cF p=v
 |.sub t lo n sz,v=>match v with
  |.sub a tn n' tq=>if Qs mp t=some (some a) then tn=lo∧n'=n∧tq=sz else False
  |_=>False
 |.elp _ _ _ _,_|.grd _ _,_|.bid _ _,_|.rop _ _ _ _,_=>False
def UG (mp:List (Nat×Option Nat)):List SV→List SV→Prop
 |[],l=>l=[]
 |s::ss,l=>match l with|v::vs=>Dp mp s v∧UG mp ss vs|[]=>False
end
def Ab (s:St) (mp:List (Nat×Option Nat)) (t:Nat) (b:OB):Prop :=
 match Qs mp t with
 |some (some a)=>(match b,Qg s.own a with
  |.dead,_=>True
  |.lst ty k xs nl,.lst lE k' cr kC=>if ty=lE then VK (k:=.list k) xs (k':=.list k') cr∧kC=nl else False
  |.cells l u,.cells l' u'=>if u=u' then UG mp l l' else False
  |.map kk vk m,.map kD mP m'=>if kk=kD then VK (k:=.list (.pair kk vk)) m (k':=.list (.pair kD mP)) m' else False
  |.stk l vals,.stk l' jE=>vals=jE∧UG mp l l'
  |.lpf l q u,.lpf l' q' u'=>(match u,u' with|.rdy,.rdy=>q=q'∧UG mp l l'|.busy,.busy=>q=q'∧UG mp l l'|_,_=>False)
  |.iter kk vk m dn,.iter kD mP m' qZ=>if kk=kD then VK (k:=.list (.pair kk vk)) m (k':=.list (.pair kD mP)) m'∧qZ=dn else False
  |.deep ty q k xs nl h,.deep lE q' k' cr kC h'=>if ty=lE∧q=q' then (match h,h' with|none,none=>VK (k:=.list k) xs (k':=.list k') cr∧kC=nl|_,_=>False) else False
  |_,_=>False)
 |some none=>(match b with
  |.lst _ _ xs nl=>xs=[]∧nl=true
  |.deep _ _ _ xs nl h=>(match h with|none=>xs=[]∧nl=true|some _=>False)
  |_=>False)
 |none=>False
def gmatch (s:St) (st:List (Nat×SV)) (ow:List (Nat×Src×OB)):Prop :=
 match Ok s (ow.map fun p=>(p.1,p.2.1)) [] with
 |some mp=>slots mp st∧obs mp ow
 |none=>False
 where
 slots (mp:List (Nat×Option Nat)):List (Nat×SV)→Prop
  |[]=>True
  |(j,v)::r=>Dp mp v (s.env.getD j .any)∧slots mp r
 obs (mp:List (Nat×Option Nat)):List (Nat×Src×OB)→Prop
  |[]=>True
  |(t,_,b)::r=>Ab s mp t b∧obs mp r
def Q_ (len:Nat) (st:List (Nat×SV)) (ow:List (Nat×Src×OB)):St :=
 ⟨st.foldl (fun e p=>e.set p.1 p.2) (List.replicate len .any),ow.foldl (fun o p=>oset o p.1 p.2.2) [],0⟩
def Q6c:SV→SV
 |.bid _ c=>.val .bo c
 |.grd _ _=>.any
 |.elp _ _ _ _=>.any
 |.rop _ _ _ _=>.any
 |.dd o w=>(match w with|.out=>.dd o .out|.obx c=>.dd o (.obx c)|.yv=>.dd o .yv|_=>.any)
 |v=>v
def Q3i (jn:List Nat) (s:St):List (Nat×SV):=jn.map fun j=>(j,Q6c (s.env.getD j .any))
def Ik:Own→List (Nat×Src×OB)
 |[]=>[]
 |(t,b)::r=>(match b with|.dead=>Ik r|b=>(t,.key t,b)::Ik r)
def NV (n:Nat) (s:St) (st:List (Nat×SV)) (ow:List (Nat×Src×OB)):Prop:=bif Nat.beq s.env.length n then gmatch s st ow else False
def Fl (C:Cx):List (List DOper)→St→List (Nat×SV)→List (Nat×Src×OB)→Prop→Prop
 |[],_,_,_,Q=>Q
 |l::ls,s,st,ow,Q=>(JB C.nx l s 1 0 [] [] fun s'=>NV s.env.length s' st ow)∧Fl C ls s st ow Q
def H2 (C:Cx):List DSeg→St→(St→Prop)→Prop
 |[],s,K=>K s
 |.one o::r,s,K=>gop C o s (Q0t C o.dst fun s'=>H2 C r s' K)
 |.alts [l]::r,s,K=>bif Ec l then Q0n C (l.map dv) s fun s'=>H2 C r s' K else bif l.all (fun o=>o.kind==o.op.kind) then JB C l s 1 0 [] [] fun s'=>H2 C r s' K else False
 |.alts (l::l2::ls)::r,s,K=>bif (l::l2::ls).all (fun l=>l.all fun o=>o.kind==o.op.kind) then
   JB C.nx l s 1 0 [] [] fun s0=>NV s.env.length s0 (Q3i C.jn s0) (Ik s0.own)∧Fl C (l2::ls) s (Q3i C.jn s0) (Ik s0.own) (H2 C r (Q_ s.env.length (Q3i C.jn s0) (Ik s0.own)) K) else False
 |.alts []::_,_,_=>False
def A6 (R:St→Prop) (K:Exit→St→Prop):Exit→St→Prop
 |.normal,s=>R s
 |e,s=>K e s
def C9 (id:Nat) (K:Exit→St→Prop):Exit→St→Prop
 |.exit gu,s=>if gu=id then K .normal s else K (.exit gu) s
 |e,s=>K e s
def Q1h:Own→Bool
 |[]=>true
 |(_,b)::r=>(match b with|.lpf _ _ .ret=>false|.lpf _ _ (.exit _)=>false|_=>true)&&Q1h r
def Ek (A:LoopAnn) (p:A.E) (next:A.D→Prop) (K:Exit→St→Prop):Exit→St→Prop
 |.normal,s=>bif Q1h s.own then ∃ d,gmatch s (A.st p d) (A.own p d)∧next d else False
 |e,s=>K e s
def Q62 {D:Type}(F:(D→Prop)→Prop) (gR:D→Prop):Prop:=∃ I:D→Prop,F I∧∀ d,I d→gR d
def Q1b (L:List (Nat×LoopAnn)) (c:Operand):Option LoopAnn:=match c with
 |.tmp j=>Qs L (3000000+j)
 |_=>none
def FD (n:Nat) (A:LoopAnn) (p:A.E) (next:A.D→Prop) (K:Exit→St→Prop):Exit→St→Prop
 |.normal,s=>∃ d,NV n s (A.st p d) (A.own p d)∧next d
 |e,s=>K e s
def Nf {D:Type}(m:Nat) (F:Nat→D→(D→Prop)→Prop) (gR:D→Prop) (d0:D):Prop :=
 ∃ I:Nat→D→Prop,I 0 d0∧(∀ k d,k<m→I k d→F k d fun d'=>I (k+1) d')∧∀ d,I m d→gR d
def Fi:St→List SV→Option (St×List SV)
 |s,[]=>some (s,[])
 |s,v::vs=>match v with
  |.box o 0=>(match Qg s.own o with
   |.cells l _=>bif SVs.pure l then (match Fi ⟨s.env,oset s.own o .dead,s.nx⟩ vs with|some (s',r)=>some (s',.cp l 0::r)|none=>none) else none
   |_=>none)
  |v=>bif v.pure then (match Fi s vs with|some (s',r)=>some (s',v::r)|none=>none) else none
def To (key:Nat) (vals:List Value) (s:St):St:=s.make key (.stk (SVs.kill key s.env) vals)
def UU:List SV→List Nat→List SV→List SV
 |env,p::ps,v::vs=>UU (env.set p v) ps vs
 |env,_,_=>env
def LV (key:Nat) (A:LoopAnn) (p:A.E) (vals:List Value) (next:A.D→Prop) (K:Exit→St→Prop) (e:Exit) (s:St):Prop :=
 match Qg s.own key with
 |.stk l vs=>vs=vals∧(match e with
  |.normal=>∃ d,gmatch ⟨l,s.own,s.nx⟩ (A.st p d) (A.own p d)∧next d
  |.ret=>K .ret ⟨l,s.own,s.nx⟩
  |.exit id=>K (.exit id) ⟨l,s.own,s.nx⟩
  |_=>False)
 |_=>False
def Q56 (o:Nat) (q:LpD) (s:St):St:=s.make o (.lpf (SVs.kill o s.env) q .rdy)
def gyK (o aH:Nat) (fQ:List Value) (q:LpD) (K:SV→St→Prop) (e:Exit) (s:St):Prop :=
 match Qg s.own aH,Qg s.own o with
 |.stk l2 jF,.lpf l q' u=>(match u with
  |.busy=>jF=fQ∧q'=q∧(match e with
   |.normal=>K (.val .bo true) ⟨l2,oset (oset s.own aH .dead) o (.lpf l q' .rdy),s.nx⟩
   |.ret=>K (.val .bo false) ⟨l2,oset (oset s.own aH .dead) o (.lpf l q' .ret),s.nx⟩
   |.exit id=>K (.val .bo false) ⟨l2,oset (oset s.own aH .dead) o (.lpf l q' (.exit id)),s.nx⟩
   |_=>False)
  |_=>False)
 |_,_=>False
def Fh (o:Nat) (q:LpD) (K:Exit→St→Prop) (s:St):Prop :=
 match Qg s.own o with
 |.lpf l q' u=>(match u with
  |.busy=>False
  |.rdy=>q'=q∧K .normal ⟨l,oset s.own o .dead,s.nx⟩
  |.ret=>q'=q∧K .ret ⟨l,oset s.own o .dead,s.nx⟩
  |.exit id=>q'=q∧K (.exit id) ⟨l,oset s.own o .dead,s.nx⟩)
 |_=>False
def CX (o aH np:Nat) (q:LpD) (W:(Exit→St→Prop)→St→Prop) (ps:List Nat):YSp:=fun args s K =>
 match Qg s.own o with
 |.lpf l q' u=>(match u with
  |.rdy=>bif Nat.beq args.length np then q'=q∧∀ fQ,W (gyK o aH fQ q K) ⟨UU (SVs.kill aH l) ps (SVs.kill aH args),oset (To aH fQ s).own o (.lpf (SVs.kill aH l) q' .busy),s.nx⟩ else False
  |_=>False)
 |_=>False
def gwp (C:Cx) (L:List (Nat×LoopAnn)):VCode→Nat→(Exit→St→Prop)→St→Prop
 |.skip,_,K,s=>K .normal s
 |.region ops,_,K,s=>Q0n C ops s fun s'=>K .normal s'
 |.regionD aN,_,K,s=>H2 C aN s fun s'=>K .normal s'
 |.seq a b,n,K,s=>gwp C L a n (A6 (fun s'=>gwp C L b n K s') K) s
 |.cond c a b,n,K,s=>match T0 s.env c with
  |some t=>bif t then gwp C L a n K s else gwp C L b n K s
  |none=>(match asB (gev [] s.env c) with
   |some t=>(match Q1b L c with
    |some A=>∃ p:A.E,Q62 (fun next=>(t=true→gwp C L a n (FD s.env.length A p next K) s)∧(t=false→gwp C L b n (FD s.env.length A p next K) s)) (fun d=>K .normal (Q_ s.env.length (A.st p d) (A.own p d)))
    |none=>(t=true→gwp C L a n K s)∧(t=false→gwp C L b n K s))
   |none=>False)
 |.block id b,_,K,s=>gwp C L b id (C9 id K) s
 |.loop b,n,K,s=>match Qs L n with
  |some A=>∃ (p:A.E) (d0:A.D),gmatch s (A.st p d0) (A.own p d0)∧LoopP (fun d next=>gwp C L b n (Ek A p next K) (Q_ s.env.length (A.st p d) (A.own p d))) d0
  |none=>False
 |.rangeF g ps a b,n,K,s=>match gev [] s.env g with
  |.fn f first c_=>(match Qs C.iy f with
   |some x=>∀ q:LpD,x (C.off+2000000+n) (SVs.kill (C.off+2000000+n) first++(.dd (C.off+2000000+n) .yv::SVs.kill (C.off+2000000+n) c_))
     (C.off+2000000+n,CX (C.off+2000000+n) (100000*(C.off+2000000+n+1)-1) ps.length q (fun K' s'=>gwp C L a n (A6 (fun s3=>gwp C L b n K' s3) fun _ _=>False) s') ps)
     (Q56 (C.off+2000000+n) q s) (Fh (C.off+2000000+n) q K)
   |none=>(match first with
   |[]=>(match Qs C.it f,Fi s c_,Qs L n with
    |some it,some (s1,cw),some A=>(match it cw with
     |some (c,m,ar,xs)=>(bif Nat.beq ps.length ar then c∧∃ (p:A.E) (d0:A.D),gmatch s1 (A.st p d0) (A.own p d0) ∧
      Nf m (fun k d next=>∀ vals,gwp C L a n (A6 (fun s3=>gwp C L b n (LV (2000000+n) A p vals next K) s3) fun _ _=>False)
       ⟨UU (To (2000000+n) vals (Q_ s.env.length (A.st p d) (A.own p d))).env ps (xs k),(To (2000000+n) vals (Q_ s.env.length (A.st p d) (A.own p d))).own,0⟩)
       (fun d=>K .normal (Q_ s.env.length (A.st p d) (A.own p d))) d0 else False)
     |none=>False)
    |_,_,_=>False)
   |_=>False))
  |_=>False
 |.exit id,_,K,s=>K (.exit id) s
 |.ret,_,K,s=>K .ret s
 |.bad,_,_,_=>False
end Go.V
namespace Go.V
open Go
section
variable {P:Program}
theorem X6 {a b:Nat}(h:¬ a=b):Nat.beq a b=false:=by
 cases e:Nat.beq a b with
 |false=>rfl
 |true=>exact absurd (Nat.eq_of_beq_eq_true e) h
theorem PfRel.mono {B B':Heap}(hB:B.Le B') {ks:List Kind}{r:Kind}{cF:AT ks→Prop}{p:AT ks→r.T}{v:Value}(h:PfRel P B ks r cF p v):PfRel P B' ks r cF p v:=by obtain⟨g,first,cap,hv,hx⟩:=h;exact⟨g,first,cap,hv,fun x hd σ vs hs ha=>hx x hd σ vs (hB.trans hs) ha⟩
theorem Ax {tb tb':Nat→Option Bool}(ht:∀ n c,tb n=some c→tb' n=some c) {v:SV}(h:gtb tb v):gtb tb' v:=by cases v<;>first|trivial|exact ht _ _ h
theorem AY {tb tb':Nat→Option Bool}{o:Nat}(ht:∀ n c,tb n=some c→tb' n=some c) {v:SV}(h:gtb tb v):gtb tb' (v.kill o):=by
 cases v
 case bid n c=>exact ht _ _ h
 all_goals (simp only[SV.kill];first|trivial|(split<;>trivial)|(cases Nat.beq _ _<;>trivial))
mutual
theorem SR.upd {B B':Heap}{pl pl':Nat→Value}{tb tb':Nat→Option Bool}{o:Nat}(hB:B.Le B') (ht:∀ n c,tb n=some c→tb' n=some c) (hp:∀ d,d≠o→pl' d=pl d) :
  ∀ (s:SV) (v:Value),SR P B pl tb s v→SR P B' pl' tb' (s.kill o) v
 |.any,_,_=>trivial
 |.val k x,v,h=>by simp only[SV.kill,SR] at h ⊢;exact KC.mono hB h
 |.bid n c,v,h=>by simp only[SV.kill,SR] at h ⊢;exact⟨h.1,ht _ _ h.2⟩
 |.grd gs s,v,h=>by simp only[SV.kill,SR] at h ⊢;exact⟨⟨fun g hg=>ht _ _ (h.1.1 g hg),AY ht h.1.2⟩,fun hg=>SR.upd hB ht hp s v (h.2.1 hg),h.2.2⟩
 |.nilS,v,h=>h
 |.nilP,v,h=>h
 |.nilM,v,h=>h
 |.nilF,v,h=>h
 |.lst o',v,h=>by
  by_cases e:o'=o
  ·subst e;simp[SV.kill,SR]
  ·simp only[SV.kill,X6 e,cond_false];simp only[SR] at h ⊢;rw[hp _ e];exact h
 |.sub o' lo n sz,v,h=>by
  by_cases e:o'=o
  ·subst e;simp[SV.kill,SR]
  ·simp only[SV.kill,X6 e,cond_false];simp only[SR] at h ⊢;rw[hp _ e];exact h
 |.elp o' i off sz,v,h=>by
  by_cases e:o'=o
  ·subst e;simp[SV.kill,SR]
  ·simp only[SV.kill,X6 e,cond_false];simp only[SR] at h ⊢;rw[hp _ e];exact h
 |.box o' off,v,h=>by
  by_cases e:o'=o
  ·subst e;simp[SV.kill,SR]
  ·simp only[SV.kill,X6 e,cond_false];simp only[SR] at h ⊢;rw[hp _ e];exact h
 |.map o',v,h=>by
  by_cases e:o'=o
  ·subst e;simp[SV.kill,SR]
  ·simp only[SV.kill,X6 e,cond_false];simp only[SR] at h ⊢;rw[hp _ e];exact h
 |.dd o' w,v,h=>by
  by_cases e:o'=o
  ·subst e;simp[SV.kill,SR]
  ·simp only[SV.kill,X6 e,cond_false];simp only[SR] at h ⊢;rw[hp _ e];exact h
 |.rop k l i off,v,h=>by simp only[SV.kill,SR] at h ⊢;obtain⟨b,o,c,e,wr,t,h1,h2,h3,h4,h5,h6⟩:=h;exact⟨b,o,c,e,wr,t,h1,h2,hB.2 _ _ h3,h4,h5,h6.mono fun _ _=>KC.mono hB⟩
 |.cp l off,v,h=>by simp only[SV.kill,SR] at h ⊢;obtain⟨b,c,e,wr,t,h1,h2,h3⟩:=h;exact⟨b,c,e,wr,t,hB.2 _ _ h1,h2,SRs.upd hB ht hp l c h3⟩
 |.agg l,v,h=>by simp only[SV.kill,SR] at h ⊢;obtain⟨cs,h1,h2⟩:=h;exact⟨cs,h1,SRs.upd hB ht hp l cs h2⟩
 |.tup l,v,h=>by simp only[SV.kill,SR] at h ⊢;obtain⟨cs,h1,h2⟩:=h;exact⟨cs,h1,SRs.upd hB ht hp l cs h2⟩
 |.fn f a b,v,h=>by simp only[SV.kill,SR] at h ⊢;obtain⟨x,y,h1,h2,h3⟩:=h;exact⟨x,y,h1,SRs.upd hB ht hp a x h2,SRs.upd hB ht hp b y h3⟩
 |.pf ks r cF p,v,h=>by simp only[SV.kill,SR] at h ⊢;exact h.mono hB
theorem SRs.upd {B B':Heap}{pl pl':Nat→Value}{tb tb':Nat→Option Bool}{o:Nat}(hB:B.Le B') (ht:∀ n c,tb n=some c→tb' n=some c) (hp:∀ d,d≠o→pl' d=pl d) :
  ∀ (s:List SV) (v:List Value),SRs P B pl tb s v→SRs P B' pl' tb' (SVs.kill o s) v
 |[],v,h=>h
 |s::ss,v,h=>by simp only[SVs.kill,SRs] at h ⊢;obtain⟨x,y,h1,h2,h3⟩:=h;exact⟨x,y,h1,SR.upd hB ht hp s x h2,SRs.upd hB ht hp ss y h3⟩
end
mutual
theorem SR.mono {B B':Heap}{pl:Nat→Value}{tb tb':Nat→Option Bool}(hB:B.Le B') (ht:∀ n c,tb n=some c→tb' n=some c) :
  ∀ (s:SV) (v:Value),SR P B pl tb s v→SR P B' pl tb' s v
 |.any,_,_=>trivial
 |.val k x,v,h=>by simp only[SR] at h ⊢;exact KC.mono hB h
 |.bid n c,v,h=>by simp only[SR] at h ⊢;exact⟨h.1,ht _ _ h.2⟩
 |.grd gs s,v,h=>by simp only[SR] at h ⊢;exact⟨⟨fun g hg=>ht _ _ (h.1.1 g hg),Ax ht h.1.2⟩,fun hg=>SR.mono hB ht s v (h.2.1 hg),h.2.2⟩
 |.nilS,v,h|.nilP,v,h|.nilM,v,h|.nilF,v,h=>by simp only[SR] at h ⊢;exact h
 |.lst _,v,h|.sub _ _ _ _,v,h|.elp _ _ _ _,v,h|.box _ _,v,h|.map _,v,h|.dd _ _,v,h=>by simp only[SR] at h ⊢;exact h
 |.rop k l i off,v,h=>by simp only[SR] at h ⊢;obtain⟨b,o,c,e,wr,t,h1,h2,h3,h4,h5,h6⟩:=h;exact⟨b,o,c,e,wr,t,h1,h2,hB.2 _ _ h3,h4,h5,h6.mono fun _ _=>KC.mono hB⟩
 |.cp l off,v,h=>by simp only[SR] at h ⊢;obtain⟨b,c,e,wr,t,h1,h2,h3⟩:=h;exact⟨b,c,e,wr,t,hB.2 _ _ h1,h2,SRs.mono hB ht l c h3⟩
 |.agg l,v,h=>by simp only[SR] at h ⊢;obtain⟨cs,h1,h2⟩:=h;exact⟨cs,h1,SRs.mono hB ht l cs h2⟩
 |.tup l,v,h=>by simp only[SR] at h ⊢;obtain⟨cs,h1,h2⟩:=h;exact⟨cs,h1,SRs.mono hB ht l cs h2⟩
 |.fn f a b,v,h=>by simp only[SR] at h ⊢;obtain⟨x,y,h1,h2,h3⟩:=h;exact⟨x,y,h1,SRs.mono hB ht a x h2,SRs.mono hB ht b y h3⟩
 |.pf ks r cF p,v,h=>by simp only[SR] at h ⊢;exact h.mono hB
theorem SRs.mono {B B':Heap}{pl:Nat→Value}{tb tb':Nat→Option Bool}(hB:B.Le B') (ht:∀ n c,tb n=some c→tb' n=some c) :
  ∀ (s:List SV) (v:List Value),SRs P B pl tb s v→SRs P B' pl tb' s v
 |[],v,h=>h
 |s::ss,v,h=>by simp only[SRs] at h ⊢;obtain⟨x,y,h1,h2,h3⟩:=h;exact⟨x,y,h1,SR.mono hB ht s x h2,SRs.mono hB ht ss y h3⟩
end
mutual
theorem SR.frz {B:Heap}{pl:Nat→Value}{tb:Nat→Option Bool}{o:Nat}{k:Kind}{xs:List k.T}(hk:KC B (.list k) xs [pl o]) :
  ∀ (s:SV) (v:Value),SR P B pl tb s v→SR P B pl tb (s.frz o k xs) v
 |.any,_,_=>trivial
 |.val k' x,v,h=>by simp only[SV.frz];exact h
 |.bid n c,v,h=>by simp only[SV.frz];exact h
 |.grd gs s,v,h=>by simp only[SV.frz,SR] at h ⊢;refine⟨⟨h.1.1,?_⟩,fun hg=>SR.frz hk s v (h.2.1 hg),h.2.2⟩;have h2:=h.1.2;cases s<;>first|exact h2|trivial|(simp only[SV.frz];cases Nat.beq _ _<;>trivial)
 |.nilS,v,h|.nilP,v,h|.nilM,v,h|.nilF,v,h=>h
 |.lst o',v,h=>by
  by_cases e:o'=o
  ·subst e;simp only[SV.frz,Nat.beq_refl,_root_.cond_true];simp only[SR] at h ⊢;rw[h.1];exact hk
  ·simp only[SV.frz,X6 e,cond_false];exact h
 |.sub o' lo n sz,v,h=>by
  simp only[SV.frz];cases Nat.beq o' o with
  |true=>trivial
  |false=>exact h
 |.elp o' i off sz,v,h=>by
  simp only[SV.frz];cases Nat.beq o' o with
  |true=>trivial
  |false=>exact h
 |.box o' off,v,h=>by
  simp only[SV.frz];cases Nat.beq o' o with
  |true=>trivial
  |false=>exact h
 |.map o',v,h=>by
  simp only[SV.frz];cases Nat.beq o' o with
  |true=>trivial
  |false=>exact h
 |.dd o' w,v,h=>by
  simp only[SV.frz];cases Nat.beq o' o with
  |true=>trivial
  |false=>exact h
 |.rop k l i off,v,h=>by simp only[SV.frz];exact h
 |.cp l off,v,h=>by simp only[SV.frz,SR] at h ⊢;obtain⟨b,c,e,wr,t,h1,h2,h3⟩:=h;exact⟨b,c,e,wr,t,h1,h2,SRs.frz hk l c h3⟩
 |.agg l,v,h=>by simp only[SV.frz,SR] at h ⊢;obtain⟨cs,h1,h2⟩:=h;exact⟨cs,h1,SRs.frz hk l cs h2⟩
 |.tup l,v,h=>by simp only[SV.frz,SR] at h ⊢;obtain⟨cs,h1,h2⟩:=h;exact⟨cs,h1,SRs.frz hk l cs h2⟩
 |.fn f a b,v,h=>by simp only[SV.frz,SR] at h ⊢;obtain⟨x,y,h1,h2,h3⟩:=h;exact⟨x,y,h1,SRs.frz hk a x h2,SRs.frz hk b y h3⟩
 |.pf ks r cF p,v,h=>by simp only[SV.frz];exact h
theorem SRs.frz {B:Heap}{pl:Nat→Value}{tb:Nat→Option Bool}{o:Nat}{k:Kind}{xs:List k.T}(hk:KC B (.list k) xs [pl o]) :
  ∀ (s:List SV) (v:List Value),SRs P B pl tb s v→SRs P B pl tb (SVs.frz o k xs s) v
 |[],v,h=>h
 |s::ss,v,h=>by simp only[SVs.frz,SRs] at h ⊢;obtain⟨x,y,h1,h2,h3⟩:=h;exact⟨x,y,h1,SR.frz hk s x h2,SRs.frz hk ss y h3⟩
end
theorem SRs.length {B:Heap}{pl:Nat→Value}{tb:Nat→Option Bool}:∀ {s:List SV}{v:List Value},SRs P B pl tb s v→s.length=v.length
 |[],v,h=>by simp only[SRs] at h;subst h;rfl
 |s::ss,v,h=>by simp only[SRs] at h;obtain⟨x,y,rfl,_,h3⟩:=h;simp[SRs.length h3]
theorem SRs.get {B:Heap}{pl:Nat→Value}{tb:Nat→Option Bool}:∀ {s:List SV}{v:List Value},SRs P B pl tb s v→∀ {i:Nat}{a:SV},s[i]?=some a→∃ c,v[i]?=some c∧SR P B pl tb a c
 |[],v,h,i,a,hi=>by simp at hi
 |s::ss,v,h,i,a,hi=>by
  simp only[SRs] at h;obtain⟨x,y,rfl,h2,h3⟩:=h;cases i with
  |zero=>simp at hi;subst hi;exact⟨x,rfl,h2⟩
  |succ i=>simp at hi;simpa using SRs.get h3 hi
theorem SRs.of {B:Heap}{pl:Nat→Value}{tb:Nat→Option Bool}:∀ {s:List SV}{v:List Value},s.length=v.length→(∀ (i:Nat) (a:SV) (c:Value),s[i]?=some a→v[i]?=some c→SR P B pl tb a c)→SRs P B pl tb s v
 |[],v,hl,_=>by simp only[SRs];exact List.length_eq_zero_iff.1 (by simpa using hl.symm)
 |s::ss,[],hl,_=>by simp at hl
 |s::ss,x::y,hl,h=>by simp only[SRs];exact⟨x,y,rfl,h 0 s x rfl rfl,SRs.of (by simpa using hl) fun i a c ha hc=>h (i+1) a c (by simpa using ha) (by simpa using hc)⟩
theorem SRs.getD {B:Heap}{pl:Nat→Value}{tb:Nat→Option Bool}{s:List SV}{v:List Value}(h:SRs P B pl tb s v) (i:Nat) (d:Value):SR P B pl tb (s.getD i .any) (v.getD i d):=by
 by_cases hi:i<s.length
 ·obtain⟨c,h1,h2⟩:=h.get (List.getElem?_eq_getElem hi);rw[List.getD_eq_getElem?_getD,List.getD_eq_getElem?_getD,h1,List.getElem?_eq_getElem hi];exact h2
 ·rw[List.getD_eq_getElem?_getD,List.getElem?_eq_none (by omega)];simp[SR]
theorem SRs.set {B:Heap}{pl:Nat→Value}{tb:Nat→Option Bool}{s:List SV}{v:List Value}(h:SRs P B pl tb s v) (i:Nat) {a:SV}{c:Value}(ha:SR P B pl tb a c):SRs P B pl tb (s.set i a) (v.set i c):=by
 refine SRs.of (by simp[h.length]) fun j a' c' h1 h2=>?_;rw[List.getElem?_set] at h1 h2;by_cases bX:i=j
 ·subst bX;simp only[if_true] at h1 h2;split at h1<;>split at h2<;>simp at h1 h2;subst h1;subst h2;exact ha
 ·simp only[bX,if_false] at h1 h2;obtain⟨c,h3,h4⟩:=h.get h1;rw[h3] at h2;obtain rfl:=osj h2;exact h4
theorem SRs.append {B:Heap}{pl:Nat→Value}{tb:Nat→Option Bool}:∀ {s:List SV}{v:List Value}{s':List SV}{v':List Value},SRs P B pl tb s v→SRs P B pl tb s' v'→SRs P B pl tb (s++s') (v++v')
 |[],v,s',v',h,h'=>by simp only[SRs] at h;subst h;exact h'
 |s::ss,v,s',v',h,h'=>by simp only[SRs,List.cons_append] at h ⊢;obtain⟨x,y,rfl,h2,h3⟩:=h;exact⟨x,y++v',rfl,h2,SRs.append h3 h'⟩
theorem SRs.take {B:Heap}{pl:Nat→Value}{tb:Nat→Option Bool}:∀ {s:List SV}{v:List Value},SRs P B pl tb s v→∀ n,SRs P B pl tb (s.take n) (v.take n)
 |[],v,h,n=>by simp only[SRs] at h;subst h;simp[SRs]
 |s::ss,v,h,0=>by simp[SRs]
 |s::ss,v,h,n+1=>by simp only[SRs] at h;obtain⟨x,y,rfl,h2,h3⟩:=h;simp only[List.take_succ_cons,SRs];exact⟨x,_,rfl,h2,SRs.take h3 n⟩
theorem SRs.drop {B:Heap}{pl:Nat→Value}{tb:Nat→Option Bool}:∀ {s:List SV}{v:List Value},SRs P B pl tb s v→∀ n,SRs P B pl tb (s.drop n) (v.drop n)
 |[],v,h,n=>by simp only[SRs] at h;subst h;simp[SRs]
 |s::ss,v,h,0=>by simpa using h
 |s::ss,v,h,n+1=>by simp only[SRs] at h;obtain⟨x,y,rfl,h2,h3⟩:=h;simpa using SRs.drop h3 n
theorem SRs.map {B:Heap}{pl:Nat→Value}{tb:Nat→Option Bool}{α:Type}{f:α→SV}{g:α→Value}:∀ {l:List α},(∀ x∈l,SR P B pl tb (f x) (g x))→SRs P B pl tb (l.map f) (l.map g)
 |[],_=>by simp[SRs]
 |x::l,h=>by simp only[List.map_cons,SRs];exact⟨_,_,rfl,h x (by simp),SRs.map fun y hy=>h y (by simp[hy])⟩
def OB.live:OB→Bool
 |.dead=>false
 |.stk _ _=>false
 |.lpf _ _ s=>s.live
 |_=>true
def oid:Value→Option Nat
 |.slice (some a) _ _=>some a.block
 |.pointer (some a)=>some a.block
 |.map m=>m
 |_=>none
def Oid (p:Value) (i:Nat):Prop:=match p with
 |.tuple l=>∃ b,(JC (.tuple l)).get i=some b
 |v=>oid v=some i
theorem TV {p:Value}{i:Nat}(h:oid p=some i):Oid p i:=by cases p<;>first|exact h|cases h
theorem LD {p:Value}{n i:Nat}(hp:oid p=some n) (hi:Oid p i):i=n:=by cases p<;>first|exact osj (hi.symm.trans hp)|cases hp
def RowsH {α:Type}(R:α→List Value→List Nat→Prop) (sz:Nat) (h:Option Nat):Nat→List α→List Value→List Nat→Prop
 |_,[],cs,is=>cs=[]∧is=[]
 |j,x::xs,cs,is=>∃ c cs' i1 i2,cs=c++cs'∧is=i1++i2∧(if h=some j then c.length=sz∧i1=[] else R x c i1)∧RowsH R sz h (j+1) xs cs' i2
def DO (H:Heap) (ty:Nat) (q:Option Nat) (k:Kind) (xs:List k.T) (h:Option Nat) (v:Value) (is:List Nat):Prop :=
 (xs=[]∧v=.slice none 0 0∧is=[])∨∃ i cap c t js,v=.slice (some ⟨i,0,none⟩) xs.length cap∧is=i::js∧xs.length≤cap∧H.get i=some (.cells c ⟨k.size,ty⟩ true t)∧cap*k.size≤c.length ∧
  RowsH (KO H q k) k.size h 0 xs (c.take (xs.length*k.size)) js
def DP (σ:Heap) (p:Value) (ty:Nat) (q:Option Nat) (k:Kind) (xs:List k.T) (nl:Bool) (h:Option Nat):Prop :=
 ∃ is,(∀ i,Oid p i↔∃ b,(JC p).get i=some b)∧is.Nodup∧DO (JC p) ty q k xs h (phd p) is∧(∀ i,(∃ b,(JC p).get i=some b)↔i∈is)∧(∀ i b,(JC p).get i=some b→σ.get i=some b)∧(nl=true↔phd p=.slice none 0 0)
theorem DP.mono {σ σ':Heap}{p:Value}{ty:Nat}{q:Option Nat}{k:Kind}{xs:List k.T}{nl:Bool}{h:Option Nat}(hd:DP σ p ty q k xs nl h) (hg:∀ i,Oid p i→σ'.get i=σ.get i):DP σ' p ty q k xs nl h:=by obtain⟨is,hO,h1,h2,h3,h4,h5⟩:=hd;exact⟨is,hO,h1,h2,h3,fun i b hb=>by rw[hg i ((hO i).2 ⟨b,hb⟩)];exact h4 i b hb,h5⟩
def MR (B:Heap) (kk vk:Kind):List (kk.T×vk.T)→List J1→Prop
 |[],es=>es=[]
 |m::ms,es=>∃ e bK,es=e::bK∧KV B kk m.1 e.1∧KV B vk m.2 e.2.1∧MR B kk vk ms bK
def SOk (es:List J1) (clock:Nat):Prop:=(es.map fun e=>e.2.2).Nodup∧∀ e∈es,e.2.2<clock
def MC (B:Heap) (kk vk:Kind) (m:List (kk.T×vk.T)) (es:List J1) (clock:Nat):Prop:=MR B kk vk m es∧SOk es clock
def DN (es:List J1) (dn seen:List Nat):Prop:=seen.length=dn.length∧∀ (t r:Nat),dn[t]?=some r→∃ e,es[r]?=some e∧seen[t]?=some e.2.2
def OR (P:Program) (B:Heap) (pl:Nat→Value) (tb:Nat→Option Bool) (σ:Heap) (p:Value):OB→Prop
 |.dead=>True
 |.lst ty k xs nl=>(nl=true∧xs=[]∧p=.slice none 0 0)∨(nl=false∧∃ i cap c t,p=.slice (some ⟨i,0,none⟩) xs.length cap∧xs.length≤cap∧σ.get i=some (.cells c ⟨k.size,ty⟩ true t)∧cap*k.size≤c.length∧Rows (KC B k) xs (c.take (xs.length*k.size)))
 |.cells l u=>∃ i c e t,p=.pointer (some ⟨i,0,none⟩)∧σ.get i=some (.cells c e true t)∧SRs P B pl tb l c∧(∀ y,u=some y→e.ty=y∧t=true)
 |.map kk vk m=>∃ i es clock,p=.map (some i)∧σ.get i=some (.obj (.map es clock) true)∧MC B kk vk m es clock
 |.iter kk vk m dn=>∃ j i es clock wr seen,p=.pointer (some ⟨j,0,none⟩)∧σ.get j=some (.obj (.iter i clock seen clock) true)∧B.get i=some (.obj (.map es clock) wr)∧MC B kk vk m es clock∧DN es dn seen
 |.mapE kk vk m key n=>∃ i es clock,∃ r:Nat,∃ e:J1,p=.map (some i)∧σ.get i=some (.obj (.map es clock) true)∧MC B kk vk m es clock∧es[r]?=some e∧KV B kk key e.1∧Qh e.1 es=some e∧(e.2.2:Int)=n∧∃ mk,gq.mkOk mk kk=true
 |.stk l vals=>SRs P B pl tb l vals
 |.deep ty q k xs nl h=>DP σ p ty q k xs nl h
 |.lpf l q s=>p=.pointer (some ⟨q.i,0,none⟩)∧SRs P B pl tb l q.vals∧(s.live=true→σ.get q.i=some (.obj (.lp q.vals q.r s.st s.pend) true))
theorem MR.mono {B B':Heap}(hB:B.Le B') {kk vk:Kind}:∀ {m:List (kk.T×vk.T)}{es:List J1},MR B kk vk m es→MR B' kk vk m es
 |[],es,h=>h
 |m::ms,es,h=>by obtain⟨e,bK,h1,h2,h3,h4⟩:=h;exact⟨e,bK,h1,h2.mono hB,h3.mono hB,h4.mono hB⟩
theorem MC.mono {B B':Heap}(hB:B.Le B') {kk vk:Kind}{m:List (kk.T×vk.T)}{es:List J1}{clock:Nat}(h:MC B kk vk m es clock):MC B' kk vk m es clock:=⟨h.1.mono hB,h.2⟩
theorem OR.upd {B B':Heap}{pl pl':Nat→Value}{tb tb':Nat→Option Bool}{o:Nat}(hB:B.Le B') (ht:∀ n c,tb n=some c→tb' n=some c) (hp:∀ d,d≠o→pl' d=pl d) {σ σ':Heap}{p:Value}{b:OB}
  (h:OR P B pl tb σ p b) (hg:b.live=true→∀ i,Oid p i→σ'.get i=σ.get i):OR P B' pl' tb' σ' p (b.kill o):=by
 cases b with
 |dead=>trivial
 |lst ty k xs nl =>
  rcases h with h|⟨h0,i,cap,c,t,h1,h2,h3,h4,h5⟩
  ·exact .inl h
  ·exact .inr ⟨h0,i,cap,c,t,h1,h2,by rw[hg rfl i (by rw[h1];rfl)];exact h3,h4,h5.mono fun _ _=>KC.mono hB⟩
 |cells l u =>obtain⟨i,c,e,t,h1,h2,h3,h4⟩:=h;exact⟨i,c,e,t,h1,by rw[hg rfl i (by rw[h1];rfl)];exact h2,SRs.upd hB ht hp l c h3,h4⟩
 |map kk vk m =>obtain⟨i,es,clock,h1,h2,h3⟩:=h;exact⟨i,es,clock,h1,by rw[hg rfl i (by rw[h1];rfl)];exact h2,h3.mono hB⟩
 |mapE kk vk m key n =>obtain⟨i,es,clock,r,e,h1,h2,h3,h4,h5,h6⟩:=h;exact⟨i,es,clock,r,e,h1,by rw[hg rfl i (by rw[h1];rfl)];exact h2,h3.mono hB,h4,h5.mono hB,h6⟩
 |stk l vals=>exact SRs.upd hB ht hp l vals h
 |deep ty q k xs nl hh=>exact DP.mono h (hg rfl)
 |iter kk vk m dn =>obtain⟨j,i,es,clock,wr,seen,h1,h2,h3,h4,h5⟩:=h;exact⟨j,i,es,clock,wr,seen,h1,by rw[hg rfl j (by rw[h1];rfl)];exact h2,hB.2 _ _ h3,h4.mono hB,h5⟩
 |lpf l q s=>exact⟨h.1,SRs.upd hB ht hp l q.vals h.2.1,fun hl=>by rw[hg hl q.i (by rw[h.1];rfl)];exact h.2.2 hl⟩
theorem OR.mono {B B':Heap}{pl:Nat→Value}{tb tb':Nat→Option Bool}(hB:B.Le B') (ht:∀ n c,tb n=some c→tb' n=some c) {σ σ':Heap}{p:Value}{b:OB}
  (h:OR P B pl tb σ p b) (hg:b.live=true→∀ i,Oid p i→σ'.get i=σ.get i):OR P B' pl tb' σ' p b:=by
 cases b with
 |dead=>trivial
 |lst ty k xs nl =>
  rcases h with h|⟨h0,i,cap,c,t,h1,h2,h3,h4,h5⟩
  ·exact .inl h
  ·exact .inr ⟨h0,i,cap,c,t,h1,h2,by rw[hg rfl i (by rw[h1];rfl)];exact h3,h4,h5.mono fun _ _=>KC.mono hB⟩
 |cells l u =>obtain⟨i,c,e,t,h1,h2,h3,h4⟩:=h;exact⟨i,c,e,t,h1,by rw[hg rfl i (by rw[h1];rfl)];exact h2,SRs.mono hB ht l c h3,h4⟩
 |map kk vk m =>obtain⟨i,es,clock,h1,h2,h3⟩:=h;exact⟨i,es,clock,h1,by rw[hg rfl i (by rw[h1];rfl)];exact h2,h3.mono hB⟩
 |mapE kk vk m key n =>obtain⟨i,es,clock,r,e,h1,h2,h3,h4,h5,h6⟩:=h;exact⟨i,es,clock,r,e,h1,by rw[hg rfl i (by rw[h1];rfl)];exact h2,h3.mono hB,h4,h5.mono hB,h6⟩
 |stk l vals=>exact SRs.mono hB ht l vals h
 |deep ty q k xs nl hh=>exact DP.mono h (hg rfl)
 |iter kk vk m dn =>obtain⟨j,i,es,clock,wr,seen,h1,h2,h3,h4,h5⟩:=h;exact⟨j,i,es,clock,wr,seen,h1,by rw[hg rfl j (by rw[h1];rfl)];exact h2,hB.2 _ _ h3,h4.mono hB,h5⟩
 |lpf l q s=>exact⟨h.1,SRs.mono hB ht l q.vals h.2.1,fun hl=>by rw[hg hl q.i (by rw[h.1];rfl)];exact h.2.2 hl⟩
theorem Qv (own:Own) (d:Nat) (b:OB) (d':Nat):Qg (oset own d b) d'=if d'=d then b else Qg own d':=by
 induction own with
 |nil =>
  simp only[oset,Qg];by_cases h:d'=d
  ·subst h;simp
  ·rw[if_neg h,X6 fun e=>h e.symm];rfl
 |cons p r ih =>
  obtain⟨k,c⟩:=p;simp only[oset];by_cases h1:k=d
  ·subst h1;simp only[Nat.beq_refl,_root_.cond_true,Qg];by_cases h:d'=k
   ·subst h;simp
   ·rw[if_neg h,X6 fun e=>h e.symm];rfl
  ·rw[X6 h1,cond_false];cases Nat.blt d k with
   |true =>
    simp only[_root_.cond_true,Qg];by_cases h:d'=d
    ·subst h;simp
    ·rw[if_neg h,X6 fun e=>h e.symm];rfl
   |false =>
    simp only[cond_false,Qg,ih];by_cases h:k=d'
    ·subst h;simp[h1]
    ·rw[X6 h];rfl
theorem Yw (own:Own) (o d:Nat):Qg (SK o own) d=if d=o then .dead else (Qg own d).kill o:=by
 induction own with
 |nil=>simp[SK,Qg,OB.kill]
 |cons p r ih =>
  obtain⟨k,c⟩:=p;simp only[SK];by_cases h1:k=o
  ·subst h1;simp only[Nat.beq_refl,_root_.cond_true,ih,Qg];by_cases h:d=k
   ·simp[h]
   ·rw[if_neg h,if_neg h,X6 fun e=>h e.symm];rfl
  ·rw[X6 h1,cond_false];simp only[Qg,ih];by_cases h:k=d
   ·subst h;simp[h1]
   ·rw[X6 h];simp
theorem OR.frz {B:Heap}{pl:Nat→Value}{tb:Nat→Option Bool}{o:Nat}{k:Kind}{xs:List k.T}(hk:KC B (.list k) xs [pl o]) {σ:Heap}{p:Value}{b:OB}
  (h:OR P B pl tb σ p b):OR P B pl tb σ p (b.frz o k xs):=by
 cases b with
 |cells l u =>obtain⟨i,c,e,t,h1,h2,h3,h4⟩:=h;exact⟨i,c,e,t,h1,h2,SRs.frz hk l c h3,h4⟩
 |stk l vals=>exact SRs.frz hk l vals h
 |lpf l q s=>exact⟨h.1,SRs.frz hk l q.vals h.2.1,h.2.2⟩
 |_=>exact h
theorem LH (own:Own) (o:Nat) (k:Kind) (xs:List k.T) (d:Nat):Qg (Ar o k xs own) d=if d=o then .dead else (Qg own d).frz o k xs:=by
 induction own with
 |nil=>simp[Ar,Qg,OB.frz]
 |cons p r ih =>
  obtain⟨j,c⟩:=p;simp only[Ar];by_cases h1:j=o
  ·subst h1;simp only[Nat.beq_refl,_root_.cond_true,ih,Qg];by_cases h:d=j
   ·simp[h]
   ·rw[if_neg h,if_neg h,X6 fun e=>h e.symm];rfl
  ·rw[X6 h1,cond_false];simp only[Qg,ih];by_cases h:j=d
   ·subst h;simp[h1]
   ·rw[X6 h];simp
theorem OB.live_frz (b:OB) (o:Nat) (k:Kind) (xs:List k.T):(b.frz o k xs).live=b.live:=by cases b<;>rfl
structure Gam (P:Program) (B F:Heap) (pl:Nat→Value) (tb:Nat→Option Bool) (s:St) (env:Env) (σ:Heap):Prop where
 bf:B.Le F
 le:F.Le σ
 env:SRs P B pl tb s.env env
 obj:∀ d,OR P B pl tb σ (pl d) (Qg s.own d)
 fresh:∀ d i,(Qg s.own d).live=true→Oid (pl d) i→F.get i=none
 sep:∀ d d' i,d≠d'→(Qg s.own d).live=true→(Qg s.own d').live=true→Oid (pl d) i→Oid (pl d') i→False
 free:∀ n,s.nx≤n→tb n=none
theorem Gam.leB {B F:Heap}{pl:Nat→Value}{tb:Nat→Option Bool}{s:St}{env:Env}{σ:Heap}(h:Gam P B F pl tb s env σ):B.Le σ:=h.bf.trans h.le
def Jd (pl:Nat→Value) (d:Nat) (p:Value):Nat→Value:=fun j=>if j=d then p else pl j
theorem OB.live_kill (b:OB) (o:Nat):(b.kill o).live=b.live:=by cases b<;>rfl
theorem Gam.make {B F:Heap}{pl:Nat→Value}{tb:Nat→Option Bool}{s:St}{env:Env}{σ σ':Heap}(h:Gam P B F pl tb s env σ) (d:Nat) (b:OB) (p:Value) (hle:F.Le σ')
  (cD:∀ j i,j≠d→(Qg s.own j).live=true→Oid (pl j) i→σ'.get i=σ.get i) (hb:OR P B (Jd pl d p) tb σ' p b)
  (bg:∀ i,b.live=true→Oid p i→F.get i=none∧∀ j,j≠d→(Qg s.own j).live=true→¬ Oid (pl j) i):Gam P B F (Jd pl d p) tb (s.make d b) env σ':=by
 have hp:∀ j,j≠d→Jd pl d p j=pl j:=fun j hj=>by simp[Jd,hj]
 have hg:∀ j,Qg (s.make d b).own j=if j=d then b else (Qg s.own j).kill d:=fun j=>by simp only[St.make,St.kill,Qv,Yw];split<;>rfl
 refine⟨h.bf,hle,SRs.upd (Heap.Le.refl B) (fun _ _ h=>h) hp _ _ h.env,fun j=>?_,fun j i hl hi=>?_,fun j j' i aC hl cg hi cn=>?_,h.free⟩
 ·rw[hg];by_cases hj:j=d
  ·subst hj;rw[if_pos rfl];simpa [Jd] using hb
  ·rw[if_neg hj,hp j hj];exact(h.obj j).upd (Heap.Le.refl B) (fun _ _ h=>h) hp fun hl i hi=>cD j i hj hl hi
 ·rw[hg] at hl;by_cases hj:j=d
  ·subst hj;rw[if_pos rfl] at hl;simp only[Jd,if_true] at hi;exact(bg i hl hi).1
  ·rw[if_neg hj,OB.live_kill] at hl;rw[hp j hj] at hi;exact h.fresh j i hl hi
 ·rw[hg] at hl cg;by_cases hj:j=d
  ·subst hj;rw[if_pos rfl] at hl;have cS:j'≠j:=fun e=>aC e.symm;rw[if_neg cS,OB.live_kill] at cg;rw[hp j' cS] at cn;simp only[Jd,if_true] at hi;exact(bg i hl hi).2 j' cS cg cn
  ·rw[if_neg hj,OB.live_kill] at hl;rw[hp j hj] at hi;by_cases cS:j'=d
   ·subst cS;rw[if_pos rfl] at cg;simp only[Jd,if_true] at cn;exact(bg i cg cn).2 j hj hl hi
   ·rw[if_neg cS,OB.live_kill] at cg;rw[hp j' cS] at cn;exact h.sep j j' i aC hl cg hi cn
theorem Gam.write {B F:Heap}{pl:Nat→Value}{tb:Nat→Option Bool}{s:St}{env:Env}{σ σ':Heap}(h:Gam P B F pl tb s env σ) (d:Nat) (b:OB) (hle:F.Le σ') (av:(Qg s.own d).live=true)
  (cD:∀ j i,j≠d→(Qg s.own j).live=true→Oid (pl j) i→σ'.get i=σ.get i) (hb:OR P B pl tb σ' (pl d) b):Gam P B F pl tb ⟨s.env,oset s.own d b,s.nx⟩ env σ':=by
 refine⟨h.bf,hle,h.env,fun j=>?_,fun j i hl hi=>?_,fun j j' i aC hl cg hi cn=>?_,h.free⟩
 ·simp only[Qv];by_cases hj:j=d
  ·subst hj;rw[if_pos rfl];exact hb
  ·rw[if_neg hj];exact(h.obj j).mono (Heap.Le.refl B) (fun _ _ h=>h) fun hl i hi=>cD j i hj hl hi
 ·simp only[Qv] at hl;by_cases hj:j=d
  ·subst hj;exact h.fresh j i av hi
  ·rw[if_neg hj] at hl;exact h.fresh j i hl hi
 ·simp only[Qv] at hl cg;have k1:(Qg s.own j).live=true:=by
   by_cases hj:j=d
   ·subst hj;exact av
   ·rwa [if_neg hj] at hl
  have k2:(Qg s.own j').live=true:=by
   by_cases hj:j'=d
   ·subst hj;exact av
   ·rwa [if_neg hj] at cg
  exact h.sep j j' i aC k1 k2 hi cn
theorem Gam.put {B F:Heap}{pl:Nat→Value}{tb:Nat→Option Bool}{s:St}{env:Env}{σ:Heap}(h:Gam P B F pl tb s env σ) (d:Option Nat) {v:SV}{u:Value}(hv:SR P B pl tb v u):Gam P B F pl tb (s.put d v) (Jq env d u) σ:=by
 cases d with
 |none=>exact h
 |some d=>exact⟨h.bf,h.le,h.env.set d hv,h.obj,h.fresh,h.sep,h.free⟩
end
end Go.V
namespace Go.V
open Go
section
variable {P:Program}{B:Heap}{pl:Nat→Value}{tb:Nat→Option Bool}{own:Own}{σ:Heap}
theorem Zn {s:SV}{v:Value}{k:IntKind}{x:Int}(h:asI s=some (k,x)) (hs:SR P B pl tb s v):v=.int k x:=by
 unfold asI at h;split at h
 ·obtain⟨rfl,rfl⟩:=(by simpa using h:_=k∧_=x);simp only[SR,KC] at hs;simpa using hs
 ·cases h
theorem JH {s:SV}{v:Value}{x:Bool}(h:asB s=some x) (hs:SR P B pl tb s v):v=.bool x:=by
 unfold asB at h;split at h
 ·obtain rfl:=osj h;simp only[SR,KC] at hs;simpa using hs
 ·obtain rfl:=osj h;simp only[SR] at hs;exact hs.1
 ·cases h
theorem Ye {s:SV}{v:Value}{x:List UInt8}(h:asS s=some x) (hs:SR P B pl tb s v):v=.string ⟨x.toArray⟩:=by
 unfold asS at h;split at h
 ·obtain rfl:=osj h;simp only[SR,KC] at hs;simpa using hs
 ·cases h
theorem JQ {k k':Kind}{l:List k.T}{l':List k'.T}(h:KN l k'=some l'):k=k':=by
 unfold KN at h;split at h
 ·assumption
 ·cases h
theorem JP {k:Kind}{l l':List k.T}(h:KN l k=some l'):l'=l:=by unfold KN at h;rw[dif_pos rfl] at h;exact(osj h).symm
theorem Bh {k k':Kind}{x:k.T}{x':k'.T}(h:Lr x k'=some x'):k=k':=by
 unfold Lr at h;split at h
 ·assumption
 ·cases h
theorem BG {k:Kind}{x x':k.T}(h:Lr x k=some x'):x'=x:=by unfold Lr at h;rw[dif_pos rfl] at h;exact(osj h).symm
theorem Ns (v:Value):SR P B pl tb (cvp v) v:=by unfold cvp;split<;>simp[SR,KC]
theorem Ac (v:Value):SR P B pl tb (cv v) v:=by
 unfold cv;split
 ·rename_i cs;simp only[SR];refine⟨cs.toList,by simp,?_⟩;have:SRs P B pl tb (cs.toList.map cvp) (cs.toList.map id):=SRs.map fun x _=>Ns x;simpa using this
 ·exact Ns v
def Gds (tb:Nat→Option Bool) (gs:List Gd):Prop:=∀ g∈gs,g.c=g.want∧tb g.id=some g.c
theorem Sj {a b:List Gd}(h:Fm a b=true) (hb:Gds tb b) (ha:∀ g∈a,tb g.id=some g.c):∀ g∈a,g.c=g.want:=by
 induction b generalizing a with
 |nil=>cases a with
  |nil=>intro g hg;cases hg
  |cons x a=>simp[Fm] at h
 |cons y b ih =>
  cases a with
  |nil=>intro g hg;cases hg
  |cons x a =>
   have bU:Gds tb b:=fun g hg=>hb g (List.mem_cons_of_mem _ hg);simp only[Fm] at h;cases hc:(Nat.beq x.id y.id&&(x.want==y.want)) with
   |true =>
    rw[hc] at h;simp only[_root_.cond_true] at h;simp only[Bool.and_eq_true,beq_iff_eq] at hc;have e1:=Nat.eq_of_beq_eq_true hc.1;intro g hg;rcases List.mem_cons.1 hg with rfl|hg
    ·have h1:=ha g (by simp);have h2:=hb y (by simp);rw[e1] at h1;rw[h2.2] at h1;obtain e:=osj h1;rw[←e,h2.1,hc.2]
    ·exact ih h bU (fun g hg=>ha g (List.mem_cons_of_mem _ hg)) g hg
   |false =>rw[hc] at h;exact ih h bU ha
theorem Pw {gs:List Gd}(hg:Gds tb gs) {s:SV}{v:Value}(h:SR P B pl tb s v):SR P B pl tb (Cj gs s) v:=by
 unfold Cj;split
 ·rename_i g s;simp only[SR] at h;cases hs:Fm g gs with
  |true=>exact h.2.1 (Sj hs hg h.1.1)
  |false=>trivial
 ·exact h
theorem LX {gs:List Gd}(hg:Gds tb gs) {env:List SV}{mQ:Env}(h:SRs P B pl tb env mQ) (x:Operand):SR P B pl tb (gev gs env x) (Q8 mQ x):=by
 cases x with
 |tmp t=>exact Pw hg (h.getD t undef)
 |const v=>exact Ac v
 |global g=>trivial
 |func f=>simp only[gev,Q8,SR,SRs];exact⟨[],[],rfl,rfl,rfl⟩
theorem XE {h:Heap}:∀ {k:Kind}{x:k.T}{cs:List Value},KC h k x cs→SRs P h pl tb (Ka k x) cs
 |.i ik,x,cs,e=>by simp only[KC] at e;subst e;simp[Ka,SRs,SR,KC]
 |.bo,x,cs,e=>by simp only[KC] at e;subst e;simp[Ka,SRs,SR,KC]
 |.st,x,cs,e=>by simp only[KC] at e;subst e;simp[Ka,SRs,SR,KC]
 |.list k,l,cs,e=>by obtain⟨v,rfl,hs⟩:=e;simp only[Ka,SRs,SR];exact⟨v,[],rfl,⟨v,rfl,hs⟩,rfl⟩
 |.pair a b,x,cs,e=>by obtain⟨c1,c2,rfl,h1,h2⟩:=e;exact(XE h1).append (XE h2)
theorem J0 {h:Heap}{k:Kind}{x:k.T}{v:Value}(e:KV h k x v):SR P h pl tb (Rc k x) v:=by
 cases k with
 |pair a b =>
  rcases e with⟨h1,_⟩|⟨_,cs,rfl,e⟩
  ·cases h1
  ·simp only[Rc,SR];exact⟨cs,rfl,XE e⟩
 |i k|bo|st|list k =>
  rcases e with⟨_,e⟩|⟨h1,_⟩
  ·simpa only [Rc,SR] using e
  ·cases h1
theorem ZU {l:List SV}{c:List Value}(h:SRs P B pl tb l c) {agg:Bool}{size off:Nat}{v:SV}(hv:My agg size l off=some v):∃ u,Ju agg size c off=some u∧SR P B pl tb v u:=by
 cases agg with
 |true =>
  simp only[My,_root_.cond_true] at hv;split at hv
  ·rename_i hle;obtain rfl:=osj hv;rw[h.length] at hle;refine⟨.agg ((c.drop off).take size).toArray,by simp only[Ju,if_true,hle],?_⟩;simp only[SR];exact⟨_,rfl,(h.drop off).take size⟩
  ·cases hv
 |false =>simp only[My,_root_.cond_false] at hv;obtain⟨u,h1,h2⟩:=h.get hv;exact⟨u,by simpa [Ju] using h1,h2⟩
theorem KP {agg:Bool}{size off n m i:Nat}{c:List Value}{u:Value}(bP:off+size≤n) (hs:0<size) (h:Ju agg size (((c.take m).drop (i*n)).take n) off=some u) (hl:i*n+n≤m):Ju agg size c (i*n+off)=some u:=by
 cases agg with
 |true =>
  simp only[Ju,if_true] at h ⊢;split at h
  ·rename_i hle;simp only[List.length_take,List.length_drop] at hle;rw[if_pos (by omega)];obtain rfl:=osj h;congr 3;apply List.ext_getElem?;intro j;simp only[List.getElem?_take,List.getElem?_drop];split
   ·rw[if_pos (by omega),if_pos (by omega),Nat.add_assoc]
   ·rfl
  ·cases h
 |false =>simp only[Ju,Bool.false_eq_true,if_false] at h ⊢;simp only[List.getElem?_take,List.getElem?_drop] at h;rw[if_pos (by omega),if_pos (by omega)] at h;exact h
theorem KC.rows_len {h:Heap}{k:Kind}:∀ (x:k.T) (c:List Value),KC h k x c→c.length=k.size:=fun _ _ e=>KC.length e
theorem KC.flat {h h':Heap}:∀ {k:Kind}{x:k.T}{cs:List Value},k.flat=true→KC h k x cs→KC h' k x cs
 |.i _,_,_,_,e|.bo,_,_,_,e|.st,_,_,_,e=>e
 |.list _,_,_,f,_=>by cases f
 |.pair a b,x,cs,f,e=>by simp only[Kind.flat,Bool.and_eq_true] at f;obtain⟨c1,c2,hc,h1,h2⟩:=e;exact⟨c1,c2,hc,KC.flat f.1 h1,KC.flat f.2 h2⟩
theorem KV.flat {h h':Heap}{k:Kind}{x:k.T}{v:Value}(e:KV h k x v) (f:k.flat=true):KV h' k x v:=by
 rcases e with⟨ho,e⟩|⟨ho,cs,hv,e⟩
 ·exact .inl ⟨ho,KC.flat f e⟩
 ·exact .inr ⟨ho,cs,hv,KC.flat f e⟩
theorem KO.kc {H:Heap}:∀ {k:Kind}{q:Option Nat}{x:k.T}{cs:List Value}{is:List Nat},KO H q k x cs is→KC H k x cs
 |.i _,_,_,_,_,h=>by simp only[KO] at h;exact h.1
 |.bo,_,_,_,_,h=>by simp only[KO] at h;exact h.1
 |.st,_,_,_,_,h=>by simp only[KO] at h;exact h.1
 |.list k,q,l,cs,is,h=>by
  simp only[KO] at h;rcases h with⟨rfl,rfl,_⟩|⟨i,cap,c,e,t,js,rfl,rfl,h1,h2,h3,_,h4,h5⟩
  ·exact⟨_,rfl,.inl ⟨rfl,rfl⟩⟩
  ·refine⟨_,rfl,.inr ⟨i,0,cap,c,e,true,t,rfl,h1,h2,h3,by have:=Nat.mul_le_mul_right k.size h1;omega,?_⟩⟩;rw[List.drop_zero];have key:∀ {xs:List k.T}{cs:List Value}{js:List Nat},RowsO (fun x c is=>KO H none k x c is) xs cs js→Rows (fun x c=>KC H k x c) xs cs:=fun h=>by
    induction h with
    |nil=>exact .nil
    |cons h _ ih=>exact .cons (KO.kc (k:=k) h) ih
   exact key h5
 |.pair a b,_,x,cs,is,h=>by simp only[KO] at h;obtain⟨c1,c2,i1,i2,rfl,rfl,h1,h2⟩:=h;exact⟨c1,c2,rfl,h1.kc,h2.kc⟩
def Q0y:Kind→List Value→Prop
 |.list _,cs=>∀ v,cs=[v]→∀ a n c,v=.slice (some a) n c→a.off=0
 |_,_=>True
theorem KO.koff {H:Heap}:∀ {k:Kind}{q:Option Nat}{x:k.T}{cs:List Value}{is:List Nat},KO H q k x cs is→Q0y k cs
 |.i _,_,_,_,_,_|.bo,_,_,_,_,_|.st,_,_,_,_,_|.pair _ _,_,_,_,_,_=>trivial
 |.list k,q,l,cs,is,h=>by
  simp only[KO] at h;intro v hv a n c' hs;rcases h with⟨_,rfl,_⟩|⟨i,cap,c,e,t,js,rfl,_⟩
  ·obtain rfl:=(List.cons.inj hv).1;cases hs
  ·obtain rfl:=(List.cons.inj hv).1;cases hs;rfl
theorem RowsH.rows {α:Type}{R:α→List Value→List Nat→Prop}{R':α→List Value→Prop}(hR:∀ x c is,R x c is→R' x c) {sz:Nat}:∀ {xs:List α}{j:Nat}{cs:List Value}{is:List Nat},RowsH R sz none j xs cs is→Rows R' xs cs
 |[],j,cs,is,h=>by obtain⟨rfl,_⟩:=h;exact .nil
 |x::xs,j,cs,is,h=>by obtain⟨c,cs',i1,i2,rfl,rfl,h1,h2⟩:=h;rw[if_neg (by simp)] at h1;exact .cons (hR _ _ _ h1) (RowsH.rows hR h2)
theorem Bl:∀ {l:List (Nat×Blk)}{p:Nat×Blk},p∈l→∃ b,Hh l p.1=some b
 |(j,b)::r,p,h=>by
  by_cases e:p.1=j
  ·exact⟨b,by simp only[Hh,if_pos e]⟩
  ·rcases List.mem_cons.1 h with rfl|h
   ·exact absurd rfl e
   ·obtain⟨b',h'⟩:=Bl h;exact⟨b',by simp only[Hh,if_neg e];exact h'⟩
theorem L_:∀ {l:List (Nat×Blk)}{n:Nat},(∀ p∈l,p.1<n)→FL l≤n
 |[],n,_=>Nat.zero_le _
 |(j,b)::r,n,h=>by have h1:=h (j,b) List.mem_cons_self;have h2:=L_ (l:=r) (n:=n) fun p hp=>h p (List.mem_cons_of_mem _ hp);simp only[FL];simp only at h1;omega
theorem L4 (p:Value):∃ l,JC p=Fj l:=by
 unfold JC;split
 ·exact⟨_,rfl⟩
 ·exact⟨_,rfl⟩
theorem AJ {p:Value}{σ:Heap}(h:∀ i b,(JC p).get i=some b→σ.get i=some b):(JC p).Le σ:=by obtain⟨l,e⟩:=L4 p;rw[e] at h ⊢;refine⟨L_ fun x hx=>?_,h⟩;obtain⟨b,hb⟩:=Bl hx;exact σ.lt (h x.1 b hb)
theorem TZ:∀ (l:List Value) {i:Nat}{c:List Value}{e:El}{wr t:Bool},Hh (OG l) i=some (.cells c e wr t)→wr=true
 |[],i,c,e,wr,t,h=>by cases h
 |v::vs,i,c,e,wr,t,h=>by
  unfold OG at h;split at h
  ·rename_i q hq;obtain⟨j,b⟩:=q;simp only[Hh] at h;split at h
   ·obtain rfl:=osj h;unfold Q5k at hq;split at hq
    ·cases hq;rfl
    ·cases hq
   ·exact TZ vs h
  ·exact TZ vs h
theorem A_ {p:Value}{i:Nat}{c:List Value}{e:El}{wr t:Bool}(h:(JC p).get i=some (.cells c e wr t)):wr=true:=by
 unfold JC at h;split at h
 ·exact TZ _ h
 ·cases h
theorem DP.le {σ:Heap}{p:Value}{ty:Nat}{q:Option Nat}{k:Kind}{xs:List k.T}{nl:Bool}{h:Option Nat}(hd:DP σ p ty q k xs nl h):(JC p).Le σ:=by obtain⟨is,_,_,_,_,h4,_⟩:=hd;exact AJ h4
theorem DP.sl {σ:Heap}{p:Value}{ty:Nat}{q:Option Nat}{k:Kind}{xs:List k.T}{nl:Bool}(hd:DP σ p ty q k xs nl none):SlRel (JC p) k.size (KC (JC p) k) xs (phd p):=by
 obtain⟨is,_,_,h2,_,_,_⟩:=hd;rcases h2 with⟨rfl,h,_⟩|⟨i,cap,c,t,js,h,_,h1,h3,h4,h5⟩
 ·exact .inl ⟨rfl,h⟩
 ·refine .inr ⟨i,0,cap,c,_,true,t,h,h1,h3,rfl,by have:=Nat.mul_le_mul_right k.size h1;omega,?_⟩;rw[List.drop_zero];exact h5.rows fun _ _ _ h=>h.kc
theorem DP.hd {σ:Heap}{p:Value}{ty:Nat}{q:Option Nat}{k:Kind}{xs:List k.T}{nl:Bool}{h:Option Nat}(hd:DP σ p ty q k xs nl h):∃ a cap,phd p=.slice a xs.length cap:=by
 obtain⟨is,_,_,h2,_,_,_⟩:=hd;rcases h2 with⟨rfl,h,_⟩|⟨i,cap,c,t,js,h,_⟩
 ·exact⟨_,_,h⟩
 ·exact⟨_,_,h⟩
theorem RX {H:Heap}{k:Kind}{l:List k.T}{v:Value}(h:KC H (.list k) l [v]) {j:Nat}(hj:j<l.length):∃ b o cap c e wr t,v=.slice (some ⟨b,o,none⟩) l.length cap∧H.get b=some (.cells c e wr t)∧o+l.length*k.size≤c.length∧Rows (KC H k) l ((c.drop o).take (l.length*k.size)):=by
 obtain⟨v',e,hs⟩:=h;obtain rfl:=(List.cons.inj e).1;rcases hs with⟨rfl,_⟩|⟨b,o,cap,c,e',wr,t,h2,h3,h4,h5,h6,h7⟩
 ·simp at hj
 ·exact⟨b,o,cap,c,e',wr,t,h2,h4,h6,h7⟩
theorem Ge {p:Value}{k:Kind}{l:List k.T}{v:Value}(h:KC (JC p) (.list k) l [v]):SlRel (JC p) k.size (fun x c=>KC (JC p) k x c) l v:=by obtain⟨v',e,hs⟩:=h;obtain rfl:=(List.cons.inj e).1;exact hs
theorem Xo (hle:B.Le σ) (ax:∀ d,OR P B pl tb σ (pl d) (Qg own d)) {k:Kind}{s:SV}{l:List k.T}{v:Value}(h:view own k s=some l) (hs:SR P B pl tb s v):SlRel σ k.size (KC B k) l v:=by
 unfold view at h;split at h
 ·obtain rfl:=osj h;simp only[SR] at hs;exact .inl ⟨rfl,hs⟩
 ·rename_i k' l0;obtain rfl:=JQ h;obtain rfl:=JP h;simp only[SR,KC] at hs;obtain⟨v',e,hs⟩:=hs;obtain rfl:=(List.cons.inj e).1;exact hs.mono hle fun _ _ h=>h
 ·rename_i o;have ho:=ax o;simp only[SR] at hs
  replace hs:=hs.1
  split at h
  ·rename_i ty k' xs nl heq;obtain rfl:=JQ h;obtain rfl:=JP h;rw[heq] at ho;rcases ho with⟨_,rfl,h2⟩|⟨_,i,cap,c,t,h1,h2,h3,h4,h5⟩
   ·exact .inl ⟨rfl,by rw[hs,h2]⟩
   ·refine .inr ⟨i,0,cap,c,_,true,t,by rw[hs,h1],h2,h3,rfl,?_,by simpa using h5⟩;have:=Nat.mul_le_mul_right k'.size h2;omega
  ·cases h
 ·rename_i o lo n sz;have ho:=ax o;split at h
  ·rename_i ty k' xs nl heq;split at h
   ·rename_i aB;subst aB;cases hc:KN xs k with
    |none=>rw[hc] at h;cases h
    |some cr =>
     obtain rfl:=JQ hc;obtain rfl:=JP hc;rw[hc] at h;obtain rfl:=osj h;simp only[SR] at hs;rw[heq] at ho;rcases hs with⟨rfl,rfl,rfl,_⟩|⟨i,len,cap,aq,h1,h2,h3,rfl⟩
     ·exact .inl ⟨by simp,rfl⟩
     ·rcases ho with⟨_,_,h4⟩|⟨_,i',eu,c,t,h4,h5,h6,h7,h8⟩
      ·rw[h1] at h4;cases h4
      ·rw[h1] at h4;obtain⟨rfl,rfl,rfl⟩:=(by simpa using h4:i=i'∧len=cr.length∧cap=eu);have hlen:((cr.drop lo).take n).length=n:=by simp;omega
       have k1:lo*k'.size+n*k'.size≤cr.length*k'.size:=by rw[←Nat.add_mul];exact Nat.mul_le_mul_right _ h2
       have k2:=Nat.mul_le_mul_right k'.size h5;refine .inr ⟨i,lo*k'.size,aq,c,_,true,t,by rw[hlen],by rw[hlen];exact h3,h6,rfl,by rw[hlen];omega,?_⟩;rw[hlen];have:=(h8.drop KC.rows_len lo).take KC.rows_len n;have e:((c.take (cr.length*k'.size)).drop (lo*k'.size)).take (n*k'.size)=(c.drop (lo*k'.size)).take (n*k'.size):=by
        apply List.ext_getElem?;intro j;simp only[List.getElem?_take,List.getElem?_drop];split
        ·rw[if_pos (by omega)]
        ·rfl
       rw[e] at this;exact this
   ·cases h
  ·cases h
 ·rename_i o w;have ho:=ax o;simp only[SR] at hs;cases hf:k.flat with
  |false=>rw[hf] at h;cases h
  |true =>
   rw[hf] at h;simp only[_root_.cond_true] at h;split at h
   ·rename_i ty q k' xs nl hole heq;rw[heq] at ho;have cR:=DP.le ho;split at h
    ·split at h
     ·obtain rfl:=JQ h;obtain rfl:=JP h;obtain⟨hs,_⟩:=hs;rw[hs];exact(DP.sl ho).mono cR fun _ _ e=>KC.flat hf e
     ·cases h
    ·rename_i k' l';obtain rfl:=JQ h;obtain rfl:=JP h;exact(Ge hs).mono cR fun _ _ e=>KC.flat hf e
    ·rename_i k' l' i;obtain rfl:=JQ h;obtain rfl:=JP h;exact(Ge hs.1).mono cR fun _ _ e=>KC.flat hf e
    ·cases h
   ·cases h
 ·cases h
theorem SlRel.len {h:Heap}{sz:Nat}{α:Type}{R:α→List Value→Prop}{l:List α}{v:Value}(hs:SlRel h sz R l v):∃ a cap,v=.slice a l.length cap:=by
 rcases hs with⟨rfl,rfl⟩|⟨i,o,cap,c,e,wr,t,rfl,_⟩
 ·exact⟨_,_,rfl⟩
 ·exact⟨_,_,rfl⟩
theorem Ln (ax:∀ d,OR P B pl tb σ (pl d) (Qg own d)) {s:SV}{n:Nat}{v:Value}(h:Q2k own s=some n) (hs:SR P B pl tb s v):∃ a cap,v=.slice a n cap:=by
 unfold Q2k at h;split at h
 ·obtain rfl:=osj h;simp only[SR] at hs;exact⟨_,_,hs⟩
 ·obtain rfl:=osj h;simp only[SR,KC] at hs;obtain⟨v',e,hs⟩:=hs;obtain rfl:=(List.cons.inj e).1;exact hs.len
 ·rename_i o;have ho:=ax o;simp only[SR] at hs
  replace hs:=hs.1
  split at h
  ·rename_i ty k' xs nl heq;obtain rfl:=osj h;rw[heq] at ho;rcases ho with⟨_,rfl,h2⟩|⟨_,i,cap,c,t,h1,h2,h3,h4,h5⟩
   ·exact⟨_,_,by rw[hs,h2];rfl⟩
   ·exact⟨_,_,by rw[hs,h1]⟩
  ·cases h
 ·obtain rfl:=osj h;simp only[SR] at hs;rcases hs with⟨rfl,rfl,rfl,_⟩|⟨i,len,cap,aq,h1,h2,h3,rfl⟩
  ·exact⟨_,_,rfl⟩
  ·exact⟨_,_,rfl⟩
 ·rename_i o w;have ho:=ax o;simp only[SR] at hs;split at h
  ·rename_i ty q k' xs nl hole heq;rw[heq] at ho;split at h
   ·split at h
    ·obtain rfl:=osj h;obtain⟨hs,_⟩:=hs;rw[hs];exact DP.hd ho
    ·cases h
   ·obtain rfl:=osj h;exact(Ge hs).len
   ·obtain rfl:=osj h;exact(Ge hs.1).len
   ·cases h
  ·cases h
 ·cases h
theorem ZP {o:Nat}:∀ {k:Kind}{x:k.T}{cs:List Value},KC (JC (pl o)) k x cs→SRs P B pl tb (V_ o k x) cs
 |.i ik,x,cs,h=>by simp only[KC] at h;subst h;simp[V_,SRs,SR,KC]
 |.bo,x,cs,h=>by simp only[KC] at h;subst h;simp[V_,SRs,SR,KC]
 |.st,x,cs,h=>by simp only[KC] at h;subst h;simp[V_,SRs,SR,KC]
 |.list k,x,cs,h=>by have hl:=KC.length h;obtain⟨v,rfl⟩:=List.length_eq_one_iff.1 (show cs.length=1 from hl);simp only[V_,SRs,SR,DR];exact⟨v,[],rfl,h,rfl⟩
 |.pair a b,x,cs,h=>by obtain⟨c1,c2,rfl,h1,h2⟩:=h;exact SRs.append (ZP h1) (ZP h2)
theorem L1 {o:Nat}{i:Int}:∀ {k:Kind}{x:k.T}{cs:List Value},KC (JC (pl o)) k x cs→Q0y k cs→(k.one=true→∀ v,cs=[v]→∃ b len cap c e t,phd (pl o)=.slice (some ⟨b,0,none⟩) len cap∧0≤i∧i<len∧(JC (pl o)).get b=some (.cells c e true t)∧c[i.toNat]?=some v)→SRs P B pl tb (Q28 o i k x) cs
 |.i ik,x,cs,h,_,_=>ZP (o:=o) h
 |.bo,x,cs,h,_,_=>ZP (o:=o) h
 |.st,x,cs,h,_,_=>ZP (o:=o) h
 |.list k,x,cs,h,ho,hr=>by have hl:=KC.length h;obtain⟨v,rfl⟩:=List.length_eq_one_iff.1 (show cs.length=1 from hl);simp only[Q28,SRs,SR,DR];exact⟨v,[],rfl,⟨h,ho v rfl,hr rfl v rfl⟩,rfl⟩
 |.pair a b,x,cs,h,_,_=>ZP (o:=o) h
theorem DP.elem {σ:Heap}{p:Value}{ty:Nat}{q:Option Nat}{k:Kind}{xs:List k.T}{nl:Bool}(hd:DP σ p ty q k xs nl none) {b len cap:Nat}(hp:phd p=.slice (some ⟨b,0,none⟩) len cap) :
  ∃ c t,(JC p).get b=some (.cells c ⟨k.size,ty⟩ true t)∧len=xs.length∧xs.length≤cap∧cap*k.size≤c.length∧Rows (fun x c=>KC (JC p) k x c∧Q0y k c) xs (c.take (xs.length*k.size)):=by
 obtain⟨is,_,_,h2,_,_,_⟩:=hd;rcases h2 with⟨rfl,h,_⟩|⟨i,aq,c,t,js,h,_,h1,h3,h4,h5⟩
 ·rw[hp] at h;cases h
 ·rw[hp] at h;obtain⟨rfl,rfl,rfl⟩:=(by simpa using h:b=i∧len=xs.length∧cap=aq);exact⟨c,t,h3,rfl,h1,h4,h5.rows fun _ _ _ h=>⟨h.kc,h.koff⟩⟩
theorem Da (hle:B.Le σ) (ax:∀ d,OR P B pl tb σ (pl d) (Qg own d)) {agg:Bool}{size:Nat}(aB:0<size) {s v:SV}{p:Value}(h:Au own agg size s=some v) (hs:SR P B pl tb s p) :
  ∃ i o c e wr t u,p=.pointer (some ⟨i,o,none⟩)∧σ.get i=some (.cells c e wr t)∧Ju agg size c o=some u∧SR P B pl tb v u:=by
 unfold Au at h;split at h
 ·rename_i o off;have ho:=ax o;simp only[SR] at hs;obtain⟨b,h1,rfl⟩:=hs;split at h
  ·rename_i l _ heq;rw[heq] at ho;obtain⟨i,c,e,t,h2,h3,h4,_⟩:=ho;rw[h1] at h2;obtain rfl:=(by simpa using h2:b=i);obtain⟨u,h5,h6⟩:=ZU h4 h;exact⟨b,off,c,e,true,t,u,rfl,h3,h5,h6⟩
  ·cases h
 ·rename_i l off;simp only[SR] at hs;obtain⟨b,c,e,wr,t,h1,rfl,h3⟩:=hs;obtain⟨u,h5,h6⟩:=ZU h3 h;exact⟨b,off,c,e,wr,t,u,rfl,hle.2 _ _ h1,h5,h6⟩
 ·rename_i o i off sz;have ho:=ax o;simp only[SR] at hs;obtain⟨b,len,cap,h1,h2,h3,rfl⟩:=hs;split at h
  ·rename_i ty k xs nl heq;rw[heq] at ho;split at h
   ·rename_i ak;obtain⟨rfl,bP⟩:=ak;rcases ho with⟨_,_,h4⟩|⟨_,i',eu,c,t,h4,h5,h6,h7,h8⟩
    ·rw[h1] at h4;cases h4
    ·rw[h1] at h4;obtain⟨rfl,rfl,rfl⟩:=(by simpa using h4:b=i'∧len=xs.length∧cap=eu);have hi:i.toNat<xs.length:=by omega
     have hr:=h8.at KC.rows_len hi;have hx:xs.getD i.toNat k.dflt=xs[i.toNat]:=by simp[List.getD_eq_getElem?_getD,List.getElem?_eq_getElem hi]
     rw[hx] at h;obtain⟨u,h9,bM⟩:=ZU (XE (P:=P) (pl:=pl) (tb:=tb) hr) h;refine⟨b,_,c,_,true,t,u,rfl,h6,KP bP aB h9 ?_,bM⟩;have:(i.toNat+1)*k.size≤xs.length*k.size:=Nat.mul_le_mul_right _ hi
     rwa [Nat.add_mul,Nat.one_mul] at this
   ·cases h
  ·cases h
 ·rename_i k l i off;simp only[SR] at hs;obtain⟨b,o,c,e,wr,t,h1,h2,h3,rfl,h5,h6⟩:=hs;split at h
  ·rename_i bP;have hi:i.toNat<l.length:=by omega
   have hr:=h6.at KC.rows_len hi;have hx:l.getD i.toNat k.dflt=l[i.toNat]:=by simp[List.getD_eq_getElem?_getD,List.getElem?_eq_getElem hi]
   rw[hx] at h;obtain⟨u,h9,bM⟩:=ZU (XE (P:=P) (pl:=pl) (tb:=tb) hr) h;have dZ:(i.toNat+1)*k.size≤l.length*k.size:=Nat.mul_le_mul_right _ hi;rw[Nat.add_mul,Nat.one_mul] at dZ;refine⟨b,_,c,e,wr,t,u,rfl,hle.2 _ _ h3,?_,bM⟩;have:=KP bP aB h9 dZ;clear h9;cases agg with
   |true =>
    simp only[Ju,if_true,List.length_drop] at this ⊢;split at this
    ·rename_i cR;rw[if_pos (by omega)];rw[←this,List.drop_drop,Nat.add_assoc]
    ·cases this
   |false =>simp only[Ju,Bool.false_eq_true,if_false,List.getElem?_drop] at this ⊢;rw[←this,Nat.add_assoc]
  ·cases h
 ·rename_i o w;have ho:=ax o;simp only[SR] at hs;split at h
  ·rename_i ty q k xs nl hole heq;rw[heq] at ho;split at h
   ·have cR:=DP.le ho;split at h
    ·rename_i i off sz;obtain⟨b,len,cap,h1,h2,h3,rfl⟩:=hs;split at h
     ·rename_i ak;obtain⟨rfl,bP⟩:=ak;obtain⟨c,t,h4,rfl,h5,h6,h7⟩:=DP.elem ho h1;have hi:i.toNat<xs.length:=by omega
      have hr:=h7.at (fun x c h=>KC.rows_len x c h.1) hi;have hx:xs.getD i.toNat k.dflt=xs[i.toNat]:=by simp[List.getD_eq_getElem?_getD,List.getElem?_eq_getElem hi]
      rw[hx] at h;have gS:(i.toNat+1)*k.size≤xs.length*k.size:=Nat.mul_le_mul_right _ hi;rw[Nat.add_mul,Nat.one_mul] at gS;obtain⟨u,h9,bM⟩:=ZU (L1 (P:=P) (B:=B) (tb:=tb) hr.1 hr.2 fun bp v hv=>by
       refine⟨b,_,cap,c,_,t,h1,h2,h3,h4,?_⟩;have tu:=Kind.one_size bp;have:(((c.take (xs.length*k.size)).drop (i.toNat*k.size)).take k.size)[0]?=some v:=by rw[hv];rfl
       rw[tu] at this;simp only[Nat.mul_one,List.getElem?_take,List.getElem?_drop,Nat.add_zero] at this;rw[if_pos (by omega),if_pos (by omega)] at this;exact this) h
      exact⟨b,_,c,_,true,t,u,rfl,cR.2 _ _ h4,KP bP aB h9 gS,bM⟩
     ·cases h
    ·rename_i k' x i j off;obtain⟨b,len,cap,c,e,t,r,rl,rc,bB,re,rt,h1,h2,h3,h4,h5,h6,h7,h8,h9,bM,fg,rfl⟩:=hs;split at h
     ·rename_i bP;subst h8;have hj:j.toNat<x.length:=by omega
      have hr:=fg.at KC.rows_len hj;have hx:x.getD j.toNat k'.dflt=x[j.toNat]:=by simp[List.getD_eq_getElem?_getD,List.getElem?_eq_getElem hj]
      rw[hx] at h;have gS:(j.toNat+1)*k'.size≤x.length*k'.size:=Nat.mul_le_mul_right _ hj;rw[Nat.add_mul,Nat.one_mul] at gS;obtain⟨u,k9,pD⟩:=ZU (ZP (P:=P) (B:=B) (tb:=tb) hr) h;exact⟨r,_,bB,_,true,rt,u,rfl,cR.2 _ _ h9,KP bP aB k9 gS,pD⟩
     ·cases h
    ·rename_i k' l j off;obtain⟨b,o',c,e,wr,t,h1,h2,h3,rfl,h5,h6⟩:=hs;split at h
     ·rename_i bP;have hj:j.toNat<l.length:=by omega
      have hr:=h6.at KC.rows_len hj;have hx:l.getD j.toNat k'.dflt=l[j.toNat]:=by simp[List.getD_eq_getElem?_getD,List.getElem?_eq_getElem hj]
      rw[hx] at h;obtain⟨u,k9,pD⟩:=ZU (ZP (P:=P) (B:=B) (tb:=tb) hr) h;have dZ:(j.toNat+1)*k'.size≤l.length*k'.size:=Nat.mul_le_mul_right _ hj;rw[Nat.add_mul,Nat.one_mul] at dZ;refine⟨b,_,c,e,wr,t,u,rfl,cR.2 _ _ h3,?_,pD⟩;have:=KP bP aB k9 dZ;clear k9;cases agg with
      |true =>
       simp only[Ju,if_true,List.length_drop] at this ⊢;split at this
       ·rename_i tv;rw[if_pos (by omega)];rw[←this,List.drop_drop,Nat.add_assoc]
       ·cases this
      |false =>simp only[Ju,Bool.false_eq_true,if_false,List.getElem?_drop] at this ⊢;rw[←this,Nat.add_assoc]
     ·cases h
    ·cases h
   ·cases h
  ·cases h
 ·cases h
end
end Go.V
namespace Go.V
open Go
section
variable {P:Program}{B:Heap}{pl:Nat→Value}{tb:Nat→Option Bool}{own:Own}{σ:Heap}
theorem Bu {s:SV}{v:Value}(h:s.solid=true) (hs:SR P B pl tb s v):Wt v=some [v]∧cellOk v=true:=by
 cases s with
 |any=>cases h
 |grd gs s=>cases h
 |agg l=>cases h
 |tup l=>cases h
 |val k x =>
  simp only[SR] at hs;cases k with
  |i ik=>simp only[KC] at hs;obtain rfl:=(List.cons.inj hs).1;exact⟨rfl,rfl⟩
  |bo=>simp only[KC] at hs;obtain rfl:=(List.cons.inj hs).1;exact⟨rfl,rfl⟩
  |st=>simp only[KC] at hs;obtain rfl:=(List.cons.inj hs).1;exact⟨rfl,rfl⟩
  |list k =>obtain⟨v',e,hs⟩:=hs;obtain rfl:=(List.cons.inj e).1;obtain⟨a,c,rfl⟩:=hs.len;exact⟨rfl,rfl⟩
  |pair a b =>have h1:=KC.length hs;have h2:=a.size_pos;have h3:=b.size_pos;simp only[Kind.size,List.length_singleton] at h1;omega
 |bid n c=>simp only[SR] at hs;obtain⟨rfl,_⟩:=hs;exact⟨rfl,rfl⟩
 |nilS=>simp only[SR] at hs;subst hs;exact⟨rfl,rfl⟩
 |nilP=>simp only[SR] at hs;subst hs;exact⟨rfl,rfl⟩
 |nilM=>simp only[SR] at hs;subst hs;exact⟨rfl,rfl⟩
 |nilF=>simp only[SR] at hs;subst hs;exact⟨rfl,rfl⟩
 |lst o=>simp only[SR] at hs;obtain⟨_,a,n,c,rfl⟩:=hs;exact⟨rfl,rfl⟩
 |dd o w =>
  simp only[SR] at hs;cases w with
  |out=>obtain⟨_,a,n,c,rfl⟩:=hs;exact⟨rfl,rfl⟩
  |el i off sz=>obtain⟨_,_,_,_,_,_,rfl⟩:=hs;exact⟨rfl,rfl⟩
  |row k x i=>obtain⟨a,c,rfl⟩:=(Ge hs.1).len;exact⟨rfl,rfl⟩
  |rowp k x i j off=>obtain⟨_,_,_,_,_,_,_,_,_,_,_,_,_,_,_,_,_,_,_,_,_,_,_,rfl⟩:=hs;exact⟨rfl,rfl⟩
  |inn k x=>obtain⟨a,c,rfl⟩:=(Ge hs).len;exact⟨rfl,rfl⟩
  |inp k l j off=>obtain⟨_,_,_,_,_,_,_,_,_,rfl,_⟩:=hs;exact⟨rfl,rfl⟩
  |dat=>rcases hs with⟨_,rfl⟩|⟨_,_,_,_,_,rfl⟩<;>exact⟨rfl,rfl⟩
  |obx c=>rcases hs with⟨_,rfl⟩|⟨_,_,_,rfl⟩<;>exact⟨rfl,rfl⟩
  |yv=>obtain⟨_,_,rfl⟩:=hs;exact⟨rfl,rfl⟩
 |sub o lo n sz=>simp only[SR] at hs;rcases hs with⟨_,_,rfl,_⟩|⟨_,_,_,_,_,_,_,rfl⟩<;>exact⟨rfl,rfl⟩
 |elp o i off sz=>simp only[SR] at hs;obtain⟨_,_,_,_,_,_,rfl⟩:=hs;exact⟨rfl,rfl⟩
 |rop k l i off=>simp only[SR] at hs;obtain⟨_,_,_,_,_,_,_,_,_,rfl,_⟩:=hs;exact⟨rfl,rfl⟩
 |box o off=>simp only[SR] at hs;obtain⟨_,_,rfl⟩:=hs;exact⟨rfl,rfl⟩
 |cp l off=>simp only[SR] at hs;obtain⟨_,_,_,_,_,_,rfl,_⟩:=hs;exact⟨rfl,rfl⟩
 |map o=>simp only[SR] at hs;obtain⟨_,m,rfl⟩:=hs;exact⟨rfl,rfl⟩
 |fn f a b=>simp only[SR] at hs;obtain⟨_,_,rfl,_⟩:=hs;exact⟨rfl,rfl⟩
 |pf ks r cF p=>simp only[SR] at hs;obtain⟨_,_,_,rfl,_⟩:=hs;exact⟨rfl,rfl⟩
theorem Mg:∀ {l:List SV}{c:List Value},l.all SV.solid=true→SRs P B pl tb l c→c.all cellOk=true
 |[],c,_,h=>by simp only[SRs] at h;subst h;rfl
 |s::ss,c,hl,h=>by simp only[SRs] at h;obtain⟨x,y,rfl,h1,h2⟩:=h;simp only[List.all_cons,Bool.and_eq_true] at hl ⊢;exact⟨(Bu hl.1 h1).2,Mg hl.2 h2⟩
theorem XI {s:SV}{v:Value}{l:List SV}(h:VL s=some l) (hs:SR P B pl tb s v):∃ c,Wt v=some c∧SRs P B pl tb l c∧c.all cellOk=true:=by
 have key:s.solid=true→some [s]=some l→∃ c,Wt v=some c∧SRs P B pl tb l c∧c.all cellOk=true:=fun pE e=>by obtain rfl:=osj e;obtain⟨h1,h2⟩:=Bu pE hs;exact⟨[v],h1,by simp only[SRs];exact⟨v,[],rfl,hs,rfl⟩,by simp[h2]⟩
 cases s with
 |any=>cases h
 |grd gs s=>cases h
 |tup l=>cases h
 |agg l' =>
  simp only[VL] at h;cases hl:l'.all SV.solid with
  |false=>rw[hl] at h;cases h
  |true =>rw[hl] at h;obtain rfl:=osj h;simp only[SR] at hs;obtain⟨cs,rfl,hs⟩:=hs;exact⟨cs,rfl,hs,Mg hl hs⟩
 |_=>exact key rfl h
theorem NQ:∀ {vs:List SV}{us:List Value}{c:List SV}{cV:List Value}{o:Nat},SRs P B pl tb c cV→SRs P B pl tb vs us→SRs P B pl tb (gfill.setS c o vs) (W7 cV o us)
 |[],us,c,cV,o,h,h'=>by simp only[SRs] at h';subst h';exact h
 |v::vs,us,c,cV,o,h,h'=>by simp only[SRs] at h';obtain⟨x,y,rfl,h1,h2⟩:=h';simp only[gfill.setS,W7];exact NQ (h.set o h1) h2
theorem Gz:∀ {ps:List (Nat×Nat×Operand)}{c l:List SV}{cV:List Value}{ev:Operand→SV}{evV:Operand→Value},(∀ x,SR P B pl tb (ev x) (evV x))→SRs P B pl tb c cV→gfill c (ps.map fun p=>(p.1,p.2.1,ev p.2.2))=some l →
  ∃ lV,KZ cV (ps.map fun p=>(p.1,p.2.1,evV p.2.2))=some lV∧SRs P B pl tb l lV
 |[],c,l,cV,ev,evV,ai,h,hg=>by obtain rfl:=osj hg;exact⟨cV,rfl,h⟩
 |p::ps,c,l,cV,ev,evV,ai,h,hg=>by
  simp only[List.map_cons,gfill] at hg;split at hg
  ·rename_i vs hs;split at hg
   ·rename_i ak;obtain⟨us,h1,h2,_⟩:=XI hs (ai p.2.2);obtain⟨lV,h3,h4⟩:=Gz ai (NQ h h2) hg;refine⟨lV,?_,h4⟩;simp only[List.map_cons,KZ,h1];rw[if_pos ⟨by rw[←h2.length];exact ak.1,by rw[←h.length];exact ak.2⟩];exact h3
   ·cases hg
  ·cases hg
theorem XB {h:Heap}:∀ {k:Kind}{z:List Value},Y6 k z=true→KC h k k.dflt z
 |.i ik,z,e=>by unfold Y6 at e;split at e<;>simp_all [KC,Kind.dflt]
 |.bo,z,e=>by unfold Y6 at e;split at e<;>simp_all [KC,Kind.dflt]
 |.st,z,e=>by unfold Y6 at e;split at e<;>simp_all [KC,Kind.dflt];rename_i s;cases s;simp_all
 |.list k,z,e=>by unfold Y6 at e;split at e<;>simp_all [KC,Kind.dflt];exact .inl ⟨rfl,rfl⟩
 |.pair a b,z,e=>by simp only[Y6,Bool.and_eq_true] at e;exact⟨_,_,(List.take_append_drop a.size z).symm,XB e.1,XB e.2⟩
theorem HX {h:Heap}{mk:MK}{kk:Kind}(hk:gq.mkP mk kk=true) {x:kk.T}{cs:List Value}(e:KC h kk x cs):∃ v,cs=[v]∧Za mk v=true∧L5 mk v=true:=by
 unfold gq.mkP at hk;split at hk
 ·simp only[KC] at e;subst e;obtain rfl:=of_decide_eq_true hk;exact⟨_,rfl,by simp[Za],by simp[L5]⟩
 ·simp only[KC] at e;subst e;exact⟨_,rfl,rfl,rfl⟩
 ·simp only[KC] at e;subst e;exact⟨_,rfl,rfl,rfl⟩
 ·cases hk
theorem ED {h:Heap}{mk:MK}{kk:Kind}(hk:gq.mkP mk kk=true) {x y:kk.T}{u v:Value}(e:KC h kk x [u]) (e':KC h kk y [v]):JI u v=gq.keq kk x y∧WR u v=gq.keq kk x y:=by
 unfold gq.mkP at hk;split at hk
 ·simp only[KC] at e e';obtain rfl:=(List.cons.inj e).1;obtain rfl:=(List.cons.inj e').1;exact⟨rfl,rfl⟩
 ·simp only[KC] at e e';obtain rfl:=(List.cons.inj e).1;obtain rfl:=(List.cons.inj e').1;simp[JI,WR,gq.keq]
 ·simp only[KC] at e e';obtain rfl:=(List.cons.inj e).1;obtain rfl:=(List.cons.inj e').1;exact⟨rfl,rfl⟩
 ·cases hk
theorem G4 {h:Heap}:∀ {k:Kind}{l r:List MK}{x:k.T}{cs ds:List Value},gq.mkAt k l=some r→KC h k x cs→fits l (cs++ds)=fits r ds
 |.pair a b,l,r,x,cs,ds,hk,e=>by
  simp only[gq.mkAt] at hk;split at hk
  ·rename_i q hq;obtain⟨c1,c2,rfl,h1,h2⟩:=e;rw[List.append_assoc,G4 hq h1,G4 hk h2]
  ·cases hk
 |.i _,m::l,r,x,cs,ds,hk,e|.bo,m::l,r,x,cs,ds,hk,e|.st,m::l,r,x,cs,ds,hk,e|.list _,m::l,r,x,cs,ds,hk,e=>by
  simp only[gq.mkAt] at hk;cases hp:gq.mkP m _ with
  |false=>rw[hp] at hk;cases hk
  |true =>rw[hp] at hk;obtain rfl:=osj hk;obtain⟨v,rfl,_,h2⟩:=HX hp e;simp[fits,h2]
 |.i _,[],r,x,cs,ds,hk,e|.bo,[],r,x,cs,ds,hk,e|.st,[],r,x,cs,ds,hk,e|.list _,[],r,x,cs,ds,hk,e=>by cases hk
theorem T_ {h:Heap}:∀ {k:Kind}{l r:List MK}{x y:k.T}{cs ds cs' ds':List Value},gq.mkAt k l=some r→KC h k x cs→KC h k y ds→Qo (cs++cs') (ds++ds')=(gq.keq k x y&&Qo cs' ds')
 |.pair a b,l,r,x,y,cs,ds,cs',ds',hk,e,e'=>by
  simp only[gq.mkAt] at hk;split at hk
  ·rename_i q hq;obtain⟨c1,c2,rfl,h1,h2⟩:=e;obtain⟨d1,d2,rfl,g1,g2⟩:=e';rw[List.append_assoc,List.append_assoc,T_ hq h1 g1,T_ hk h2 g2];simp only[gq.keq,Bool.and_assoc]
  ·cases hk
 |.i _,m::l,r,x,y,cs,ds,cs',ds',hk,e,e'|.bo,m::l,r,x,y,cs,ds,cs',ds',hk,e,e'|.st,m::l,r,x,y,cs,ds,cs',ds',hk,e,e'|.list _,m::l,r,x,y,cs,ds,cs',ds',hk,e,e'=>by
  simp only[gq.mkAt] at hk;cases hp:gq.mkP m _ with
  |false=>rw[hp] at hk;cases hk
  |true =>obtain⟨v,rfl,_,_⟩:=HX hp e;obtain⟨w,rfl,_,_⟩:=HX hp e';simp only[List.cons_append,List.nil_append,Qo,(ED hp e e').2]
 |.i _,[],r,x,y,cs,ds,cs',ds',hk,e,e'|.bo,[],r,x,y,cs,ds,cs',ds',hk,e,e'|.st,[],r,x,y,cs,ds,cs',ds',hk,e,e'|.list _,[],r,x,y,cs,ds,cs',ds',hk,e,e'=>by cases hk
theorem Vr {h:Heap}{mk:MK}{kk:Kind}(hk:gq.mkOk mk kk=true) {x:kk.T}{v:Value}(e:KV h kk x v):Za mk v=true:=by
 unfold gq.mkOk at hk;rcases e with⟨ho,e⟩|⟨ho,cs,rfl,e⟩
 ·rw[ho] at hk;obtain⟨w,h1,h2,_⟩:=HX hk e;obtain rfl:=(List.cons.inj h1).1;exact h2
 ·rw[ho] at hk;simp only[_root_.cond_false] at hk;split at hk
  ·rename_i l;split at hk
   ·rename_i hr;have:=G4 (ds:=[]) hr e;rw[List.append_nil] at this;simp only[Za];rw[this];rfl
   ·cases hk
  ·cases hk
theorem Gi {h:Heap}{mk:MK}{kk:Kind}(hk:gq.mkOk mk kk=true) {x y:kk.T}{u v:Value}(e:KV h kk x u) (e':KV h kk y v):JI u v=gq.keq kk x y:=by
 unfold gq.mkOk at hk;rcases e with⟨ho,e⟩|⟨ho,cs,rfl,e⟩
 ·rcases e' with⟨_,e'⟩|⟨eD,_⟩
  ·rw[ho] at hk;exact(ED hk e e').1
  ·rw[ho] at eD;cases eD
 ·rcases e' with⟨eD,_⟩|⟨_,ds,rfl,e'⟩
  ·rw[ho] at eD;cases eD
  ·rw[ho] at hk;simp only[_root_.cond_false] at hk;split at hk
   ·split at hk
    ·rename_i hr;have:=T_ (cs':=[]) (ds':=[]) hr e e';rw[List.append_nil,List.append_nil] at this;simp only[JI];rw[this];simp[Qo]
    ·cases hk
   ·cases hk
theorem V4 {B:Heap}{k:Kind}{v:SV}{u:Value}{x:k.T}(h:dkV k v=some x) (hs:SR P B pl tb v u) (hd:∀ {k:Kind}{l:List SV}{x:k.T}{c:List Value},BA k l=some x→SRs P B pl tb l c→KC B k x c):KV B k x u:=by
 unfold dkV at h;cases bp:k.one with
 |true =>rw[bp] at h;exact .inl ⟨bp,hd h (by simp only[SRs];exact⟨u,[],rfl,hs,rfl⟩)⟩
 |false =>
  rw[bp] at h;simp only[_root_.cond_false] at h;split at h
  ·simp only[SR] at hs;obtain⟨cs,rfl,hs⟩:=hs;exact .inr ⟨bp,cs,rfl,hd h hs⟩
  ·cases h
theorem Mu {B:Heap}{k:Kind}{z:Value}(h:Y6 k (Rq k z)=true):KV B k k.dflt z:=by
 have e:=XB (h:=B) h;unfold Rq at e;cases bp:k.one with
 |true=>rw[bp] at e;exact .inl ⟨bp,e⟩
 |false =>
  rw[bp] at e;simp only[_root_.cond_false] at e;split at e
  ·exact .inr ⟨bp,_,by simp,e⟩
  ·have:=KC.length e;have:=k.size_pos;simp at *
   omega
theorem KV.kc {B:Heap}{k:Kind}{x:k.T}{v:Value}(h:KV B k x v) (ho:k.one=true):KC B k x [v]:=by
 rcases h with⟨_,h⟩|⟨h1,_⟩
 ·exact h
 ·rw[ho] at h1;cases h1
theorem MR.keys {mk:MK}{kk vk:Kind}(hk:gq.mkOk mk kk=true):∀ {m:List (kk.T×vk.T)}{es:List J1},MR B kk vk m es→es.all (fun e=>Za mk e.1)=true
 |[],es,h=>by simp only[MR] at h;subst h;rfl
 |m::ms,es,h=>by obtain⟨e,bK,rfl,h2,h3,h4⟩:=h;simp only[List.all_cons,Bool.and_eq_true];exact⟨Vr hk h2,MR.keys hk h4⟩
theorem MR.length {kk vk:Kind}:∀ {m:List (kk.T×vk.T)}{es:List J1},MR B kk vk m es→es.length=m.length
 |[],es,h=>by simp only[MR] at h;subst h;rfl
 |m::ms,es,h=>by obtain⟨e,bK,rfl,h2,h3,h4⟩:=h;simp[MR.length h4]
theorem MR.find {mk:MK}{kk vk:Kind}(hk:gq.mkOk mk kk=true) {key:kk.T}{kv:Value}(b9:KV B kk key kv) {d:vk.T}{z:Value}(hz:KV B vk d z):∀ {m:List (kk.T×vk.T)}{es:List J1},MR B kk vk m es →
  (∃ e,Qh kv es=some e∧gq.ahas kk m key=true∧KV B vk (gq.aget kk m key d) e.2.1)∨(Qh kv es=none∧gq.ahas kk m key=false∧gq.aget kk m key d=d)
 |[],es,h=>by simp only[MR] at h;subst h;exact .inr ⟨rfl,rfl,rfl⟩
 |m::ms,es,h=>by
  obtain⟨e,bK,rfl,h2,h3,h4⟩:=h;have hq:=Gi hk b9 h2;cases hc:gq.keq kk key m.1 with
  |true =>refine .inl ⟨e,by simp[Qh,hq,hc],by simp[gq.ahas,hc],by simpa [gq.aget,hc] using h3⟩
  |false =>
   rcases MR.find hk b9 hz h4 with⟨e',k1,k2,k3⟩|⟨k1,k2,k3⟩
   ·exact .inl ⟨e',by simp[Qh,hq,hc,k1],by simp[gq.ahas,hc,k2],by simpa [gq.aget,hc] using k3⟩
   ·exact .inr ⟨by simp[Qh,hq,hc,k1],by simp[gq.ahas,hc,k2],by simpa [gq.aget,hc] using k3⟩
theorem SRs.one {v:SV}{c:List Value}(h:SRs P B pl tb [v] c):∃ u,c=[u]∧SR P B pl tb v u:=by simp only[SRs] at h;obtain⟨u,us,rfl,h1,rfl⟩:=h;exact⟨u,rfl,h1⟩
theorem QJ:∀ {k:Kind}{l:List SV}{x:k.T}{c:List Value},BA k l=some x→SRs P B pl tb l c→KC B k x c
 |.i ik,[],x,c,h,hs|.bo,[],x,c,h,hs|.st,[],x,c,h,hs|.list _,[],x,c,h,hs=>by cases h
 |.i ik,_::_::_,x,c,h,hs|.bo,_::_::_,x,c,h,hs|.st,_::_::_,x,c,h,hs|.list _,_::_::_,x,c,h,hs=>by cases h
 |.i ik,[v],x,c,h,hs=>by
  obtain⟨u,rfl,h1⟩:=hs.one;simp only[BA] at h;split at h
  ·rename_i qY y;split at h
   ·rename_i e;obtain rfl:=osj h;subst e;simp only[SR] at h1;exact h1
   ·cases h
  ·cases h
 |.bo,[v],x,c,h,hs=>by obtain⟨u,rfl,h1⟩:=hs.one;rw[JH h h1];rfl
 |.st,[v],x,c,h,hs=>by obtain⟨u,rfl,h1⟩:=hs.one;rw[Ye h h1];rfl
 |.list k,[v],x,c,h,hs=>by
  obtain⟨u,rfl,h1⟩:=hs.one;simp only[BA] at h;split at h
  ·obtain rfl:=osj h;simp only[SR] at h1;subst h1;exact⟨_,rfl,.inl ⟨rfl,rfl⟩⟩
  ·rename_i k' l';obtain rfl:=JQ h;obtain rfl:=JP h;simp only[SR] at h1;exact h1
  ·cases h
 |.pair a b,l,x,c,h,hs=>by
  simp only[BA] at h;split at h
  ·rename_i y z h1 h2;obtain rfl:=osj h;exact⟨c.take a.size,c.drop a.size,(List.take_append_drop _ _).symm,QJ h1 (hs.take _),QJ h2 (hs.drop _)⟩
  ·cases h
end
end Go.V
namespace Go.V
open Go
theorem InK.wrap {k:IntKind}{x:Int}(h:InK k x):k.wrap x=x:=by obtain⟨h1,h2⟩:=h;cases k<;>simp[IntKind.wrap,IntKind.bits,IntKind.signed,IntKind.min,IntKind.max] at h1 h2 ⊢<;>(try split)<;>omega
section
variable {P:Program}{B:Heap}{pl:Nat→Value}{tb:Nat→Option Bool}{own:Own}{σ:Heap}
def QOk (P:Program) (B:Heap) (pl:Nat→Value) (tb:Nat→Option Bool) (σ:Heap) (o:VOp) (evV:Operand→Value) (v:SV):Prop:=∃ u,Q9 o evV σ=some (u,σ)∧SR P B pl tb v u
theorem Jo (k:IntKind) (x:Int):SR P B pl tb (.val (.i k) x) (.int k x):=by simp[SR,KC]
theorem ZA (x:Bool):SR P B pl tb (.val .bo x) (.bool x):=by simp[SR,KC]
theorem Gb (x:List UInt8):SR P B pl tb (.val .st x) (.string ⟨x.toArray⟩):=by simp[SR,KC]
theorem QP {α β:Type _}{a c:α}{b d:β}(h:some (a,b)=some (c,d)):a=c∧b=d:=by cases h;exact⟨rfl,rfl⟩
section
variable {kt:List (Nat×Kind)}{raw:Bool}{ev:Operand→SV}{evV:Operand→Value}{cs:List Prop}{v:SV}
theorem Ni (ai:∀ x,SR P B pl tb (ev x) (evV x)) {x y:Operand}{k k':IntKind}{a b:Int}(h1:asI (ev x)=some (k,a)) (h2:asI (ev y)=some (k',b)):evV x=.int k a∧evV y=.int k' b:=⟨Zn h1 (ai x),Zn h2 (ai y)⟩
theorem Fo (ai:∀ x,SR P B pl tb (ev x) (evV x)) {op:BinOp}{x y:Operand}(h:gq kt raw (.arith op x y) ev own=some (cs,v)) (hc:∀ c∈cs,c):QOk P B pl tb σ (.arith op x y) evV v:=by
 simp only[gq] at h;split at h
 ·rename_i k a k' b h1 h2;obtain⟨e1,e2⟩:=Ni ai h1 h2;split at h
  ·rename_i hk;subst hk;cases raw with
   |true =>
    obtain⟨rfl,rfl⟩:=QP h;refine⟨_,by simp only[Q9,e1,e2,if_true]<;>rfl,?_⟩;have:Bb op k a b=k.wrap (Gj op a b):=by cases op<;>rfl
    rw[this];exact Jo _ _
   |false =>
    obtain⟨rfl,rfl⟩:=QP h;refine⟨_,by simp only[Q9,e1,e2,if_true]<;>rfl,?_⟩;have:Bb op k a b=Gj op a b:=by
     have hw:InK k (Gj op a b):=hc _ (by simp);have e:Bb op k a b=k.wrap (Gj op a b):=by cases op<;>rfl
     rw[e,hw.wrap]
    rw[this];exact Jo _ _
  ·cases h
 ·cases h
theorem Q1a (ai:∀ x,SR P B pl tb (ev x) (evV x)) {op:BinOp}{x y:Operand}(h:gq kt raw (.div op x y) ev own=some (cs,v)) (hc:∀ c∈cs,c):QOk P B pl tb σ (.div op x y) evV v:=by
 simp only[gq] at h;split at h
 ·rename_i k a k' b h1 h2;obtain⟨e1,e2⟩:=Ni ai h1 h2;split at h
  ·rename_i hk;subst hk;split at h
   ·obtain⟨rfl,rfl⟩:=QP h;have hb:b≠0:=hc _ (by simp);have hw:InK k (a.tdiv b):=hc _ (by simp);refine⟨_,by simp only[Q9,e1,e2,hb,ne_eq,not_false_iff,and_self,if_true]<;>rfl,?_⟩;simp only[FN,hw.wrap];exact Jo _ _
   ·obtain⟨rfl,rfl⟩:=QP h;have hb:b≠0:=hc _ (by simp);refine⟨_,by simp only[Q9,e1,e2,hb,ne_eq,not_false_iff,and_self,if_true]<;>rfl,?_⟩;rename_i bz;have:FN op k a b=a.tmod b:=by unfold FN;split<;>simp_all
    rw[this];exact Jo _ _
  ·cases h
 ·cases h
theorem IH (ai:∀ x,SR P B pl tb (ev x) (evV x)) {op:BinOp}{x y:Operand}(h:gq kt raw (.bits op x y) ev own=some (cs,v)):QOk P B pl tb σ (.bits op x y) evV v:=by
 simp only[gq] at h;split at h
 ·rename_i k a k' b h1 h2;obtain⟨e1,e2⟩:=Ni ai h1 h2;split at h
  ·rename_i hk;subst hk;obtain⟨rfl,rfl⟩:=QP h;exact⟨_,by simp only[Q9,e1,e2,if_true]<;>rfl,Jo _ _⟩
  ·cases h
 ·cases h
theorem FJ (ai:∀ x,SR P B pl tb (ev x) (evV x)) {op:BinOp}{x y:Operand}(h:gq kt raw (.shift op x y) ev own=some (cs,v)) (hc:∀ c∈cs,c):QOk P B pl tb σ (.shift op x y) evV v:=by
 simp only[gq] at h;split at h
 ·rename_i k a k' b h1 h2;obtain⟨e1,e2⟩:=Ni ai h1 h2;split at h
  ·cases raw with
   |true =>obtain⟨rfl,rfl⟩:=QP h;have hb:0≤b:=hc _ (by simp);exact⟨_,by simp only[Q9,e1,e2,hb,if_true]<;>rfl,Jo _ _⟩
   |false =>obtain⟨rfl,rfl⟩:=QP h;have hb:0≤b:=hc _ (by simp);have hw:InK k (Bm k a b):=hc _ (by simp);refine⟨_,by simp only[Q9,e1,e2,hb,if_true]<;>rfl,?_⟩;have:Bg .shl k a b=k.wrap (Bm k a b):=rfl;rw[this,hw.wrap];exact Jo _ _
  ·obtain⟨rfl,rfl⟩:=QP h;have hb:0≤b:=hc _ (by simp);refine⟨_,by simp only[Q9,e1,e2,hb,if_true]<;>rfl,?_⟩;have:Bg op k a b=At k a b:=by unfold Bg;split<;>simp_all [At]
   rw[this];exact Jo _ _
 ·cases h
theorem Q0v (ai:∀ x,SR P B pl tb (ev x) (evV x)) {op:BinOp}{x y:Operand}(h:gq kt raw (.cmp op x y) ev own=some (cs,v)):QOk P B pl tb σ (.cmp op x y) evV v:=by
 simp only[gq] at h;split at h
 ·rename_i k a k' b h1 h2;obtain⟨e1,e2⟩:=Ni ai h1 h2;split at h
  ·rename_i hk;subst hk;obtain⟨rfl,rfl⟩:=QP h;exact⟨_,by simp only[Q9,e1,e2,if_true]<;>rfl,ZA _⟩
  ·cases h
 ·cases h
theorem Q31 (ai:∀ x,SR P B pl tb (ev x) (evV x)) {op:BinOp}{x y:Operand}(h:gq kt raw (.str op x y) ev own=some (cs,v)) (hc:∀ c∈cs,c):QOk P B pl tb σ (.str op x y) evV v:=by
 simp only[gq] at h;split at h
 ·rename_i a b h1 h2;have e1:=Ye h1 (ai x);have e2:=Ye h2 (ai y);split at h
  ·obtain⟨rfl,rfl⟩:=QP h;have hw:a.length+b.length≤4611686018427387904:=hc _ (by simp);refine⟨.string (⟨a.toArray⟩++⟨b.toArray⟩),by simp only[Q9,e1,e2];rw[if_pos (by simpa [ByteArray.size] using hw)],?_⟩;have:(⟨a.toArray⟩:ByteArray)++⟨b.toArray⟩=⟨(a++b).toArray⟩:=by
    apply ByteArray.ext;simp
   rw[this];exact Gb _
  ·obtain⟨rfl,rfl⟩:=QP h;exact⟨_,by simp only[Q9,e1,e2]<;>rfl,ZA _⟩
  ·obtain⟨rfl,rfl⟩:=QP h;exact⟨_,by simp only[Q9,e1,e2]<;>rfl,ZA _⟩
  ·obtain⟨rfl,rfl⟩:=QP h;exact⟨_,by simp only[Q9,e1,e2]<;>rfl,ZA _⟩
  ·cases h
 ·cases h
theorem Q14 (ai:∀ x,SR P B pl tb (ev x) (evV x)) {neg:Bool}{x y:Operand}(h:gq kt raw (.eqB neg x y) ev own=some (cs,v)):QOk P B pl tb σ (.eqB neg x y) evV v:=by
 simp only[gq] at h;split at h
 ·rename_i a b h1 h2;have e1:=JH h1 (ai x);have e2:=JH h2 (ai y);obtain⟨rfl,rfl⟩:=QP h;exact⟨_,by simp only[Q9,e1,e2]<;>rfl,ZA _⟩
 ·cases h
theorem Gr {k:MK}{a b:SV}{r:Bool}{u w:Value}(h:Ll k a b=some r) (ha:SR P B pl tb a u) (hb:SR P B pl tb b w):L5 k u=true∧L5 k w=true∧WR u w=r:=by
 cases k with
 |agg s=>cases h
 |int q =>
  simp only[Ll] at h;split at h
  ·rename_i q1 x q2 y h1 h2;split at h
   ·rename_i hq;obtain⟨rfl,rfl⟩:=hq;obtain rfl:=osj h;rw[Zn h1 ha,Zn h2 hb];exact⟨by simp[L5],by simp[L5],rfl⟩
   ·cases h
  ·cases h
 |bool =>
  simp only[Ll] at h;split at h
  ·rename_i x y h1 h2;obtain rfl:=osj h;rw[JH h1 ha,JH h2 hb];exact⟨rfl,rfl,rfl⟩
  ·cases h
 |string =>
  simp only[Ll] at h;split at h
  ·rename_i x y h1 h2;obtain rfl:=osj h;rw[Ye h1 ha,Ye h2 hb];exact⟨rfl,rfl,rfl⟩
  ·cases h
theorem Mv:∀ {s:List MK}{l m:List SV}{r:Bool}{us ws:List Value},Db s l m=some r→SRs P B pl tb l us→SRs P B pl tb m ws→fits s us=true∧fits s ws=true∧Qo us ws=r
 |[],_,_,_,_,_,h,_,_=>by cases h
 |k::ks,[],_,_,_,_,h,_,_=>by simp[Db] at h
 |k::ks,_::_,[],_,_,_,h,_,_=>by simp[Db] at h
 |[k],a::l,b::m,r,us,ws,h,ha,hb=>by
  simp only[Db] at h;split at h
  ·simp only[SRs] at ha hb;obtain⟨u,lB,rfl,h1,rfl⟩:=ha;obtain⟨w,tw,rfl,h2,rfl⟩:=hb;obtain⟨f1,f2,f3⟩:=Gr h h1 h2;simp[fits,Qo,f1,f2,f3]
  ·cases h
 |k::k'::ks,a::l,b::m,r,us,ws,h,ha,hb=>by
  simp only[Db] at h;split at h
  ·rename_i x y hx hy;obtain rfl:=osj h;simp only[SRs] at ha hb;obtain⟨u,lB,rfl,h1,gh⟩:=ha;obtain⟨w,tw,rfl,h2,gi⟩:=hb;obtain⟨f1,f2,f3⟩:=Gr hx h1 h2;obtain⟨g1,g2,g3⟩:=Mv (s:=k'::ks) hy gh gi;rw[fits,fits,f1,f2,g1,g2,Qo,f3,g3];exact⟨rfl,rfl,rfl⟩
  ·cases h
theorem Fg (ai:∀ x,SR P B pl tb (ev x) (evV x)) {neg:Bool}{s:List MK}{x y:Operand}(h:gq kt raw (.ext (.eqAgg neg s x y)) ev own=some (cs,v)):QOk P B pl tb σ (.ext (.eqAgg neg s x y)) evV v:=by
 simp only[gq] at h;split at h
 ·rename_i l m h1 h2;obtain⟨b,hb,he⟩:=Option.map_eq_some_iff.1 h;obtain⟨rfl,rfl⟩:=(by cases he;exact⟨rfl,rfl⟩:[]=cs∧SV.val .bo (bif neg then !b else b)=v);have e1:=ai x;have e2:=ai y;rw[h1] at e1;rw[h2] at e2;simp only[SR] at e1 e2;obtain⟨us,e1,k1⟩:=e1;obtain⟨ws,e2,k2⟩:=e2;obtain⟨f1,f2,f3⟩:=Mv hb k1 k2;refine⟨.bool (if neg then !b else b),?_,by cases neg<;>exact ZA _⟩;simp only[Q9,Z3,e1,e2];rw[if_pos ⟨by simpa using f1,by simpa using f2⟩];simp only[f3]
 ·cases h
theorem Q67 (ai:∀ x,SR P B pl tb (ev x) (evV x)) {op:UnOp}{x:Operand}(h:gq kt raw (.un op x) ev own=some (cs,v)) (hc:∀ c∈cs,c):QOk P B pl tb σ (.un op x) evV v:=by
 simp only[gq] at h;split at h
 ·split at h
  ·rename_i b h1;obtain⟨rfl,rfl⟩:=QP h;exact⟨_,by simp only[Q9,JH h1 (ai x)]<;>rfl,ZA _⟩
  ·cases h
 ·split at h
  ·rename_i k n h1;obtain⟨rfl,rfl⟩:=QP h;have hw:InK k (0-n):=hc _ (by simp);refine⟨_,by simp only[Q9,Zn h1 (ai x)]<;>rfl,?_⟩;rw[hw.wrap];exact Jo _ _
  ·cases h
 ·split at h
  ·rename_i k n h1;obtain⟨rfl,rfl⟩:=QP h;exact⟨_,by simp only[Q9,Zn h1 (ai x)]<;>rfl,Jo _ _⟩
  ·cases h
 ·cases h
theorem Ff (ai:∀ x,SR P B pl tb (ev x) (evV x)) {k:IntKind}{x:Operand}(h:gq kt raw (.convI k x) ev own=some (cs,v)) (hc:∀ c∈cs,c):QOk P B pl tb σ (.convI k x) evV v:=by
 simp only[gq] at h;split at h
 ·rename_i k' n h1;cases raw with
  |true =>obtain⟨rfl,rfl⟩:=QP h;exact⟨_,by simp only[Q9,Zn h1 (ai x)]<;>rfl,Jo _ _⟩
  |false =>obtain⟨rfl,rfl⟩:=QP h;have hw:InK k n:=hc _ (by simp);refine⟨_,by simp only[Q9,Zn h1 (ai x)]<;>rfl,?_⟩;rw[hw.wrap];exact Jo _ _
 ·cases h
theorem F2 (ai:∀ x,SR P B pl tb (ev x) (evV x)) {x:Operand}(h:gq kt raw (.convS x) ev own=some (cs,v)):QOk P B pl tb σ (.convS x) evV v:=by
 simp only[gq] at h;split at h
 ·rename_i s h1;obtain⟨rfl,rfl⟩:=QP h;exact⟨_,by simp only[Q9,Ye h1 (ai x)]<;>rfl,Gb _⟩
 ·cases h
theorem FB (ai:∀ x,SR P B pl tb (ev x) (evV x)) {z:List Value}{ps:List (Nat×Nat×Operand)}(h:gq kt raw (.build z ps) ev own=some (cs,v)):QOk P B pl tb σ (.build z ps) evV v:=by
 simp only[gq] at h;split at h
 ·rename_i l h1;obtain⟨rfl,rfl⟩:=QP h;have hz:SRs P B pl tb (z.map cvp) (z.map id):=SRs.map fun x _=>Ns x;rw[List.map_id] at hz;obtain⟨lV,h2,h3⟩:=Gz ai hz h1;refine⟨.agg lV.toArray,by simp only[Q9,h2],?_⟩;simp only[SR];exact⟨lV,rfl,h3⟩
 ·cases h
theorem Iy (ai:∀ x,SR P B pl tb (ev x) (evV x)) (hle:B.Le σ) (ax:∀ d,OR P B pl tb σ (pl d) (Qg own d)) {agg:Bool}{size:Nat}{a:Operand}(h:gq kt raw (.load agg size a) ev own=some (cs,v)):QOk P B pl tb σ (.load agg size a) evV v:=by
 simp only[gq] at h;cases hb:Nat.blt 0 size with
 |false=>rw[hb] at h;cases h
 |true =>
  rw[hb] at h;simp only[_root_.cond_true,Option.map_eq_some_iff] at h;obtain⟨v',h1,h2⟩:=h;obtain⟨rfl,rfl⟩:=(by simpa only [Prod.mk.injEq] using h2:_=cs∧_=v);have hs:0<size:=by simpa [Nat.blt_eq] using hb
  obtain⟨i,o,c,e,wr,t,u,h3,h4,h5,h6⟩:=Da hle ax hs h1 (ai a);exact⟨u,by simp only[Q9,h3,h4,h5],h6⟩
theorem TD (ai:∀ x,SR P B pl tb (ev x) (evV x)) {off:Nat}{a:Operand}(h:gq kt raw (.fieldAddr off a) ev own=some (cs,v)):QOk P B pl tb σ (.fieldAddr off a) evV v:=by
 have ha:=ai a;simp only[gq] at h;split at h
 ·rename_i o f heq;obtain⟨rfl,rfl⟩:=QP h;rw[heq] at ha;simp only[SR] at ha;obtain⟨b,h1,h2⟩:=ha;refine⟨_,by simp only[Q9,h2]<;>rfl,?_⟩;simp only[SR];exact⟨b,h1,rfl⟩
 ·rename_i l f heq;obtain⟨rfl,rfl⟩:=QP h;rw[heq] at ha;simp only[SR] at ha;obtain⟨b,c,e,wr,t,h1,h2,h3⟩:=ha;refine⟨_,by simp only[Q9,h2]<;>rfl,?_⟩;simp only[SR];exact⟨b,c,e,wr,t,h1,rfl,h3⟩
 ·rename_i o i f sz heq;obtain⟨rfl,rfl⟩:=QP h;rw[heq] at ha;simp only[SR] at ha;obtain⟨b,len,cap,h1,h2,h3,h4⟩:=ha;refine⟨_,by simp only[Q9,h4]<;>rfl,?_⟩;simp only[SR];exact⟨b,len,cap,h1,h2,h3,by rw[Nat.add_assoc]⟩
 ·rename_i o w heq;rw[heq] at ha;simp only[SR] at ha;split at h
  ·obtain⟨rfl,rfl⟩:=QP h;obtain⟨b,len,cap,h1,h2,h3,h4⟩:=ha;refine⟨_,by simp only[Q9,h4]<;>rfl,?_⟩;simp only[SR,DR];exact⟨b,len,cap,h1,h2,h3,by rw[Nat.add_assoc]⟩
  ·obtain⟨rfl,rfl⟩:=QP h;obtain⟨b,len,cap,c,e,t,r,rl,rc,bB,re,rt,h1,h2,h3,h4,h5,h6,h7,h8,h9,bM,fg,mR⟩:=ha;refine⟨_,by simp only[Q9,mR]<;>rfl,?_⟩;simp only[SR,DR];exact⟨b,len,cap,c,e,t,r,rl,rc,bB,re,rt,h1,h2,h3,h4,h5,h6,h7,h8,h9,bM,fg,by rw[Nat.add_assoc]⟩
  ·obtain⟨rfl,rfl⟩:=QP h;obtain⟨b,o',c,e,wr,t,h1,h2,h3,h4,h5,h6⟩:=ha;refine⟨_,by simp only[Q9,h4]<;>rfl,?_⟩;simp only[SR,DR];exact⟨b,o',c,e,wr,t,h1,h2,h3,by rw[Nat.add_assoc],h5,h6⟩
  ·cases h
 ·rename_i k l i f heq;obtain⟨rfl,rfl⟩:=QP h;rw[heq] at ha;simp only[SR] at ha;obtain⟨b,o,c,e,wr,t,h1,h2,h3,h4,h5,h6⟩:=ha;refine⟨_,by simp only[Q9,h4]<;>rfl,?_⟩;simp only[SR];exact⟨b,o,c,e,wr,t,h1,h2,h3,by rw[Nat.add_assoc],h5,h6⟩
 ·cases h
theorem Fe (ai:∀ x,SR P B pl tb (ev x) (evV x)) {agg:Bool}{off size:Nat}{x:Operand}(h:gq kt raw (.field agg off size x) ev own=some (cs,v)):QOk P B pl tb σ (.field agg off size x) evV v:=by
 have ha:=ai x;simp only[gq] at h;split at h
 ·rename_i l heq;rw[heq] at ha;simp only[SR] at ha;obtain⟨c,h1,h2⟩:=ha;simp only[Option.map_eq_some_iff] at h;obtain⟨v',h3,h4⟩:=h;obtain⟨rfl,rfl⟩:=(by simpa only [Prod.mk.injEq] using h4:_=cs∧_=v);obtain⟨u,h5,h6⟩:=ZU h2 h3;exact⟨u,by simp only[Q9,h1,h5],h6⟩
 ·cases h
theorem Ci (ai:∀ x,SR P B pl tb (ev x) (evV x)) {x:Operand}{i:Nat}(h:gq kt raw (.extract x i) ev own=some (cs,v)):QOk P B pl tb σ (.extract x i) evV v:=by
 have ha:=ai x;simp only[gq] at h;split at h
 ·rename_i l heq;rw[heq] at ha;simp only[SR] at ha;obtain⟨c,h1,h2⟩:=ha;simp only[Option.map_eq_some_iff] at h;obtain⟨v',h3,h4⟩:=h;obtain⟨rfl,rfl⟩:=(by simpa only [Prod.mk.injEq] using h4:_=cs∧_=v);obtain⟨u,h5,h6⟩:=h2.get h3;exact⟨u,by simp only[Q9,h1,h5],h6⟩
 ·cases h
theorem SP (ai:∀ x,SR P B pl tb (ev x) (evV x)) {x:Operand}(h:gq kt raw (.nilCheck x) ev own=some (cs,v)):QOk P B pl tb σ (.nilCheck x) evV v:=by
 have ha:=ai x;simp only[gq] at h;split at h
 ·rename_i o f heq;obtain⟨rfl,rfl⟩:=QP h;rw[heq] at ha;have hb:=ha;simp only[SR] at ha;obtain⟨b,h1,h2⟩:=ha;exact⟨_,by simp only[Q9,h2]<;>rfl,by rw[←h2];exact hb⟩
 ·rename_i l f heq;obtain⟨rfl,rfl⟩:=QP h;rw[heq] at ha;have hb:=ha;simp only[SR] at ha;obtain⟨b,c,e,wr,t,h1,h2,h3⟩:=ha;exact⟨_,by simp only[Q9,h2]<;>rfl,by rw[←h2];exact hb⟩
 ·rename_i f a b heq;obtain⟨rfl,rfl⟩:=QP h;rw[heq] at ha;have hb:=ha;simp only[SR] at ha;obtain⟨x1,y1,h1,h2,h3⟩:=ha;exact⟨_,by simp only[Q9,h1]<;>rfl,by rw[←h1];exact hb⟩
 ·cases h
theorem SJ (ai:∀ x,SR P B pl tb (ev x) (evV x)) {x i:Operand}(h:gq kt raw (.indexStr x i) ev own=some (cs,v)) (hc:∀ c∈cs,c):QOk P B pl tb σ (.indexStr x i) evV v:=by
 simp only[gq] at h;split at h
 ·rename_i s k j h1 h2;have e1:=Ye h1 (ai x);have e2:=Zn h2 (ai i);obtain⟨rfl,rfl⟩:=QP h;have k1:0≤j:=hc _ (by simp);have k2:j<s.length:=hc _ (by simp);have k3:j.toNat<s.length:=by omega
  refine⟨.int .u8 (s[j.toNat].toNat:Int),by simp only[Q9,e1,e2,k1,if_true];simp[k3],?_⟩;have:s.getD j.toNat 0=s[j.toNat]:=by simp[List.getD_eq_getElem?_getD,k3]
  rw[this];exact Jo _ _
 ·cases h
theorem SN (ai:∀ x,SR P B pl tb (ev x) (evV x)) (fB:∀ c,evV (.const c)=c) {len size:Nat}{agg:Bool}{x i:Operand}(h:gq kt raw (.indexArr len agg size x i) ev own=some (cs,v)):QOk P B pl tb σ (.indexArr len agg size x i) evV v:=by
 have ha:=ai x;simp only[gq] at h;split at h
 ·rename_i l k j heq;split at h
  ·rename_i hj;rw[heq] at ha;simp only[SR] at ha;obtain⟨c,h1,h2⟩:=ha;simp only[Option.map_eq_some_iff] at h;obtain⟨v',h3,h4⟩:=h;obtain⟨rfl,rfl⟩:=(by simpa only [Prod.mk.injEq] using h4:_=cs∧_=v);obtain⟨u,h5,h6⟩:=ZU h2 h3;refine⟨u,?_,h6⟩;simp only[Q9,h1,fB];rw[if_pos ⟨by simp,by simpa using hj⟩];simp[h5]
  ·cases h
 ·cases h
theorem DQ (ai:∀ x,SR P B pl tb (ev x) (evV x)) (fB:∀ c,evV (.const c)=c) {len size:Nat}{x i:Operand}(h:gq kt raw (.indexAddrArr len size x i) ev own=some (cs,v)):QOk P B pl tb σ (.indexAddrArr len size x i) evV v:=by
 have ha:=ai x;simp only[gq] at h;split at h
 ·rename_i o f k j heq;split at h
  ·rename_i hj;obtain⟨rfl,rfl⟩:=QP h;rw[heq] at ha;simp only[SR] at ha;obtain⟨b,h1,h2⟩:=ha;refine⟨.pointer (some ⟨b,f+j*size,none⟩),?_,?_⟩
   ·simp only[Q9,h2,fB];rw[if_pos ⟨by simp,by simpa using hj⟩];simp
   ·simp only[SR];exact⟨b,h1,rfl⟩
  ·cases h
 ·rename_i l f k j heq;split at h
  ·rename_i hj;obtain⟨rfl,rfl⟩:=QP h;rw[heq] at ha;simp only[SR] at ha;obtain⟨b,c,e,wr,t,h1,h2,h3⟩:=ha;refine⟨.pointer (some ⟨b,f+j*size,none⟩),?_,?_⟩
   ·simp only[Q9,h2,fB];rw[if_pos ⟨by simp,by simpa using hj⟩];simp
   ·simp only[SR];exact⟨b,c,e,wr,t,h1,rfl,h3⟩
  ·cases h
 ·cases h
theorem R6 (ai:∀ x,SR P B pl tb (ev x) (evV x)) (_hle:B.Le σ) (ax:∀ d,OR P B pl tb σ (pl d) (Qg own d)) {size:Nat}{x i:Operand}(h:gq kt raw (.indexAddr size x i) ev own=some (cs,v)) (hc:∀ c∈cs,c):QOk P B pl tb σ (.indexAddr size x i) evV v:=by
 have ha:=ai x;simp only[gq] at h;split at h
 ·rename_i o k' j heq hj;have ej:=Zn hj (ai i);split at h
  ·rename_i ty k xs nl ho;split at h
   ·rename_i aB;obtain⟨rfl,rfl⟩:=QP h;have h0:0≤j:=hc _ (by simp);have h1:j<xs.length:=hc _ (by simp);rw[heq] at ha;simp only[SR] at ha;have ao:=ax o;rw[ho] at ao;rcases ao with⟨_,rfl,_⟩|⟨_,b,cap,c,t,h2,h3,h4,h5,h6⟩
    ·simp at h1;omega
    ·refine⟨.pointer (some ⟨b,0+j.toNat*size,none⟩),?_,?_⟩
     ·simp only[Q9,ha.1,h2,ej];rw[if_pos ⟨h0,h1⟩]
     ·simp only[SR];exact⟨b,_,cap,h2,h0,h1,by simp⟩
   ·cases h
  ·cases h
 ·rename_i o w k' j heq hj;have ej:=Zn hj (ai i);rw[heq] at ha;simp only[SR] at ha;have ao:=ax o;split at h
  ·rename_i ty q k xs nl hole ho;rw[ho] at ao;split at h
   ·have key:(if k.size=size then some ([0≤j,j<xs.length],SV.dd o (.el j 0 size)) else none)=some (cs,v)→QOk P B pl tb σ (.indexAddr size x i) evV v:=by
     intro h;split at h
     ·rename_i aB;obtain⟨rfl,rfl⟩:=QP h;have h0:0≤j:=hc _ (by simp);have h1:j<xs.length:=hc _ (by simp);obtain⟨is,_,_,h2,_⟩:=ao;rcases h2 with⟨rfl,_⟩|⟨b,cap,c,t,js,h2,_⟩
      ·simp at h1;omega
      ·refine⟨.pointer (some ⟨b,0+j.toNat*size,none⟩),?_,?_⟩
       ·simp only[Q9,ha.1,h2,ej];rw[if_pos ⟨h0,h1⟩]
       ·simp only[SR,DR];exact⟨b,_,cap,h2,h0,h1,by simp⟩
     ·cases h
    split at h
    ·exact key h
    ·exact key h
   ·rename_i kr l ir;split at h
    ·rename_i aB;obtain⟨rfl,rfl⟩:=QP h;have h0:0≤j:=hc _ (by simp);have h1:j<l.length:=hc _ (by simp);obtain⟨tx,bP,b,len,cap,c,e,t,g1,g2,g3,g4,g5⟩:=ha;obtain⟨r,o',rc,bB,re,q6,rt,k1,k2,k3,k4⟩:=RX tx (j:=j.toNat) (by omega);obtain rfl:o'=0:=bP _ _ _ k1;obtain rfl:=A_ k2;refine⟨.pointer (some ⟨r,0+j.toNat*size,none⟩),?_,?_⟩
     ·simp only[Q9,k1,ej];rw[if_pos ⟨h0,h1⟩]
     ·simp only[SR,DR];exact⟨b,len,cap,c,e,t,r,l.length,rc,bB,re,rt,g1,g2,g3,g4,by rw[g5,k1],h0,h1,rfl,k2,by omega,by rw[List.drop_zero] at k4;exact k4,by simp[aB]⟩
    ·cases h
   ·rename_i kr l;split at h
    ·rename_i aB;obtain⟨rfl,rfl⟩:=QP h;have h0:0≤j:=hc _ (by simp);have h1:j<l.length:=hc _ (by simp);obtain⟨r,o',rc,bB,re,q6,rt,k1,k2,k3,k4⟩:=RX (show KC (JC (pl o)) (.list kr) l [evV x] from ha) (j:=j.toNat) (by omega);refine⟨.pointer (some ⟨r,o'+j.toNat*size,none⟩),?_,?_⟩
     ·simp only[Q9,k1,ej];rw[if_pos ⟨h0,h1⟩]
     ·simp only[SR,DR];exact⟨r,o',bB,re,q6,rt,h0,h1,k2,by simp[aB],k3,k4⟩
    ·cases h
   ·cases h
  ·cases h
 ·rename_i o lo n sz k' j heq hj;have ej:=Zn hj (ai i);split at h
  ·rename_i ty k xs nl ho;split at h
   ·rename_i aB;obtain⟨aB,rfl⟩:=aB;obtain⟨rfl,rfl⟩:=QP h;have h0:0≤j:=hc _ (by simp);have h1:j<n:=hc _ (by simp);rw[heq] at ha;simp only[SR] at ha;rcases ha with⟨rfl,rfl,_,_⟩|⟨b,len,cap,aq,h2,h3,h4,h5⟩
    ·simp at h1;omega
    ·refine⟨.pointer (some ⟨b,lo*sz+j.toNat*sz,none⟩),?_,?_⟩
     ·simp only[Q9,h5,ej];rw[if_pos ⟨h0,h1⟩]
     ·simp only[SR];refine⟨b,len,cap,h2,by omega,by omega,?_⟩;have:((lo:Int)+j).toNat=lo+j.toNat:=by omega
      rw[this,Nat.add_mul,Nat.add_zero]
   ·cases h
  ·cases h
 ·rename_i k l k' j heq hj;have ej:=Zn hj (ai i);split at h
  ·rename_i aB;obtain⟨rfl,rfl⟩:=QP h;have h0:0≤j:=hc _ (by simp);have h1:j<l.length:=hc _ (by simp);rw[heq] at ha;simp only[SR,KC] at ha;obtain⟨v',e,hs⟩:=ha;obtain e:=(List.cons.inj e).1;rcases hs with⟨rfl,_⟩|⟨b,o,cap,c,e',wr,t,h2,h3,h4,h5,h6,h7⟩
   ·simp at h1;omega
   ·refine⟨.pointer (some ⟨b,o+j.toNat*size,none⟩),?_,?_⟩
    ·simp only[Q9,e,h2,ej];rw[if_pos ⟨h0,h1⟩]
    ·simp only[SR];exact⟨b,o,c,e',wr,t,h0,h1,h4,by rw[aB,Nat.add_zero],h6,h7⟩
  ·cases h
 ·cases h
theorem QR (ai:∀ x,SR P B pl tb (ev x) (evV x)) {x:Option Operand}{d:Nat}{a:Int}(h:Xa ev x d=some a) (ha:0≤a):ZN evV x d=some a.toNat:=by
 cases x with
 |none=>obtain rfl:=osj h;simp[ZN]
 |some x =>simp only[Xa,Option.map_eq_some_iff] at h;obtain⟨⟨k,a'⟩,h1,h2⟩:=h;simp only at h2;subst h2;simp only[ZN,Zn h1 (ai x),ha,if_true]
theorem Sr (ai:∀ x,SR P B pl tb (ev x) (evV x)) {x:Operand}{lo hi:Option Operand}(h:gq kt raw (.sliceStr x lo hi) ev own=some (cs,v)) (hc:∀ c∈cs,c):QOk P B pl tb σ (.sliceStr x lo hi) evV v:=by
 simp only[gq] at h;split at h
 ·rename_i s hs;have es:=Ye hs (ai x);split at h
  ·rename_i a b h1 h2;obtain⟨rfl,rfl⟩:=QP h;have k0:0≤a:=hc _ (by simp);have k1:a≤b:=hc _ (by simp);have k2:b≤s.length:=hc _ (by simp);have e1:=QR (evV:=evV) ai h1 k0;have e2:=QR (evV:=evV) ai h2 (by omega);have gU:(ByteArray.mk s.toArray).size=s.length:=by simp[ByteArray.size]
   refine⟨.string ((ByteArray.mk s.toArray).extract a.toNat b.toNat),?_,?_⟩
   ·simp only[Q9,es,gU,e1,e2];rw[if_pos (by omega)]
   ·have:(ByteArray.mk s.toArray).extract a.toNat b.toNat=⟨((s.drop a.toNat).take (b-a).toNat).toArray⟩:=by
     apply ByteArray.ext;simp[ByteArray.data_extract];rw[show (b-a).toNat=b.toNat-a.toNat by omega]
    rw[this];exact Gb _
  ·cases h
 ·cases h
theorem Q3j (ai:∀ x,SR P B pl tb (ev x) (evV x)) (ax:∀ d,OR P B pl tb σ (pl d) (Qg own d)) {x:Operand}(h:gq kt raw (.len x) ev own=some (cs,v)):QOk P B pl tb σ (.len x) evV v:=by
 simp only[gq] at h;split at h
 ·rename_i n h1;obtain⟨rfl,rfl⟩:=QP h;obtain⟨a,cap,e⟩:=Ln ax h1 (ai x);exact⟨.int .i64 n,by simp only[Q9,e],Jo _ _⟩
 ·cases h
theorem E5 (ai:∀ x,SR P B pl tb (ev x) (evV x)) {x:Operand}(h:gq kt raw (.lenStr x) ev own=some (cs,v)):QOk P B pl tb σ (.lenStr x) evV v:=by
 simp only[gq] at h;split at h
 ·rename_i s h1;obtain⟨rfl,rfl⟩:=QP h;exact⟨.int .i64 s.length,by simp only[Q9,Ye h1 (ai x)];simp[ByteArray.size],Jo _ _⟩
 ·cases h
theorem Q30 (ai:∀ x,SR P B pl tb (ev x) (evV x)) {x y:Operand}(h:gq kt raw (.max x y) ev own=some (cs,v)):QOk P B pl tb σ (.max x y) evV v:=by
 simp only[gq] at h;split at h
 ·rename_i k a k' b h1 h2;obtain⟨e1,e2⟩:=Ni ai h1 h2;split at h
  ·rename_i hk;subst hk;obtain⟨rfl,rfl⟩:=QP h;exact⟨.int k (Xe a b),by simp only[Q9,e1,e2,if_true];rfl,Jo _ _⟩
  ·cases h
 ·cases h
theorem Q00 (ai:∀ x,SR P B pl tb (ev x) (evV x)) {x y z w:Operand}(h:gq kt raw (.max4 x y z w) ev own=some (cs,v)):QOk P B pl tb σ (.max4 x y z w) evV v:=by
 simp only[gq] at h;split at h
 ·rename_i k a k2 b k3 c k4 d h1 h2 h3 h4;obtain⟨e1,e2⟩:=Ni ai h1 h2;obtain⟨e3,e4⟩:=Ni ai h3 h4;split at h
  ·rename_i hk;obtain⟨rfl,rfl,rfl⟩:=hk;obtain⟨rfl,rfl⟩:=QP h;exact⟨.int k (Xe (Xe (Xe a b) c) d),by simp only[Q9,e1,e2,e3,e4,and_self,if_true];rfl,Jo _ _⟩
  ·cases h
 ·cases h
theorem Q26 (ai:∀ x,SR P B pl tb (ev x) (evV x)) {x y:Operand}(h:gq kt raw (.min x y) ev own=some (cs,v)):QOk P B pl tb σ (.min x y) evV v:=by
 simp only[gq] at h;split at h
 ·rename_i k a k' b h1 h2;obtain⟨e1,e2⟩:=Ni ai h1 h2;split at h
  ·rename_i hk;subst hk;obtain⟨rfl,rfl⟩:=QP h;exact⟨.int k (Wa a b),by simp only[Q9,e1,e2,if_true];rfl,Jo _ _⟩
  ·cases h
 ·cases h
theorem SH (ai:∀ x,SR P B pl tb (ev x) (evV x)) {fn:Fn}{a b:List Operand}(h:gq kt raw (.makeFunc fn a b) ev own=some (cs,v)):QOk P B pl tb σ (.makeFunc fn a b) evV v:=by
 cases fn with
 |func f =>obtain⟨rfl,rfl⟩:=QP h;refine⟨.func (.func f) (a.map evV).toArray (b.map evV).toArray,by simp only[Q9],?_⟩;simp only[SR];exact⟨_,_,rfl,SRs.map fun x _=>ai x,SRs.map fun x _=>ai x⟩
 |_=>cases h
theorem SlRel.sl {h:Heap}{sz:Nat}{α:Type}{R:α→List Value→Prop}{l:List α}{v:Value}(hs:SlRel h sz R l v):∃ cs a cap,h.sl sz v=some cs∧Rows R l cs∧v=.slice a l.length cap:=by
 rcases hs with⟨rfl,rfl⟩|⟨i,o,cap,c,e,wr,t,rfl,h2,h3,h4,h5,h6⟩
 ·exact⟨[],_,_,rfl,.nil,rfl⟩
 ·refine⟨_,_,cap,?_,h6,rfl⟩;simp only[Heap.sl,h3];rw[if_pos ⟨h4,h5⟩]
theorem PK {h:Heap}:∀ {xs:List Int}{cs:List Value},Rows (KC h (.i .u8)) xs cs→Mt cs=some ⟨(xs.map fun x=>x.toNat.toUInt8).toArray⟩:=by
 have key:∀ {xs:List Int}{cs:List Value},Rows (KC h (.i .u8)) xs cs→cs.mapM Tx=some (xs.map fun x=>x.toNat.toUInt8):=fun {xs cs} hr=>by
  induction hr with
  |nil=>rfl
  |@cons x xs c cs hx _ ih =>simp only[KC] at hx;subst hx;simp only[List.singleton_append,List.mapM_cons,Tx,ih,List.map_cons];rfl
 intro xs cs hr;simp only[Mt,key hr,Option.map_some]
theorem SA (ai:∀ x,SR P B pl tb (ev x) (evV x)) (hle:B.Le σ) (ax:∀ d,OR P B pl tb σ (pl d) (Qg own d)) {x:Operand}(h:gq kt raw (.ext (.bytesStr x)) ev own=some (cs,v)):QOk P B pl tb σ (.ext (.bytesStr x)) evV v:=by
 simp only[gq] at h;split at h
 ·rename_i xs h1;obtain⟨rfl,rfl⟩:=QP h;obtain⟨cs,a,cap,h2,h3,h4⟩:=(Xo hle ax h1 (ai x)).sl;refine⟨.string ⟨(Bz xs).toArray⟩,?_,Gb _⟩;have aB:Kind.size (.i .u8)=1:=rfl;rw[h4,aB] at h2;simp only[Q9,Z3,h4,h2,PK h3];rfl
 ·cases h
theorem Af (ai:∀ x,SR P B pl tb (ev x) (evV x)) (ax:∀ d,OR P B pl tb σ (pl d) (Qg own d)) {neg:Bool}{x y:Operand}(h:gq kt raw (.ext (.eqNil 0 neg x y)) ev own=some (cs,v)) (hc:∀ c∈cs,c):QOk P B pl tb σ (.ext (.eqNil 0 neg x y)) evV v:=by
 have hx:=ai x;have hy:=ai y;simp only[gq] at h;split at h
 ·rename_i h1 h2;obtain⟨rfl,rfl⟩:=QP h;rw[h1] at hx;rw[h2] at hy;simp only[SR] at hx hy;exact⟨.bool (!neg),by simp only[Q9,Z3,hx,hy,ZI];cases neg<;>rfl,ZA _⟩
 ·rename_i o f h1 h2;obtain⟨rfl,rfl⟩:=QP h;rw[h1] at hx;rw[h2] at hy;simp only[SR] at hx hy;obtain⟨b,_,hb⟩:=hx;exact⟨.bool neg,by simp only[Q9,Z3,hb,hy,ZI];cases neg<;>rfl,ZA _⟩
 ·rename_i l f h1 h2;obtain⟨rfl,rfl⟩:=QP h;rw[h1] at hx;rw[h2] at hy;simp only[SR] at hx hy;obtain⟨b,c,e,wr,t,_,hb,_⟩:=hx;exact⟨.bool neg,by simp only[Q9,Z3,hb,hy,ZI];cases neg<;>rfl,ZA _⟩
 ·rename_i o c h1 h2;obtain⟨rfl,rfl⟩:=QP h;rw[h1] at hx;rw[h2] at hy;simp only[SR,DR] at hx hy;rcases hx with⟨rfl,hb⟩|⟨rfl,b,_,hb⟩
  ·exact⟨.bool (bif neg then false else true),by simp only[Q9,Z3,hb,hy,ZI];cases neg<;>rfl,ZA _⟩
  ·exact⟨.bool (bif neg then true else false),by simp only[Q9,Z3,hb,hy,ZI];cases neg<;>rfl,ZA _⟩
 ·rename_i o c o' f h1 h2;split at h
  ·rename_i l u ho;split at h
   ·rename_i he;obtain⟨rfl,rfl⟩:=he;obtain⟨rfl,rfl⟩:=QP h;have tz:c=true:=hc _ (by simp);rw[h1] at hx;rw[h2] at hy;simp only[SR,DR] at hx hy;have ao:=ax o;rw[ho] at ao;obtain⟨i,cc,e,t,hp,hg,_⟩:=ao;obtain⟨b',bj,hy⟩:=hy;rcases hx with⟨jm,_⟩|⟨_,b,e_,hb⟩
    ·rw[tz] at jm;cases jm
    ·rw[hp] at bj e_;simp only[phd,Value.pointer.injEq,Option.some.injEq] at bj e_;have e1:i=b':=by injection bj
     have e2:i=b:=by injection e_
     subst e1;subst e2;exact⟨.bool (!neg),by simp only[Q9,Z3,hb,hy,ZI,hg,Option.isSome_some,and_self,if_true];cases neg<;>rfl,ZA _⟩
   ·cases h
  ·cases h
 ·cases h
theorem So (ai:∀ x,SR P B pl tb (ev x) (evV x)) (ax:∀ d,OR P B pl tb σ (pl d) (Qg own d)) {x:Operand}(h:gq kt raw (.ext (.toUnsafe x)) ev own=some (cs,v)):QOk P B pl tb σ (.ext (.toUnsafe x)) evV v:=by
 have hx:=ai x;simp only[gq] at h;split at h
 ·rename_i o f h1;split at h
  ·rename_i l u ho;split at h
   ·rename_i hf;obtain⟨rfl,rfl⟩:=QP h;rw[h1] at hx;have pF:=hx;simp only[SR] at hx;obtain⟨b,hp,hv⟩:=hx;have ao:=ax o;rw[ho] at ao;obtain⟨i,c,e,t,e_,hg,hl,_⟩:=ao;rw[hp] at e_;have e1:b=i:=by simpa using e_
    subst e1;refine⟨.pointer (some ⟨b,f,none⟩),?_,by rw[←hv];exact pF⟩;simp only[Q9,Z3,hv,hg];rw[if_pos (by rw[←hl.length];exact hf)]
   ·cases h
  ·cases h
 ·cases h
theorem Pu (ai:∀ x,SR P B pl tb (ev x) (evV x)) (ax:∀ d,OR P B pl tb σ (pl d) (Qg own d)) {u size:Nat}{x:Operand}(h:gq kt raw (.ext (.fromUnsafe u size x)) ev own=some (cs,v)):QOk P B pl tb σ (.ext (.fromUnsafe u size x)) evV v:=by
 have hx:=ai x;simp only[gq] at h;split at h
 ·rename_i o f h1;split at h
  ·rename_i l t0 ho;split at h
   ·rename_i hf;obtain⟨rfl,rfl,aB⟩:=hf;obtain⟨rfl,rfl⟩:=QP h;rw[h1] at hx;have pF:=hx;simp only[SR] at hx;obtain⟨b,hp,hv⟩:=hx;have ao:=ax o;rw[ho] at ao;obtain⟨i,c,e,t,e_,hg,hl,hu⟩:=ao;obtain⟨he,ht⟩:=hu _ rfl;subst ht;rw[hp] at e_;have e1:b=i:=by simpa using e_
    subst e1;refine⟨.pointer (some ⟨b,0,none⟩),?_,by rw[←hv];exact pF⟩;simp only[Q9,Z3,hv,hg];rw[if_pos ⟨trivial,he,by rw[←hl.length];exact aB⟩]
   ·cases h
  ·cases h
 ·cases h
theorem TG (ai:∀ x,SR P B pl tb (ev x) (evV x)) (ax:∀ d,OR P B pl tb σ (pl d) (Qg own d)) {x:Operand}(h:gq kt raw (.ext (.sliceData x)) ev own=some (cs,v)) (hc:∀ c∈cs,c):QOk P B pl tb σ (.ext (.sliceData x)) evV v:=by
 have hx:=ai x;simp only[gq] at h;split at h
 ·rename_i h1;obtain⟨rfl,rfl⟩:=QP h;rw[h1] at hx;simp only[SR] at hx;exact⟨.pointer none,by simp only[Q9,Z3,hx],by simp[SR]⟩
 ·rename_i o h1;split at h
  ·rename_i ty k xs nl ho;obtain⟨rfl,rfl⟩:=QP h;have dC:nl=false→xs≠[]:=hc _ (by simp);rw[h1] at hx;simp only[SR] at hx;have ao:=ax o;rw[ho] at ao;rcases ao with⟨_,_,hp⟩|⟨ia,i,cap,c,t,hp,cI,hg,_⟩
   ·refine⟨.pointer none,by simp only[Q9,Z3,hx.1,hp],?_⟩;simp only[SR,DR];exact .inl ⟨by rw[hp];rfl,trivial⟩
   ·have aC:=List.length_pos_iff.2 (dC ia);refine⟨.pointer (some ⟨i,0,none⟩),?_,?_⟩
    ·simp only[Q9,Z3,hx.1,hp,hg,Option.isSome_some,and_true];rw[if_pos (by omega)]
    ·simp only[SR,DR];exact .inr ⟨i,xs.length,cap,by rw[hp];rfl,aC,rfl⟩
  ·cases h
 ·cases h
theorem D3 {size:Nat}{i o len cap l h:Nat}{c:List Value}{e:El}{wr t:Bool}(hg:σ.get i=some (.cells c e wr t)) (he:e.sz=size) (h1:l≤h) (h2:h≤cap) :
  XT size σ (.slice (some ⟨i,o,none⟩) len cap) l h none=some (.slice (some ⟨i,o+l*size,none⟩) (h-l) (cap-l),σ):=by
 simp only[XT,hg];rw[if_pos ⟨he,h1,h2⟩]
theorem Iu {H:Heap}{k:Kind}{l:List k.T}{v:Value}(h:KC H (.list k) l [v]):∃ a c,v=.slice a l.length c:=by
 obtain⟨v',e,hs⟩:=h;obtain rfl:=(List.cons.inj e).1;rcases hs with⟨rfl,rfl⟩|⟨i,o,cap,c,e',wr,t,rfl,_⟩
 ·exact⟨_,_,rfl⟩
 ·exact⟨_,_,rfl⟩
theorem RV {H:Heap}(hle:H.Le σ) {k:Kind}{l:List k.T}{v:Value}{a b:Nat}(h:KC H (.list k) l [v]) (k1:a≤b) (k2:b≤l.length) :
  ∃ u,XT k.size σ v a b none=some (u,σ)∧KC H (.list k) ((l.drop a).take (b-a)) [u]:=by
 obtain⟨v',e,hs⟩:=h;obtain rfl:=(List.cons.inj e).1;rcases hs with⟨rfl,rfl⟩|⟨i,o,cap,c,e',wr,t,rfl,h4,h5,h6,h7,h8⟩
 ·simp only[List.length_nil] at k2;have za:a=0:=by omega
  have zb:b=0:=by omega
  subst za;subst zb;exact⟨.slice none 0 0,by simp only[XT];rfl,_,rfl,.inl ⟨by simp,rfl⟩⟩
 ·have hlen:((l.drop a).take (b-a)).length=b-a:=by simp;omega
  refine⟨.slice (some ⟨i,o+a*k.size,none⟩) (b-a) (cap-a),D3 (hle.2 _ _ h5) h6 (by omega) (by omega),_,rfl,.inr ⟨i,o+a*k.size,cap-a,c,e',wr,t,by rw[hlen],by rw[hlen];omega,h5,h6,?_,?_⟩⟩
  ·rw[hlen];have:(a+(b-a))*k.size≤l.length*k.size:=Nat.mul_le_mul_right _ (by omega);rw[Nat.add_mul] at this;omega
  ·rw[hlen];have:=(h8.drop KC.rows_len a).take KC.rows_len (b-a);have e3:(((c.drop o).take (l.length*k.size)).drop (a*k.size)).take ((b-a)*k.size)=(c.drop (o+a*k.size)).take ((b-a)*k.size):=by
    apply List.ext_getElem?;intro j;simp only[List.getElem?_take,List.getElem?_drop];split
    ·have:(a+(b-a))*k.size≤l.length*k.size:=Nat.mul_le_mul_right _ (by omega);rw[Nat.add_mul] at this;rw[if_pos (by omega),Nat.add_assoc]
    ·rfl
   rw[e3] at this;exact this
theorem FC (ai:∀ x,SR P B pl tb (ev x) (evV x)) (hle:B.Le σ) (ax:∀ d,OR P B pl tb σ (pl d) (Qg own d)) {size:Nat}{x:Operand}{lo hi mx:Option Operand}(h:gq kt raw (.slice size x lo hi mx) ev own=some (cs,v)) (hc:∀ c∈cs,c):QOk P B pl tb σ (.slice size x lo hi mx) evV v:=by
 have ha:=ai x;cases mx with
 |some m=>cases h
 |none =>
 simp only[gq] at h;split at h
 ·rename_i o heq;rw[heq] at ha;simp only[SR] at ha;have ao:=ax o;split at h
  ·rename_i ty k xs nl ho;rw[ho] at ao;split at h
   ·rename_i aB;split at h
    ·rename_i a b h1 h2;obtain⟨rfl,rfl⟩:=QP h;have k0:0≤a:=hc _ (by simp);have k1:a≤b:=hc _ (by simp);have k2:b≤xs.length:=hc _ (by simp);have e1:=QR (evV:=evV) (d:=0) ai h1 k0;have e2:=QR (evV:=evV) ai h2 (by omega);rcases ao with⟨_,rfl,h3⟩|⟨_,i,cap,c,t,h3,h4,h5,h6,h7⟩
     ·simp only[List.length_nil] at k2 e2;have za:a.toNat=0:=by omega
      have zb:b.toNat=0:=by omega
      have zc:(b-a).toNat=0:=by omega
      refine⟨.slice none 0 0,?_,?_⟩
      ·simp only[Q9,ha.1,h3,e1,e2,za,zb,XT];rfl
      ·rw[za,zc];simp only[SR];exact .inl ⟨trivial,trivial,trivial,h3⟩
     ·refine⟨.slice (some ⟨i,0+a.toNat*size,none⟩) (b.toNat-a.toNat) (cap-a.toNat),?_,?_⟩
      ·simp only[Q9,ha.1,h3,e1,e2];exact D3 h5 aB (by omega) (by omega)
      ·simp only[SR];refine .inr ⟨i,_,cap,cap-a.toNat,h3,by omega,by omega,?_⟩;rw[Nat.zero_add,show (b-a).toNat=b.toNat-a.toNat by omega]
    ·cases h
   ·cases h
  ·cases h
 ·rename_i o l0 n sz heq;rw[heq] at ha;simp only[SR] at ha;have ao:=ax o;split at h
  ·rename_i ty k xs nl ho;rw[ho] at ao;split at h
   ·rename_i aB;obtain⟨aB,rfl⟩:=aB;split at h
    ·rename_i a b h1 h2;obtain⟨rfl,rfl⟩:=QP h;have k0:0≤a:=hc _ (by simp);have k1:a≤b:=hc _ (by simp);have k2:b≤n:=hc _ (by simp);have e1:=QR (evV:=evV) (d:=0) ai h1 k0;have e2:=QR (evV:=evV) ai h2 (by omega);rcases ha with⟨rfl,rfl,hv,hp⟩|⟨i,len,cap,aq,h3,h4,h5,hv⟩
     ·have za:a.toNat=0:=by omega
      have zb:b.toNat=0:=by omega
      have zc:(b-a).toNat=0:=by omega
      refine⟨.slice none 0 0,?_,?_⟩
      ·simp only[Q9,hv,e1,e2,za,zb,XT];rfl
      ·rw[za,zc];simp only[SR];exact .inl ⟨trivial,trivial,trivial,hp⟩
     ·rcases ao with⟨_,_,h6⟩|⟨_,i',eu,c,t,h6,h7,h8,h9,bM⟩
      ·rw[h3] at h6;cases h6
      ·rw[h3] at h6;obtain⟨rfl,rfl,rfl⟩:=(by simpa using h6:i=i'∧len=xs.length∧cap=eu);refine⟨.slice (some ⟨i,l0*sz+a.toNat*sz,none⟩) (b.toNat-a.toNat) (aq-a.toNat),?_,?_⟩
       ·simp only[Q9,hv,e1,e2];exact D3 h8 aB (by omega) (by omega)
       ·simp only[SR];refine .inr ⟨i,_,cap,aq-a.toNat,h3,by omega,by omega,?_⟩;rw[Nat.add_mul,show (b-a).toNat=b.toNat-a.toNat by omega]
    ·cases h
   ·cases h
  ·cases h
 ·rename_i k l heq;rw[heq] at ha;simp only[SR] at ha;split at h
  ·rename_i aB;split at h
   ·rename_i a b h1 h2;obtain⟨rfl,rfl⟩:=QP h;have k0:0≤a:=hc _ (by simp);have k1:a≤b:=hc _ (by simp);have k2:b≤l.length:=hc _ (by simp);have e1:=QR (evV:=evV) (d:=0) ai h1 k0;have e2:=QR (evV:=evV) ai h2 (by omega);obtain⟨v',e⟩:=List.length_eq_one_iff.1 (KC.length ha);obtain⟨u,g1,g2⟩:=RV hle (a:=a.toNat) (b:=b.toNat) ha (by omega) (by omega);obtain⟨n,cap,e3⟩:=Iu ha;refine⟨u,?_,?_⟩
    ·simp only[Q9,e3,e1,e2];rw[←aB,←e3];exact g1
    ·simp only[SR];rw[show (b-a).toNat=b.toNat-a.toNat by omega];exact g2
   ·cases h
  ·cases h
 ·rename_i o w heq;rw[heq] at ha;simp only[SR] at ha;have ao:=ax o;split at h
  ·rename_i ty q k xs nl hole ho;rw[ho] at ao
   have key:∀ (k:Kind) (l:List k.T),KC (JC (pl o)) (.list k) l [evV x]→(if k.size=size then (match Xa ev lo 0,Xa ev hi l.length with
     |some a,some b=>some ([0≤a,a≤b,b≤(l.length:Int)],SV.dd o (.inn k ((l.drop a.toNat).take (b-a).toNat)))
     |_,_=>none) else none)=some (cs,v)→QOk P B pl tb σ (.slice size x lo hi none) evV v:=by
    intro k l ha h;split at h
    ·rename_i aB;split at h
     ·rename_i a b h1 h2;obtain⟨rfl,rfl⟩:=QP h;have k0:0≤a:=hc _ (by simp);have k1:a≤b:=hc _ (by simp);have k2:b≤l.length:=hc _ (by simp);have e1:=QR (evV:=evV) (d:=0) ai h1 k0;have e2:=QR (evV:=evV) ai h2 (by omega);obtain⟨u,g1,g2⟩:=RV (DP.le ao) (a:=a.toNat) (b:=b.toNat) ha (by omega) (by omega);obtain⟨n,cap,e3⟩:=(Ge ha).len;refine⟨u,?_,?_⟩
      ·simp only[Q9,e3,e1,e2];rw[←aB,←e3];exact g1
      ·simp only[SR,DR];rw[show (b-a).toNat=b.toNat-a.toNat by omega];exact g2
     ·cases h
    ·cases h
   split at h
   ·exact key _ _ ha h
   ·exact key _ _ ha.1 h
   ·cases h
  ·cases h
 ·rename_i heq;rw[heq] at ha;simp only[SR] at ha;split at h
  ·rename_i a b h1 h2;obtain⟨rfl,rfl⟩:=QP h;have k0:a=0:=hc _ (by simp);have k1:b=0:=hc _ (by simp);subst k0;subst k1;have e1:=QR (evV:=evV) (d:=0) ai h1 (Int.le_refl _);have e2:=QR (evV:=evV) (d:=0) ai h2 (Int.le_refl _);refine⟨.slice none 0 0,?_,?_⟩
   ·simp only[Q9,ha,e1,e2,XT];rfl
   ·simp only[SR]
  ·cases h
 ·cases h
theorem EX (ai:∀ x,SR P B pl tb (ev x) (evV x)) {neg:Bool}{x y:Operand}(ax:∀ d,OR P B pl tb σ (pl d) (Qg own d)) (h:gq kt raw (.ext (.eqNil 1 neg x y)) ev own=some (cs,v)) (hc:∀ c∈cs,c):QOk P B pl tb σ (.ext (.eqNil 1 neg x y)) evV v:=by
 have ha:=ai x;have hb:=ai y;simp only[gq] at h;split at h
 ·rename_i h1 h2;rw[h1] at ha;rw[h2] at hb;simp only[SR] at ha hb;obtain⟨rfl,rfl⟩:=QP h;refine⟨.bool (!neg),?_,ZA _⟩;simp only[Q9,Z3,ha,hb,ZI];cases neg<;>rfl
 ·rename_i o h1 h2;rw[h1] at ha;rw[h2] at hb;simp only[SR] at ha hb;have ao:=ax o;split at h
  ·rename_i ty k xs nl ho;rw[ho] at ao;obtain⟨rfl,rfl⟩:=QP h;refine⟨.bool (bif neg then !nl else nl),?_,ZA _⟩;rcases ao with⟨rfl,_,h3⟩|⟨rfl,i,cap,c,t,h3,_⟩
   ·simp only[Q9,Z3,ha.1,h3,hb,ZI];cases neg<;>rfl
   ·simp only[Q9,Z3,ha.1,h3,hb,ZI];cases neg<;>rfl
  ·cases h
 ·rename_i o h1 h2;rw[h1] at ha;rw[h2] at hb;simp only[SR] at ha hb;have ao:=ax o;split at h
  ·rename_i ty q k xs nl hole ho;rw[ho] at ao;obtain⟨rfl,rfl⟩:=QP h;refine⟨.bool (bif neg then !nl else nl),?_,ZA _⟩;obtain⟨is,_,_,g2,_,_,g5⟩:=ao;obtain⟨e1,_⟩:=ha;rcases g2 with⟨_,h3,_⟩|⟨i,cap,c,t,js,h3,_⟩
   ·obtain rfl:=g5.2 h3;simp only[Q9,Z3,e1,h3,hb,ZI];cases neg<;>rfl
   ·have hn:nl=false:=by
     cases nl with
     |false=>rfl
     |true=>rw[g5.1 rfl] at h3;cases h3
    subst hn;simp only[Q9,Z3,e1,h3,hb,ZI];cases neg<;>rfl
  ·cases h
 ·rename_i k l h1 h2;rw[h1] at ha;rw[h2] at hb;simp only[SR] at ha hb;obtain⟨rfl,rfl⟩:=QP h;have hl:=hc (l≠[]) (by simp);refine⟨.bool neg,?_,ZA _⟩;obtain⟨u,hu,hs⟩:=ha;obtain rfl:=(List.cons.inj hu).1;rcases hs with⟨e,_⟩|⟨i,o,cap,c,e,wr,t,h3,_⟩
  ·exact absurd e hl
  ·simp only[Q9,Z3,h3,hb,ZI];cases neg<;>rfl
 ·cases h
theorem AX (ai:∀ x,SR P B pl tb (ev x) (evV x)) {mk:MK}{z:Value}{ok:Bool}{x i:Operand}(_hle:B.Le σ) (ax:∀ d,OR P B pl tb σ (pl d) (Qg own d)) (h:gq kt raw (.ext (.lookup mk z ok x i)) ev own=some (cs,v)):QOk P B pl tb σ (.ext (.lookup mk z ok x i)) evV v:=by
 have ha:=ai x;simp only[gq] at h;split at h
 ·rename_i o h1;rw[h1] at ha;simp only[SR] at ha;have ao:=ax o;split at h
  ·rename_i kk vk m ho;rw[ho] at ao;obtain⟨id,es,clock,h2,h3,h4⟩:=ao;split at h
   ·rename_i b_;obtain⟨b_,hz⟩:=b_;split at h
    ·rename_i key b9;have hk:=V4 b9 (ai i) QJ;have bF:=Vr b_ hk;have hall:=MR.keys b_ h4.1;have pG:KV B vk vk.dflt z:=Mu hz;have aG:σ.mapAt id=some (es,clock,true):=by simp[Heap.mapAt,h3]
     have aH:=MR.find b_ hk pG h4.1
     have base:∀ u,(match Qh (evV i) es with
      |some e=>some (if ok then Value.tuple #[e.2.1,.bool true] else e.2.1,σ)
      |none=>some (if ok then .tuple #[z,.bool false] else z,σ))=some (u,σ)→Q9 (.ext (.lookup mk z ok x i)) evV σ=some (u,σ):=fun u hu=>by
      simp only[Q9,Z3,bF,if_true,ha.1,h2,aG,hall];exact hu
     cases ok with
     |true =>
      simp only[if_true] at h;obtain⟨rfl,rfl⟩:=QP h;rcases aH with⟨e,k1,k2,k3⟩|⟨k1,k2,k3⟩
      ·refine⟨.tuple #[e.2.1,.bool true],base _ (by rw[k1];rfl),?_⟩;simp only[SR];refine⟨[e.2.1,.bool true],rfl,?_⟩;simp only[SRs,SR];exact⟨_,_,rfl,J0 k3,_,_,rfl,by simp[KC,k2],rfl⟩
      ·refine⟨.tuple #[z,.bool false],base _ (by rw[k1];rfl),?_⟩;simp only[SR];refine⟨[z,.bool false],rfl,?_⟩;simp only[SRs,SR];exact⟨_,_,rfl,by rw[k3];exact J0 pG,_,_,rfl,by simp[KC,k2],rfl⟩
     |false =>
      simp only[Bool.false_eq_true,if_false] at h;obtain⟨rfl,rfl⟩:=QP h;rcases aH with⟨e,k1,k2,k3⟩|⟨k1,k2,k3⟩
      ·exact⟨e.2.1,base _ (by rw[k1];rfl),J0 k3⟩
      ·exact⟨z,base _ (by rw[k1];rfl),by rw[k3];exact J0 pG⟩
    ·cases h
   ·cases h
  ·cases h
 ·cases h
theorem AR (ai:∀ x,SR P B pl tb (ev x) (evV x)) {x:Operand}(ax:∀ d,OR P B pl tb σ (pl d) (Qg own d)) (h:gq kt raw (.ext (.lenMap x)) ev own=some (cs,v)):QOk P B pl tb σ (.ext (.lenMap x)) evV v:=by
 have ha:=ai x;simp only[gq] at h;split at h
 ·rename_i o h1;rw[h1] at ha;simp only[SR] at ha;have ao:=ax o;split at h
  ·rename_i kk vk m ho;rw[ho] at ao;obtain⟨id,es,clock,h2,h3,h4⟩:=ao;obtain⟨rfl,rfl⟩:=QP h;have aG:σ.mapAt id=some (es,clock,true):=by simp[Heap.mapAt,h3]
   refine⟨.int .i64 es.length,by simp only[Q9,Z3,ha.1,h2,aG],?_⟩;rw[h4.1.length];exact Jo _ _
  ·cases h
 ·cases h
theorem MR.at {kk vk:Kind}:∀ {m:List (kk.T×vk.T)}{es:List J1}{r:Nat}{e:J1},MR B kk vk m es→es[r]?=some e→∃ h:r<m.length,KV B kk m[r].1 e.1∧KV B vk m[r].2 e.2.1
 |[],es,r,e,h,he=>by simp only[MR] at h;subst h;simp at he
 |x::m,es,r,e,h,he=>by
  obtain⟨e',bK,rfl,h1,h2,h3⟩:=h;cases r with
  |zero=>simp only[List.getElem?_cons_zero,Option.some.injEq] at he;subst he;exact⟨by simp,h1,h2⟩
  |succ r =>obtain⟨k1,k2,k3⟩:=MR.at h3 (by simpa using he);exact⟨by simpa using k1,k2,k3⟩
theorem Nu:∀ {k:Kind},k.keyk=true→∀ {x:k.T}{cs:List Value},KC B k x cs→cs.all QK=true
 |.pair a b,hk,x,cs,h=>by simp only[Kind.keyk,Bool.and_eq_true] at hk;obtain⟨c1,c2,rfl,h1,h2⟩:=h;rw[List.all_append,Nu hk.1 h1,Nu hk.2 h2];rfl
 |.i _,_,x,cs,h=>by simp only[KC] at h;subst h;rfl
 |.bo,_,x,cs,h=>by simp only[KC] at h;subst h;rfl
 |.st,_,x,cs,h=>by simp only[KC] at h;subst h;rfl
 |.list _,hk,_,_,_=>by cases hk
theorem PJ {k:Kind}(hk:k.keyk=true) {x:k.T}{v:Value}(h:KV B k x v):Yi v=true:=by
 rcases h with⟨ho,h⟩|⟨ho,cs,rfl,h⟩
 ·have:=Nu hk h;rw[List.all_cons,Bool.and_eq_true] at this;have hp:=this.1;cases v<;>first|exact hp|cases hp
 ·show cs.toArray.toList.all QK=true;exact Nu hk h
theorem U_ {es:List J1}{clock:Nat}(h:SOk es clock) {r r':Nat}{e e':J1}(h1:es[r]?=some e) (h2:es[r']?=some e') (he:e.2.2=e'.2.2):r=r':=by
 obtain⟨k1,rfl⟩:=List.getElem?_eq_some_iff.1 h1;obtain⟨k2,rfl⟩:=List.getElem?_eq_some_iff.1 h2;have:=h.1;rw[List.nodup_iff_pairwise_ne,List.pairwise_iff_getElem] at this;rcases Nat.lt_trichotomy r r' with ah|ah|ah
 ·exact absurd (by rw[List.getElem_map,List.getElem_map];exact he) (this r r' (by simpa using k1) (by simpa using k2) ah)
 ·exact ah
 ·exact absurd (by rw[List.getElem_map,List.getElem_map];exact he.symm) (this r' r (by simpa using k2) (by simpa using k1) ah)
theorem SU {es:List J1}{clock:Nat}(h:SOk es clock) {r:Nat}{e:J1}(h1:es[r]?=some e):es.find? (fun e'=>e'.2.2==e.2.2)=some e:=by
 obtain⟨k1,rfl⟩:=List.getElem?_eq_some_iff.1 h1;rw[List.find?_eq_some_iff_getElem];refine⟨by simp,r,k1,rfl,fun j hj=>?_⟩;have bZ:j<es.length:=by omega
 simp only[Bool.not_eq_true',beq_eq_false_iff_ne];intro he;have:=U_ h (List.getElem?_eq_getElem bZ) h1 he;omega
theorem Fy (ai:∀ x,SR P B pl tb (ev x) (evV x)) (hle:B.Le σ) (ax:∀ d,OR P B pl tb σ (pl d) (Qg own d)) {x:Operand}(h:gq kt raw (.ext (.entry x)) ev own=some (cs,v)) (hc:∀ c∈cs,c):QOk P B pl tb σ (.ext (.entry x)) evV v:=by
 simp only[gq] at h;split at h
 ·rename_i o f h1;split at h
  ·rename_i kk vk m dn ho;split at h
   ·rename_i ak;obtain⟨rfl,hk,hv⟩:=ak;obtain⟨rfl,rfl⟩:=QP h;have mS:dn≠[]:=hc _ (by simp);have e1:=ai x;rw[h1] at e1;simp only[SR] at e1;obtain⟨b,e2,e3⟩:=e1;have ao:=ax o;rw[ho] at ao;obtain⟨j,i,es,clock,wr,seen,h2,h3,h4,h5,h6⟩:=ao;rw[h2] at e2;obtain rfl:j=b:=by simpa using e2
    have d_:0<dn.length:=List.length_pos_iff.2 mS;have dp:dn[dn.length-1]?=some (dn.getLastD 0):=by rw[List.getLastD_eq_getLast?,List.getLast?_eq_getElem?];rw[List.getElem?_eq_getElem (show dn.length-1<dn.length by omega)];rfl
    obtain⟨e,jk,iC⟩:=h6.2 _ _ dp;have eE:seen.getLast?=some e.2.2:=by rw[List.getLast?_eq_getElem?,h6.1];exact iC
    obtain⟨hr,k1,k2⟩:=MR.at h5.1 jk;have k2:=k2.kc hv;have aG:σ.mapAt i=some (es,clock,wr):=by simp[Heap.mapAt,hle.2 _ _ h4]
    have cH:=SU h5.2 jk;refine⟨.tuple #[e.1,e.2.1],?_,?_⟩
    ·simp only[Q9,Z3,e3,h3,aG,eE,cH,if_true];rw[if_pos (PJ hk k1)]
    ·simp only[SR,SRs];refine⟨[e.1,e.2.1],rfl,e.1,[e.2.1],rfl,?_,e.2.1,[],rfl,?_,rfl⟩
     ·have:m.getD (dn.getLastD 0) (kk.dflt,vk.dflt)=m[dn.getLastD 0]:=by rw[List.getD_eq_getElem?_getD,List.getElem?_eq_getElem hr];rfl
      rw[this];exact J0 k1
     ·have:m.getD (dn.getLastD 0) (kk.dflt,vk.dflt)=m[dn.getLastD 0]:=by rw[List.getD_eq_getElem?_getD,List.getElem?_eq_getElem hr];rfl
      rw[this];exact k2
   ·cases h
  ·cases h
 ·cases h
theorem HS (ai:∀ x,SR P B pl tb (ev x) (evV x)) (fB:∀ c,evV (.const c)=c) (hle:B.Le σ) (ax:∀ d,OR P B pl tb σ (pl d) (Qg own d)) {o:VOp}(h:gq kt raw o ev own=some (cs,v)) (hc:∀ c∈cs,c):QOk P B pl tb σ o evV v:=by
 cases o with
 |move x=>obtain⟨rfl,rfl⟩:=QP h;exact⟨evV x,rfl,ai x⟩
 |arith=>exact Fo ai h hc
 |div=>exact Q1a ai h hc
 |bits=>exact IH ai h
 |shift=>exact FJ ai h hc
 |cmp=>exact Q0v ai h
 |str=>exact Q31 ai h hc
 |eqB=>exact Q14 ai h
 |un=>exact Q67 ai h hc
 |convI=>exact Ff ai h hc
 |convS=>exact F2 ai h
 |build=>exact FB ai h
 |load=>exact Iy ai hle ax h
 |fieldAddr=>exact TD ai h
 |field=>exact Fe ai h
 |indexAddr=>exact R6 ai hle ax h hc
 |indexAddrArr=>exact DQ ai fB h
 |indexStr=>exact SJ ai h hc
 |indexArr=>exact SN ai fB h
 |slice=>exact FC ai hle ax h hc
 |sliceStr=>exact Sr ai h hc
 |len=>exact Q3j ai ax h
 |lenStr=>exact E5 ai h
 |max=>exact Q30 ai h
 |max4=>exact Q00 ai h
 |min=>exact Q26 ai h
 |makeFunc=>exact SH ai h
 |extract=>exact Ci ai h
 |nilCheck=>exact SP ai h
 |ext x =>
  cases x with
  |eqNil k neg a b =>
   match k with
   |1=>exact EX ai ax h hc
   |0=>exact Af ai ax h hc
   |(n+2)=>cases h
  |eqAgg n s a b=>exact Fg ai h
  |toUnsafe a=>exact So ai ax h
  |fromUnsafe u size a=>exact Pu ai ax h
  |sliceData a=>exact TG ai ax h hc
  |bytesStr a=>exact SA ai hle ax h
  |lookup=>exact AX ai hle ax h
  |lenMap=>exact AR ai ax h
  |entry a=>exact Fy ai hle ax h hc
  |_=>cases h
 |_=>cases h
end
end
end Go.V