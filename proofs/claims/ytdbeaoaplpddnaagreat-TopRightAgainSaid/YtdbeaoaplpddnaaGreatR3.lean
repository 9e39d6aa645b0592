/- A framework for walks, contracts of functions, and their proofs: part 3. -/
import Derived.Test.YtdbeaoaplpddnaaGreatProg
import Derived.Laws.Closers25b
import Derived.Test.YtdbeaoaplpddnaaGreatR2
namespace Go.V
open Go
structure FRel (e:ET) (env:Env):Prop where
 m:e.m=List.length env
 sm:e.m≤1000000
 get:∀ i,env.getD i undef=e.get i
theorem ET.get_lt {e:ET}{i:Nat}(hi:i<e.m):e.get i=e.t.get undef i:=by unfold ET.get;rw[show Nat.blt i e.m=true from Nat.ble_eq_true_of_le hi]
theorem ET.get_ge {e:ET}{i:Nat}(hi:e.m≤i):e.get i=undef:=by
 unfold ET.get;cases hb:Nat.blt i e.m with
 |false=>rfl
 |true=>have:=Nat.le_of_ble_eq_true hb;omega
theorem ET.set_lt {e:ET}{i:Nat}{v:Value}(hi:i<e.m):e.set i v=⟨e.t.set undef 32 i v,e.m⟩:=by unfold ET.set;rw[show Nat.blt i e.m=true from Nat.ble_eq_true_of_le hi]
theorem ET.set_ge {e:ET}{i:Nat}{v:Value}(hi:e.m≤i):e.set i v=e:=by
 unfold ET.set;cases hb:Nat.blt i e.m with
 |false=>rfl
 |true=>have:=Nat.le_of_ble_eq_true hb;omega
theorem ET.set_m (e:ET) (i:Nat) (v:Value):(e.set i v).m=e.m:=by
 rcases Nat.lt_or_ge i e.m with h|h
 ·rw[ET.set_lt h]
 ·rw[ET.set_ge h]
theorem ET.get_set {e:ET}(hs:e.m≤1000000) (i:Nat) (v:Value) (j:Nat):(e.set i v).get j=if j=i∧i<e.m then v else e.get j:=by
 rcases Nat.lt_or_ge i e.m with hi|hi
 ·rw[ET.set_lt hi];rcases Nat.lt_or_ge j e.m with hj|hj
  ·rw[ET.get_lt (e:=⟨e.t.set undef 32 i v,e.m⟩) hj,ET.get_lt hj];show (e.t.set undef 32 i v).get undef j=_;rw[GT.get_set undef 32 _ _ _ _ (by omega)];by_cases h:j=i
   ·rw[if_pos h,if_pos ⟨h,hi⟩]
   ·rw[if_neg h,if_neg (fun e=>h e.1)]
  ·rw[ET.get_ge (e:=⟨e.t.set undef 32 i v,e.m⟩) hj,ET.get_ge hj,if_neg (by rintro⟨rfl,_⟩;omega)]
 ·rw[ET.set_ge hi,if_neg (by rintro⟨_,h⟩;omega)]
theorem FRel.set {e:ET}{env:Env}(h:FRel e env) (i:Nat) (v:Value):FRel (e.set i v) (env.set i v):=by
 refine⟨by rw[ET.set_m,List.length_set];exact h.m,by rw[ET.set_m];exact h.sm,fun j=>?_⟩;rw[ET.get_set h.sm,←h.get,List.getD_eq_getElem?_getD,List.getD_eq_getElem?_getD,List.getElem?_set,h.m];by_cases bR:i=j
 ·subst bR;rcases Nat.lt_or_ge i (List.length env) with hi|hi
  ·rw[if_pos rfl,if_pos hi,if_pos ⟨rfl,hi⟩];rfl
  ·rw[if_pos rfl,if_neg (by omega),if_neg (by rintro⟨_,h⟩;omega),List.getElem?_eq_none hi]
 ·rw[if_neg bR,if_neg (fun e=>bR e.1.symm)]
theorem FRel.put {e:ET}{env:Env}(h:FRel e env) (d:Option Nat) (v:Value):FRel (e.put d v) (Xt env d v):=by
 cases d with
 |none=>exact h
 |some d=>exact h.set d v
theorem Ps {e:ET}{env:Env}(h:FRel e env):Dd e=Q4 env:=by
 funext x
 cases x with
 |tmp t=>exact(h.get t).symm
 |_=>rfl
theorem IC {e:ET}{env:Env}(h:FRel e env) (g:Option (Nat×Bool)):Q2j e g=Je env g:=by
 cases g with
 |none=>rfl
 |some p =>obtain⟨d,w⟩:=p;simp only[Q2j,Je,h.get];cases e.get d<;>rfl
theorem Lo:∀ (ps:List Nat) (vs:List Value) {e:ET}{env:Env},FRel e env→FRel (Q5q e ps vs) (TQ env ps vs)
 |[],vs,e,env,h=>by cases vs<;>exact h
 |p::ps,[],e,env,h=>h
 |p::ps,v::vs,e,env,h=>Lo ps vs (h.set p v)
theorem Q0p:∀ (l:List Value) (i:Nat) (t:GT Value) (j:Nat),i+l.length≤1000000→(etL l i t).get undef j=if i≤j∧j<i+l.length then l.getD (j-i) undef else t.get undef j
 |[],i,t,j,_=>by rw[if_neg (by simp only[List.length_nil];omega)];rfl
 |v::l,i,t,j,h=>by
  have h:i+(l.length+1)≤1000000:=h;show (etL l (i+1) (t.set undef 32 i v)).get undef j=_;rw[Q0p l (i+1) _ j (by omega),GT.get_set undef 32 _ _ _ _ (by omega)];by_cases aM:j=i
  ·subst aM;rw[if_neg (by omega),if_pos rfl,if_pos (by simp)];simp
  ·by_cases hc:i+1≤j∧j<i+1+l.length
   ·rw[if_pos hc,if_pos (by simp;omega),show j-i=j-(i+1)+1 by omega];rfl
   ·rw[if_neg hc,if_neg aM,if_neg (by simp;omega)]
theorem ET.of_rel {args:List Value}{nt:Nat}(h:(ET.of args nt).m≤1000000):FRel (ET.of args nt) (args++List.replicate (nt-args.length) undef):=by
 refine⟨by simp[ET.of],h,fun i=>?_⟩;have hm:(ET.of args nt).m=args.length+(nt-args.length):=rfl;rw[hm] at h;rcases Nat.lt_or_ge i (ET.of args nt).m with hi|hi
 ·rw[ET.get_lt hi];show _=(etL args 0 .nil).get undef i;rw[Q0p _ _ _ _ (by omega),List.getD_eq_getElem?_getD,List.getElem?_append];rw[hm] at hi;by_cases hl:i<args.length
  ·rw[if_pos hl,if_pos (by omega)];simp[List.getD_eq_getElem?_getD]
  ·rw[if_neg hl,if_neg (by omega),List.getElem?_replicate,if_pos (by omega)];rfl
 ·rw[ET.get_ge hi];rw[hm] at hi;rw[List.getD_eq_getElem?_getD,List.getElem?_eq_none (by simp;omega)];rfl
def Q1j (P:Program) (f:FuncId) (m:Memo):Prop :=
 VCalled P f m.args (Wt m.bl []) (fun u τ=>u=m.v∧τ=Wt m.bl m.fr)∧(∀ b∈m.bl,b.c.all QW=true)∧∀ b∈m.fr,b.c.all QW=true
structure TabOk (P:Program) (T:Tab):Prop where
 code:∀ f vc rs nt,T f=some (.code vc rs nt)→Fun P f vc rs nt
 codeJ:∀ f vc rs nt,T f=some (.codeJ vc rs nt)→Fun P f vc rs nt
 codeM:∀ f vc rs nt ms,T f=some (.codeM vc rs nt ms)→Fun P f vc rs nt∧∀ m∈ms,Q1j P f m
 same:∀ f,T f=some .same→∀ (v:Value) (σ:Heap) (K:Value→Heap→Prop),K v σ→VCalled P f [v] σ K
section
variable {P:Program}{T:Tab}{ev:Q7b}
abbrev Nz:=Nat→Env×Loop
def YOk (P:Program) (ys:Ys) (rs:Nz) (n:Nat):Prop :=
 ∀ i c,ys.find i=some c→i<n∧FRel c.env (rs i).1∧Kx P i (IA (vwp (Q3 P) c.a (some i)) (vwp (Q3 P) c.b (some i)) c.ps (rs i).1 (rs i).2 i)
theorem YOk.mono {ys:Ys}{rs bw:Nz}{n n':Nat}(h:YOk P ys rs n) (hn:n≤n') (hr:∀ i,i<n→bw i=rs i):YOk P ys bw n':=fun i c hc=>by obtain⟨h1,h2,h3⟩:=h i c hc;rw[hr i h1];exact⟨by omega,h2,h3⟩
def Q7l {A:Type}(G:A→Prop) (rs:Nz) (h:CH) (k:Value→CH→A) (K:Value→Heap→Prop):Prop :=
 ∀ v h' bw σ',h.n≤h'.n→(∀ i,i<h.n→bw i=rs i)→CSim bw h' σ'→G (k v h')→K v σ'
def Q3u {A:Type}(G:A→Prop) (rs:Nz) (h:CH) (m:Nat) (k:Exit→ET→CH→A) (Q:Exit→Env→Heap→Prop):Prop :=
 ∀ e dJ h' bw σ' ae,h.n≤h'.n→(∀ i,i<h.n→bw i=rs i)→CSim bw h' σ'→FRel dJ ae→List.length ae=m→G (k e dJ h')→Q e ae σ'
def Q3w {A:Type}(G:A→Prop) (rs:Nz) (h:CH) (m:Nat) (k:ET→CH→A) (K:Env→Heap→Prop):Prop :=
 ∀ dJ h' bw σ' ae,h.n≤h'.n→(∀ i,i<h.n→bw i=rs i)→CSim bw h' σ'→FRel dJ ae→List.length ae=m→G (k dJ h')→K ae σ'
def Sd (P:Program) (ev:Q7b):Prop:=∀ {A:Type}(R:AnsOps A) (G:A→Prop),Good R G→∀ (ys:Ys) (c:VCode) (ro:Option Nat) (et:ET) (env:Env) (h:CH) (k:Exit→ET→CH→A) (rs:Nz) (σ:Heap) (Q:Exit→Env→Heap→Prop),
 YOk P ys rs h.n→CSim rs h σ→FRel et env→G (ev R ys c ro et h k)→Q3u G rs h (List.length env) k Q→vwp (Q3 P) c ro Q env σ
theorem DK {rs:Nz}{h:CH}{σ:Heap}(hs:CSim rs h σ) {et:ET}{env:Env}(hE:FRel et env) {r:VResult}{v:Value}(hr:R4 et h r=some v):JJ env σ r=some v:=by
 cases r with
 |tmp t=>simp only[R4] at hr;simp only[JJ,hE.get];exact hr
 |cell a agg size =>
  simp only[R4] at hr;split at hr
  ·rename_i p hp;rw[←hE.get] at hp;obtain⟨_,σ',h1,_⟩:=Ko (o:=.load agg size (.tmp a)) (ev:=Q4 env) hs hp;simp only[JJ,h1,Option.map_some];exact hr
  ·cases hr
theorem GW {rs:Nz}{h:CH}{σ:Heap}(hs:CSim rs h σ) {et:ET}{env:Env}(hE:FRel et env):∀ (l:List VResult) (vs:List Value),BO et h l=some vs→l.mapM (JJ env σ)=some vs
 |[],vs,hr=>by simp[BO] at hr;subst hr;rfl
 |r::l,vs,hr=>by
  simp only[BO] at hr;split at hr
  ·cases hr
  ·rename_i v hv;split at hr
   ·cases hr
   ·rename_i ws hw;obtain rfl:=osj hr;rw[List.mapM_cons,DK hs hE hv];simp[GW hs hE l ws hw]
theorem Gw {rs:Nz}{h:CH}{σ:Heap}(hs:CSim rs h σ) {et:ET}{env:Env}(hE:FRel et env) {l:List VResult}{v:Value}(hr:M_ et h l=some v):JT env σ l=some v:=by
 unfold M_ at hr;split at hr
 ·exact DK hs hE hr
 ·rename_i aA;split at hr
  ·rename_i vs cH;unfold JT;split
   ·rename_i r;exact absurd rfl (aA r)
   ·rw[GW hs hE _ _ cH];exact hr
  ·cases hr
variable {A:Type}{R:AnsOps A}{G:A→Prop}
theorem MY (hG:Good R G) {rl:List VResult}{k:Value→CH→A}{rs:Nz}{h:CH}{σ:Heap}{K:Value→Heap→Prop}{m:Nat}(hk:Q7l G rs h k K):Q3u G rs h m (Q3r R.fail rl k) (Z14 σ rl K):=by
 intro e dJ h' bw σ' ae hn hr a9 bW _ hg;have fin:G (match M_ dJ h' rl with|some v=>k v h'|none=>R.fail)→Zg (JT ae σ' rl) fun v=>∃ v' aJ,DropTo σ v σ' v' aJ∧K v' aJ:=by
  intro hg;split at hg
  ·rename_i v hv;rw[Gw a9 bW hv];exact⟨v,σ',.refl _ _ _,hk v h' bw σ' hn hr a9 hg⟩
  ·exact(hG.fail hg).elim
 cases e with
 |normal=>exact fin hg
 |ret=>exact fin hg
 |_=>exact(hG.fail hg).elim
noncomputable def CH.toHeap (rs:Nz) (h:CH):Heap:=⟨fun i=>(h.get i).map (EB.to (rs i)),h.n,fun i hi=>by rw[CH.get_ge hi];rfl⟩
theorem H7 {rs:Nz}{h:CH}(hr:h.n≤1000000001):CSim rs h (h.toHeap rs):=⟨rfl,hr,fun _=>rfl⟩
theorem CSim.eq {rs:Nz}{h:CH}{σ:Heap}(hs:CSim rs h σ):σ=h.toHeap rs:=Heap.ext' (fun j=>hs.get j) hs.n.symm
def Oe (x:Value×CH) (a:Option (Value×CH)):Prop:=∃ y,a=some y∧y.1=x.1∧y.2.n=x.2.n∧∀ i,y.2.get i=x.2.get i
theorem Q33 {h h':CH}(hs:h.same h'=true):h.n=h'.n∧∀ i,h.get i=h'.get i:=by
 simp only[CH.same,Bool.and_eq_true,List.all_eq_true,List.mem_range,Nat.beq_eq] at hs;refine⟨hs.1,fun i=>?_⟩;rcases Nat.lt_or_ge i h.n with hi|hi
 ·have:=hs.2 i hi;split at this
  ·rename_i h1 h2;rw[h1,h2]
  ·rename_i a b h1 h2;rw[h1,h2,EB.beq_eq this]
  ·cases this
 ·rw[CH.get_ge hi,CH.get_ge (by rw[←hs.1];exact hi)]
theorem LM (x:Value×CH):Good joinOps (Oe x):=by
 refine⟨fun ⟨y,h,_⟩=>(by cases h),fun a b h=>?_⟩;obtain⟨y,h1,h2,h3,h4⟩:=h;cases a with
 |none=>cases h1
 |some xa =>
  cases b with
  |none=>cases h1
  |some xb =>
   simp only[joinOps] at h1;split at h1
   ·rename_i hc;obtain rfl:=osj h1;have e1:=Du _ _ _ hc.1;obtain⟨e2,e3⟩:=Q33 hc.2;exact⟨⟨xa,rfl,h2,h3,h4⟩,xb,rfl,by rw[←e1];exact h2,by rw[←e2];exact h3,fun i=>by rw[←e3 i];exact h4 i⟩
   ·cases h1
theorem Q2u {b:EB}{q:Env×Loop}(h:b.plainE=true):(b.to q).plain=true∧∀ q',b.to q'=b.to q:=by cases b<;>first|exact⟨h,fun _=>rfl⟩|cases h
def gcP (n0:Nat) (refs:List Nat) (i:Nat):Nat:=if i<n0 then i else refs.getD (i-n0) 0
def RExt (n0:Nat) (a b:List Nat):Prop:=(∃ t,b=a++t∧∀ x∈t,n0≤x)∧(a.Nodup→b.Nodup)
theorem RExt.refl (n0:Nat) (a:List Nat):RExt n0 a a:=⟨⟨[],by simp,fun x hx=>by cases hx⟩,id⟩
theorem RExt.trans {n0:Nat}{a b c:List Nat}(h:RExt n0 a b) (k:RExt n0 b c):RExt n0 a c:=by obtain⟨⟨t,rfl,ht⟩,h2⟩:=h;obtain⟨⟨u,rfl,hu⟩,k2⟩:=k;exact⟨⟨t++u,by simp,fun x hx=>(List.mem_append.1 hx).elim (ht x) (hu x)⟩,fun h=>k2 (h2 h)⟩
def Sub (a b:List Nat):Prop:=∃ t,b=a++t
theorem Sub.trans {a b c:List Nat}(h:Sub a b) (k:Sub b c):Sub a c:=by obtain⟨t,rfl⟩:=h;obtain⟨u,rfl⟩:=k;exact⟨t++u,by simp⟩
theorem RExt.sub {n0:Nat}{a b:List Nat}(h:RExt n0 a b):Sub a b:=by obtain⟨⟨t,h,_⟩,_⟩:=h;exact⟨t,h⟩
theorem Cw (n0:Nat) (refs:List Nat) (i:Nat):RExt n0 refs (gcI n0 refs i).2∧∀ (all:List Nat),Sub (gcI n0 refs i).2 all→(gcI n0 refs i).1<n0+all.length∧gcP n0 all (gcI n0 refs i).1=i:=by
 unfold gcI;split
 ·rename_i hi;exact⟨RExt.refl _ _,fun all _=>⟨by simp only;omega,by simp[gcP,hi]⟩⟩
 ·rename_i hi;split
  ·rename_i hc;have hm:i∈refs:=by simpa using hc
   have ah:=List.idxOf_lt_length_of_mem hm;refine⟨RExt.refl _ _,fun all ⟨t,ht⟩=>?_⟩;simp only at ht;have bY:refs.idxOf i<all.length:=by rw[ht,List.length_append];omega
   refine⟨by simp only;omega,?_⟩;simp only[gcP,if_neg (show ¬ n0+refs.idxOf i<n0 by omega),show n0+refs.idxOf i-n0=refs.idxOf i by omega,List.getD_eq_getElem?_getD];rw[ht,List.getElem?_append_left ah,List.getElem?_eq_getElem ah];simp
  ·rename_i hc;have hm:i∉refs:=by simpa using hc
   refine⟨⟨⟨[i],rfl,fun x hx=>by simp at hx;omega⟩,fun h1=>List.nodup_append.2 ⟨h1,by simp,fun a ha b hb=>by simp at hb;subst hb;rintro rfl;exact hm ha⟩⟩,fun all ⟨t,ht⟩=>?_⟩;simp only at ht;have ah:refs.length<all.length:=by rw[ht];simp
   refine⟨by simp only;omega,?_⟩;simp only[gcP,if_neg (show ¬ n0+refs.length<n0 by omega),show n0+refs.length-n0=refs.length by omega];simp[ht,List.getD_eq_getElem?_getD]
def Z0i (n0:Nat) (refs fz:List Nat) (v' v:Value):Prop:=RExt n0 refs fz∧∀ (all:List Nat),Sub fz all→Ren (n0+all.length) (gcP n0 all) v' v
def Z1r (n0:Nat) (refs fz:List Nat) (v' v:List Value):Prop:=RExt n0 refs fz∧∀ (all:List Nat),Sub fz all→LRen (n0+all.length) (gcP n0 all) v' v
theorem KZ {n0:Nat}{g:List Nat→Value→Option (Value×List Nat)}(hg:∀ refs v p,g refs v=some p→Z0i n0 refs p.2 p.1 v):∀ (vs:List Value) (refs:List Nat) (p:List Value×List Nat),Q45 g vs refs=some p→Z1r n0 refs p.2 p.1 vs
 |[],refs,p,h=>by obtain rfl:=osj h;exact⟨RExt.refl _ _,fun all _=>⟨rfl,fun i a b ha=>by simp at ha⟩⟩
 |v::vs,refs,p,h=>by
  simp only[Q45] at h;split at h
  ·cases h
  ·rename_i p1 h1;split at h
   ·cases h
   ·rename_i p2 h2;obtain rfl:=osj h;obtain⟨a1,a2⟩:=hg _ _ _ h1;obtain⟨b1,b2⟩:=KZ hg vs _ _ h2;refine⟨a1.trans b1,fun all af=>?_⟩;have c1:=a2 all (b1.sub.trans af);have c2:=b2 all af;refine⟨by simp[c2.1],fun i a b ha hb=>?_⟩;cases i with
    |zero=>simp at ha hb;subst ha;subst hb;exact c1
    |succ i=>exact c2.2 i a b (by simpa using ha) (by simpa using hb)
theorem LRen.agg {n:Nat}{π:Nat→Nat}{c_:List Value}{cs:Array Value}(h:LRen n π c_ cs.toList):Ren n π (.agg c_.toArray) (.agg cs) :=
 .agg _ _ (by simpa using h.1) fun i h1 h2=>h.2 i _ _ (by simp) (by simp)
theorem LRen.tuple {n:Nat}{π:Nat→Nat}{c_:List Value}{cs:Array Value}(h:LRen n π c_ cs.toList):Ren n π (.tuple c_.toArray) (.tuple cs) :=
 .tuple _ _ (by simpa using h.1) fun i h1 h2=>h.2 i _ _ (by simp) (by simp)
theorem Pw (n0:Nat):∀ (f:Nat) (refs:List Nat) (v:Value) (p:Value×List Nat),gcX n0 f refs v=some p→Z0i n0 refs p.2 p.1 v:=by
 intro f;induction f with
 |zero=>intro refs v p h;cases h
 |succ f ih =>
  intro refs v p h;unfold gcX at h;split at h
  ·rename_i i o;obtain rfl:=osj h;obtain⟨h1,h2⟩:=Cw n0 refs i;refine⟨h1,fun all af=>?_⟩;obtain⟨k1,k2⟩:=h2 all af;have:=Ren.ptr (n:=n0+all.length) (π:=gcP n0 all) (gcI n0 refs i).1 o k1
   rwa [k2] at this
  ·rename_i i o l c;obtain rfl:=osj h;obtain⟨h1,h2⟩:=Cw n0 refs i;refine⟨h1,fun all af=>?_⟩;obtain⟨k1,k2⟩:=h2 all af;have:=Ren.sl (n:=n0+all.length) (π:=gcP n0 all) (gcI n0 refs i).1 o l c k1
   rwa [k2] at this
  ·rename_i i;obtain rfl:=osj h;obtain⟨h1,h2⟩:=Cw n0 refs i;refine⟨h1,fun all af=>?_⟩;obtain⟨k1,k2⟩:=h2 all af;have:=Ren.map (n:=n0+all.length) (π:=gcP n0 all) (gcI n0 refs i).1 k1
   rwa [k2] at this
  ·obtain rfl:=osj h;exact⟨RExt.refl _ _,fun all _=>.poison _⟩
  ·split at h
   ·rename_i q hq;obtain rfl:=osj h;obtain⟨h1,h2⟩:=ih _ _ _ hq;exact⟨h1,fun all af=>.iface _ _ _ (h2 all af)⟩
   ·cases h
  ·split at h
   ·rename_i q hq;obtain rfl:=osj h;obtain⟨h1,h2⟩:=KZ ih _ _ _ hq;exact⟨h1,fun all af=>(h2 all af).agg⟩
   ·cases h
  ·split at h
   ·rename_i q hq;obtain rfl:=osj h;obtain⟨h1,h2⟩:=KZ ih _ _ _ hq;exact⟨h1,fun all af=>(h2 all af).tuple⟩
   ·cases h
  ·split at h
   ·rename_i q hq;split at h
    ·rename_i q2 pA;obtain rfl:=osj h;obtain⟨h1,h2⟩:=KZ ih _ _ _ hq;obtain⟨h3,h4⟩:=KZ ih _ _ _ pA;refine⟨h1.trans h3,fun all af=>?_⟩;have c1:=h2 all (h3.sub.trans af);have c2:=h4 all af;exact .func _ _ _ _ _ (by simpa using c1.1) (by simpa using c2.1) (fun i h1 h2=>c1.2 i _ _ (by simp) (by simp)) (fun i h1 h2=>c2.2 i _ _ (by simp) (by simp))
    ·cases h
   ·cases h
  ·split at h
   ·rename_i hp;obtain rfl:=osj h;exact⟨RExt.refl _ _,fun all _=>.plain _ hp⟩
   ·cases h
theorem EA (n0:Nat):∀ (es:List JP) (refs:List Nat) (p:List JP×List Nat),Z15 n0 es refs=some p→RExt n0 refs p.2∧∀ (all:List Nat),Sub p.2 all →
  p.1.length=es.length∧∀ (k:Nat) (a b:JP),p.1[k]?=some a→es[k]?=some b→a.1=b.1∧a.2.2=b.2.2∧Ren (n0+all.length) (gcP n0 all) a.2.1 b.2.1
 |[],refs,p,h=>by obtain rfl:=osj h;exact⟨RExt.refl _ _,fun all _=>⟨rfl,fun i a b ha=>by simp at ha⟩⟩
 |e::es,refs,p,h=>by
  simp only[Z15] at h;split at h
  ·cases h
  ·rename_i p1 h1;split at h
   ·cases h
   ·rename_i p2 h2;obtain rfl:=osj h;obtain⟨a1,a2⟩:=Pw n0 _ _ _ _ h1;obtain⟨b1,b2⟩:=EA n0 es _ _ h2;refine⟨a1.trans b1,fun all af=>?_⟩;have c1:=a2 all (b1.sub.trans af);obtain⟨c2,c3⟩:=b2 all af;refine⟨by simp[c2],fun i a b ha hb=>?_⟩;cases i with
    |zero=>simp at ha hb;subst ha;subst hb;exact⟨rfl,rfl,c1⟩
    |succ i=>exact c3 i a b (by simpa using ha) (by simpa using hb)
theorem Q4a {n0:Nat}{refs:List Nat}{b:EB}{p:EB×List Nat}(h:gcB n0 refs b=some p):RExt n0 refs p.2∧∀ (all:List Nat),Sub p.2 all→∀ q q',BRen (n0+all.length) (gcP n0 all) (p.1.to q') (b.to q):=by
 unfold gcB at h;split at h
 ·split at h
  ·rename_i q hq;obtain rfl:=osj h;obtain⟨h1,h2⟩:=KZ (Pw n0 8) _ _ _ hq;exact⟨h1,fun all af _ _=>⟨rfl,rfl,rfl,h2 all af⟩⟩
  ·cases h
 ·split at h
  ·rename_i q hq;obtain rfl:=osj h;obtain⟨h1,h2⟩:=EA n0 _ _ _ hq;exact⟨h1,fun all af _ _=>⟨rfl,rfl,(h2 all af).1,(h2 all af).2⟩⟩
  ·cases h
 ·cases h
theorem Oy {h':CH}{n0:Nat}:∀ (f k:Nat) (refs:List Nat) (acc:CH) (r:CH×List Nat),Q3c h' n0 f k refs acc=some r→acc.n=n0+k→acc.n≤1000000001 →
  RExt n0 refs r.2∧r.1.n=n0+r.2.length∧r.1.n≤1000000001∧(∀ i,i<acc.n→r.1.get i=acc.get i) ∧
  ∀ j,k≤j→j<r.2.length→∃ b b',h'.get (r.2.getD j 0)=some b∧r.1.get (n0+j)=some b'∧∀ q q',BRen (n0+r.2.length) (gcP n0 r.2) (b'.to q') (b.to q):=by
 intro f;induction f with
 |zero=>intro k refs acc r h;cases h
 |succ f ih =>
  intro k refs acc r h hn hs;simp only[Q3c] at h;split at h
  ·split at h
   ·rename_i hk;obtain rfl:=osj h;exact⟨RExt.refl _ _,by rw[hn,hk],hs,fun _ _=>rfl,fun j h1 h2=>by simp only at h2;omega⟩
   ·cases h
  ·rename_i hk;split at h
   ·cases h
   ·rename_i b hb;split at h
    ·cases h
    ·rename_i p hp;split at h
     ·rename_i aY;have aY:acc.n≤1000000000:=Nat.le_of_ble_eq_true aY;obtain⟨a1,a2⟩:=Q4a hp;have jk:(acc.push p.1).n=acc.n+1:=rfl;obtain⟨b1,b2,b3,b4,b5⟩:=ih (k+1) p.2 (acc.push p.1) r h (by rw[jk];omega) (by rw[jk];omega);refine⟨a1.trans b1,b2,b3,fun i hi=>?_,fun j jM ec=>?_⟩
      ·rw[b4 i (by rw[jk];omega),CH.get_push hs,if_neg (by omega)]
      ·by_cases d_:j=k
       ·subst d_;have bc:j<refs.length:=by omega
        obtain⟨t,ht⟩:=(a1.trans b1).sub;have hg:r.2.getD j 0=refs.getD j 0:=by rw[ht,List.getD_eq_getElem?_getD,List.getD_eq_getElem?_getD,List.getElem?_append_left bc]
        refine⟨b,p.1,by rw[hg];exact hb,?_,a2 r.2 b1.sub⟩;rw[←hn,b4 _ (by rw[jk];omega),CH.get_push hs,if_pos rfl]
       ·exact b5 j (by omega) ec
     ·cases h
theorem Hv {rs bw:Nz}{h h':CH}{σ σ':Heap}(hs:CSim rs h σ) (a9:CSim bw h' σ') (hr:∀ i,i<h.n→bw i=rs i) {v:Value}{y x:Value×CH}(hg:ED h h' v=some y) (h1:y.1=x.1) (h2:y.2.n=x.2.n) (h3:∀ i,y.2.get i=x.2.get i) :
  DropTo σ v σ' x.1 (x.2.toHeap rs):=by
 unfold ED at hg;split at hg
 ·cases hg
 ·rename_i p hp;split at hg
  ·cases hg
  ·rename_i q hq;obtain rfl:=osj hg;simp only at h1 h2 h3;obtain⟨f1,f2⟩:=Pw h.n 8 [] v p hp;unfold Q59 at hq;split at hq
   ·rename_i dW;simp only[CH.keepOk,Bool.and_eq_true,List.all_eq_true,List.mem_range] at dW;obtain⟨hle,dW⟩:=dW;have hle:h.n≤h'.n:=Nat.le_of_ble_eq_true hle;have pz:=hs.sm;obtain⟨g0,g1,g2,g3,g4⟩:=Oy _ 0 p.2 ⟨h'.t,h.n⟩ q hq rfl pz;have af:=f1.trans g0;have fx:q.2.Nodup:=af.2 List.nodup_nil;have bg:∀ x∈q.2,h.n≤x:=by
     obtain⟨⟨t,ht,hx⟩,_⟩:=af;simpa [ht] using hx
    have hold:∀ i,i<h.n→q.1.get i=h'.get i:=fun i hi=>by rw[g3 i hi,CH.get_lt (h:=⟨h'.t,h.n⟩) hi,CH.get_lt (by omega)]
    have jF:(x.2.toHeap rs).n=h.n+q.2.length:=by show x.2.n=_;rw[←h2,g1]
    have sE:∀ i,(x.2.toHeap rs).get i=(q.1.get i).map (EB.to (rs i)):=fun i=>by show (x.2.get i).map _=_;rw[←h3 i]
    rw[←h1];refine DropTo.rename (gcP h.n q.2) (by rw[jF,←hs.n];omega) (fun i hi=>?_) (fun i kC ij=>?_) (fun i j kC ij jM ec he=>?_) (by rw[jF];exact f2 q.2 g0.sub)
    ·rw[←hs.n] at hi;refine⟨by simp[gcP,hi],by rw[sE,hold i hi,a9.get,hr i hi],?_⟩;have:=dW i hi;rw[a9.get,hs.get];split at this
     ·rename_i e1 e2;rw[e1,e2];exact .inl rfl
     ·rename_i a b e1 e2;rw[e1,e2];rw[Bool.or_eq_true] at this;rcases this with hb|hb
      ·exact .inr ⟨_,rfl,(Q2u hb).1⟩
      ·rw[EB.beq_eq hb,hr i hi];exact .inl rfl
     ·cases this
    ·rw[←hs.n] at kC;rw[jF] at ij;obtain⟨b,b',e1,e2,e3⟩:=g4 (i-h.n) (by omega) (by omega);have jm:gcP h.n q.2 i=q.2.getD (i-h.n) 0:=by simp[gcP,Nat.not_lt.2 kC]
     have aP:q.2.getD (i-h.n) 0∈q.2:=by
      have:i-h.n<q.2.length:=by omega
      simp[List.getD_eq_getElem?_getD,this]
     rw[show h.n+(i-h.n)=i by omega] at e2;rw[jm];refine⟨by rw[←hs.n];exact bg _ aP,b'.to (rs i),b.to (bw (q.2.getD (i-h.n) 0)),by rw[sE,e2];rfl,by rw[a9.get,e1];rfl,by rw[jF];exact e3 _ _⟩
    ·rw[←hs.n] at kC jM;rw[jF] at ij ec;simp only[gcP,Nat.not_lt.2 kC,Nat.not_lt.2 jM,if_false] at he;have g7:i-h.n<q.2.length:=by omega
     have g8:j-h.n<q.2.length:=by omega
     simp only[List.getD_eq_getElem?_getD,List.getElem?_eq_getElem g7,List.getElem?_eq_getElem g8,Option.getD_some] at he;have:=(List.getElem_inj (h₀:=g7) (h₁:=g8) fx).1 he;omega
   ·cases hq
theorem PL {a m d:Nat}{g:Value→Option Value}(hg:∀ v u,g v=some u→Sh a m d v u):∀ (vs us:List Value),Q7r g vs=some us→vs.length=us.length∧∀ (i:Nat) (v u:Value),vs[i]?=some v→us[i]?=some u→Sh a m d v u
 |[],us,h=>by obtain rfl:=osj h;exact⟨rfl,fun i v u h=>by simp at h⟩
 |v::vs,us,h=>by
  simp only[Q7r] at h;split at h
  ·cases h
  ·rename_i u hu;split at h
   ·cases h
   ·rename_i mv eD;obtain rfl:=osj h;obtain⟨h1,h2⟩:=PL hg vs mv eD;refine⟨by simp[h1],fun i v' u' gm cD=>?_⟩;cases i with
    |zero=>simp at gm cD;subst gm;subst cD;exact hg _ _ hu
    |succ i=>exact h2 i v' u' (by simpa using gm) (by simpa using cD)
theorem Q3n (a m d:Nat):∀ (f:Nat) (v u:Value),shX a m d f v=some u→Sh a m d v u:=by
 intro f;induction f with
 |zero=>intro v u h;cases h
 |succ f ih =>
  intro v u h;unfold shX at h;split at h
  ·split at h
   ·rename_i hc;obtain rfl:=osj h;exact .ptr _ _ hc.1 hc.2
   ·cases h
  ·split at h
   ·rename_i hc;obtain rfl:=osj h;exact .sl _ _ _ _ hc.1 hc.2
   ·cases h
  ·split at h
   ·rename_i p hp;obtain rfl:=osj h;obtain⟨h1,h2⟩:=PL ih _ _ hp;exact .agg _ _ (by simpa using h1) fun i k1 k2=>h2 i _ _ (by simp) (by simp)
   ·cases h
  ·split at h
   ·rename_i p hp;obtain rfl:=osj h;obtain⟨h1,h2⟩:=PL ih _ _ hp;exact .tuple _ _ (by simpa using h1) fun i k1 k2=>h2 i _ _ (by simp) (by simp)
   ·cases h
  ·split at h
   ·rename_i hc;obtain rfl:=osj h;exact .plain _ hc
   ·cases h
theorem Q0h {rs:Nz}{h:CH}{σ:Heap}(hs:CSim rs h σ) {i:Nat}{b:PB}(hb:Z1s h i b=true):∃ wr,σ.get i=some (b.blk wr):=by
 unfold Z1s at hb;split at hb
 ·rename_i c e w t hg;simp only[Bool.and_eq_true,decide_eq_true_eq,beq_iff_eq] at hb;obtain⟨rfl,rfl,h3⟩:=hb;obtain rfl:=UL (Du 20) _ _ h3;exact⟨w,hs.cells hg⟩
 ·cases hb
theorem L7 {rs:Nz}{h:CH}{σ:Heap}(hs:CSim rs h σ):∀ (l:List Nat) (m:List PB),Q1p h l m=true→l.length=m.length∧∀ i b,m[i]?=some b→∃ wr,σ.get (l.getD i 0)=some (b.blk wr)
 |[],[],_=>⟨rfl,fun i b h=>by simp at h⟩
 |j::l,b::m,hb=>by
  simp only[Q1p,Bool.and_eq_true] at hb;obtain⟨h1,h2⟩:=L7 hs l m hb.2;refine⟨by simp[h1],fun i b' b8=>?_⟩;cases i with
  |zero=>simp at b8;subst b8;simpa using Q0h hs hb.1
  |succ i=>simpa using h2 i b' (by simpa using b8)
 |[],_::_,h=>by cases h
 |_::_,[],h=>by cases h
theorem HK {rs:Nz}:∀ (fr:List PB) {h:CH}{σ:Heap},CSim rs h σ→h.n+fr.length≤1000000000→CSim rs (G0 fr h) (WI σ fr)∧(G0 fr h).n=h.n+fr.length
 |[],h,σ,hs,_=>by
  have:WI σ []=σ:=Heap.ext' (fun j=>by
   show (if j<σ.n then σ.get j else _)=_;split
   ·rfl
   ·rename_i hj;rw[σ.wf j (by omega)];simp) rfl
  rw[this];exact⟨hs,rfl⟩
 |b::l,h,σ,hs,hr=>by
  have hr:h.n+(l.length+1)≤1000000000:=hr;have hn:=hs.n;have h1:CSim rs (h.push (.cells b.c b.esz true b.tight)) (σ.push (b.blk true)):=hs.push (Nat.ble_eq_true_of_le (by omega)) rfl;obtain⟨h2,h3⟩:=HK l h1 (by show h.n+1+_≤_;omega);refine⟨?_,by rw[show G0 (b::l) h=G0 l (h.push (.cells b.c b.esz true b.tight)) from rfl,h3];show h.n+1+l.length=h.n+(l.length+1);omega⟩;have:WI σ (b::l)=WI (σ.push (b.blk true)) l:=Heap.ext' (fun j=>by
   show (if j<σ.n then σ.get j else _)=(if j<σ.n+1 then (σ.push (b.blk true)).get j else _);rcases Nat.lt_trichotomy j σ.n with hj|hj|hj
   ·rw[if_pos hj,if_pos (by omega),Heap.get_push_lt _ _ hj]
   ·subst hj;rw[if_neg (by omega),if_pos (by omega),Heap.get_push_self];simp
   ·rw[if_neg (by omega),if_neg (by omega)];rw[show j-σ.n=(j-(σ.push (b.blk true)).n)+1 by simp;omega];rfl) (by simp[WI];omega)
  rw[this];exact h2
theorem Tr {h:CH}{args:List Value}{refs:List Nat}:∀ (ms:List Memo) (m:Memo),I8 h args refs ms=some m→m∈ms∧args=m.args∧Q1p h refs m.bl=true
 |[],m,h=>by cases h
 |m0::ms,m,h=>by
  simp only[I8] at h;split at h
  ·rename_i hc;obtain rfl:=osj h;rw[Bool.and_eq_true] at hc;exact⟨List.mem_cons_self,UL (Du 20) _ _ hc.1,hc.2⟩
  ·obtain⟨h1,h2⟩:=Tr ms m h;exact⟨List.mem_cons_of_mem _ h1,h2⟩
theorem Ry {f:FuncId}{args:List Value}{ms:List Memo}(hm:∀ m∈ms,Q1j P f m) {rs:Nz}{h:CH}{σ:Heap}(hs:CSim rs h σ) {p:Value×CH}(hp:LB h args ms=some p)
  {K:Value→Heap→Prop}(hK:∀ σ',h.n≤p.2.n→CSim rs p.2 σ'→K p.1 σ'):VCalled P f args σ K:=by
 unfold LB at hp;split at hp
 ·cases hp
 ·rename_i q hq;split at hp
  ·cases hp
  ·rename_i m qj;obtain⟨h1,h2,h3⟩:=Tr ms m qj;obtain⟨k1,k2,k3⟩:=hm m h1;obtain⟨l1,l2⟩:=L7 hs _ _ h3;split at hp
   ·cases hp
   ·rename_i hr;have hr:=Nat.le_of_ble_eq_true hr;split at hp
    ·rename_i v hv;obtain rfl:=osj hp;obtain⟨s1,s2⟩:=HK m.fr hs hr;have hx:=(KZ (Pw 0 8) _ _ _ hq).2 q.2 ⟨[],by simp⟩;rw[h2,l1] at hx;refine VCalled.localize (π:=gcP 0 q.2) k1 k2 k3 (fun i b hb=>?_) (by simpa using hx) ?_ (hK _ (by rw[s2];omega) s1)
     ·have:=l2 i b hb;simpa [gcP] using this
     ·have:=Q3n _ _ _ _ _ _ hv
      rwa [hs.n] at this
    ·cases hp
theorem Tk (hm:P.follows .mixedOrders=true) (hT:TabOk P T) (cW:Sd P ev) (hG:Good R G) {ys:Ys}{f:FuncId}{args:List Value}{h:CH}{k:Value→CH→A}{rs:Nz}{σ:Heap}{K:Value→Heap→Prop}
  (hY:YOk P ys rs h.n) (hs:CSim rs h σ) (he:G (Fj T ev R ys f args h k)) (hk:Q7l G rs h k K):VCalled P f args σ K:=by
 unfold Fj at he;split at he
 ·rename_i vc rl nt hf;have hF:=hT.code f vc rl nt hf;split at he
  ·rename_i hb;exact hF.calls hm S3 (cW R G hG ys vc none _ _ h _ rs σ _ hY hs (ET.of_rel (Nat.le_of_ble_eq_true hb)) he (MY hG hk))
  ·exact(hG.fail he).elim
 ·rename_i vc rl nt hf;have hF:=hT.codeJ f vc rl nt hf;split at he
  ·rename_i hb;split at he
   ·rename_i x hx;split at he
    ·rename_i hc;have aY:x.2.n≤1000000000:=Nat.le_of_ble_eq_true hc.1;have hK:=hk x.1 x.2 rs _ (Nat.le_of_ble_eq_true hc.2) (fun _ _=>rfl) (H7 (by omega)) he;refine hF.calls hm S3 (cW joinOps (Oe x) (LM x) ys vc none _ _ h _ rs σ _ hY hs (ET.of_rel (Nat.le_of_ble_eq_true hb)) (show Oe x _ from ⟨x,hx,rfl,rfl,fun _=>rfl⟩) ?_);intro e dJ h' bw σ' ae hn hr a9 bW _ hg;have fin:Oe x (match M_ dJ h' rl with|some v=>ED h h' v|none=>none)→Zg (JT ae σ' rl) fun v=>∃ v' aJ,DropTo σ v σ' v' aJ∧K v' aJ:=by
      rintro⟨y,hy,h1,h2,h3⟩;split at hy
      ·rename_i v hv;rw[Gw a9 bW hv];exact⟨_,_,Hv hs a9 hr hy h1 h2 h3,hK⟩
      ·cases hy
     cases e with
     |normal=>exact fin hg
     |ret=>exact fin hg
     |_=>obtain⟨y,hy,_⟩:=hg;cases hy
    ·exact(hG.fail he).elim
   ·exact(hG.fail he).elim
  ·exact(hG.fail he).elim
 ·rename_i vc rl nt ms hf;obtain⟨hF,hM⟩:=hT.codeM f vc rl nt ms hf;split at he
  ·rename_i p hp;exact Ry hM hs hp fun σ' hn a9=>hk _ _ rs σ' hn (fun _ _=>rfl) a9 he
  ·split at he
   ·rename_i hb;exact hF.calls hm S3 (cW R G hG ys vc none _ _ h _ rs σ _ hY hs (ET.of_rel (Nat.le_of_ble_eq_true hb)) he (MY hG hk))
   ·exact(hG.fail he).elim
 ·rename_i hf;split at he
  ·rename_i v;exact hT.same f hf v σ K (hk v h rs σ (Nat.le_refl _) (fun _ _=>rfl) hs he)
  ·exact(hG.fail he).elim
 ·exact(hG.fail he).elim
theorem Ck (hm:P.follows .mixedOrders=true) (cW:Sd P ev) (hG:Good R G) {ys:Ys}{f:FuncId}{vc:VCode}{rl:List VResult}{nt:Nat}(hf:T f=some (.code vc rl nt)) (hF:Fun P f vc rl nt) {args:List Value}{h:CH}{k:Value→CH→A}{rs:Nz}{σ:Heap}{K:Value→Heap→Prop}
  (hY:YOk P ys rs h.n) (hs:CSim rs h σ) (he:G (Fj T ev R ys f args h k)) (hk:Q7l G rs h k K):VCallsTo P f args σ K:=by
 unfold Fj at he;rw[hf] at he;simp only at he;split at he
 ·rename_i hb;exact hF.callsTo hm S3 (cW R G hG ys vc none _ _ h _ rs σ _ hY hs (ET.of_rel (Nat.le_of_ble_eq_true hb)) he (MY hG hk))
 ·exact(hG.fail he).elim
theorem AB (cW:Sd P ev) (hG:Good R G) {ys:Ys}{i:Nat}{args:List Value}{h:CH}{k:Value→CH→A}{rs:Nz}{σ:Heap}{K:Value→Heap→Prop}
  (hY:YOk P ys rs h.n) (hs:CSim rs h σ) (he:G (Q2w ev R ys i args h k)) (hk:Q7l G rs h k K):VYields P i args σ K:=by
 unfold Q2w at he;split at he
 ·rename_i c hc;obtain⟨aP,lk,aj⟩:=hY i c hc;split at he
  ·rename_i hg;split at he
   ·rename_i hlen;refine aj args σ K ⟨hs.lp hg,hlen,?_⟩;refine cW R G hG ys c.a (some i) _ _ h _ rs σ _ hY hs (Lo c.ps args lk) he ?_;intro e kD h1 fB σ1 bt fT fL lz fI _ gX;cases e with
    |normal =>
     simp only[Q4z] at gX;split at gX
     ·rename_i g_;have e1:fB i=rs i:=fL i aP;have nN:=lz.lp g_;rw[e1] at nN;refine⟨nN,?_⟩;have kC:=lz.lt g_;refine cW R G hG ys c.b (some i) kD bt _ _ fB _ _ (hY.mono (n':=(h1.upd i (.lp .busy none)).n) fT fL) (lz.upd kC (b:=.lp .busy none) (by rw[EB.to,e1])) fI gX ?_;intro e2 fN h2 er σ2 aR eg dR dX fO _ dm;have lA:h1.n≤h2.n:=eg;have mw:er i=rs i:=(dR i kC).trans e1;unfold Q0e at dm;split at dm
      ·rename_i nO;have ij:=dX.lt nO;have nP:=dX.lp nO;rw[mw] at nP;refine⟨nP,?_⟩;have dY:∀ j,j<h.n→er j=rs j:=fun j hj=>(dR j (Nat.lt_of_lt_of_le hj fT)).trans (fL j hj);cases e2 with
       |normal=>exact hk _ (h2.upd i (.lp .ready none)) er _ (Nat.le_trans fT lA) dY (dX.upd ij (b:=.lp .ready none) (by simp only[EB.to,mw])) dm
       |ret=>exact hk _ (h2.upd i (.lp .done (some .ret))) er _ (Nat.le_trans fT lA) dY (dX.upd ij (b:=.lp .done (some .ret)) (by simp only[EB.to,mw])) dm
       |exit id=>exact hk _ (h2.upd i (.lp .done (some (.exit id)))) er _ (Nat.le_trans fT lA) dY (dX.upd ij (b:=.lp .done (some (.exit id))) (by simp only[EB.to,mw])) dm
       |_=>exact(hG.fail dm).elim
      ·exact(hG.fail dm).elim
     ·exact(hG.fail gX).elim
    |_=>exact(hG.fail gX).elim
   ·exact(hG.fail he).elim
  ·exact(hG.fail he).elim
 ·exact(hG.fail he).elim
theorem HG (hG:Good R G) {i m since clock:Nat}{seen:List Nat}{h:CH}{k:Value→CH→A}:∀ (es:List JP),
  (∀ e∈es,seen.contains e.2.2=true)∧Gs R i m since clock seen h k es=none ∨
  ∃ a,Gs R i m since clock seen h k es=some a∧(G a→∀ e∈es,seen.contains e.2.2=false→G (k (.tuple #[.bool true,e.1,e.2.1]) (h.upd i (.iter m since (seen++[e.2.2]) clock))))
 |[]=>.inl ⟨fun _ h=>(by cases h),rfl⟩
 |e::es=>by
  have ih:=HG hG (i:=i) (m:=m) (since:=since) (clock:=clock) (seen:=seen) (h:=h) (k:=k) es;by_cases hc:seen.contains e.2.2=true
  ·have he:Gs R i m since clock seen h k (e::es)=Gs R i m since clock seen h k es:=by rw[Gs,if_pos hc]
   rw[he];rcases ih with⟨h1,h2⟩|⟨a,h1,h2⟩
   ·exact .inl ⟨fun x hx=>by rcases List.mem_cons.1 hx with rfl|hx;exact hc;exact h1 x hx,h2⟩
   ·refine .inr ⟨a,h1,fun lB x hx bh=>?_⟩;rcases List.mem_cons.1 hx with rfl|hx
    ·rw[hc] at bh;cases bh
    ·exact h2 lB x hx bh
  ·rcases ih with⟨h1,h2⟩|⟨a,h1,h2⟩
   ·refine .inr ⟨k (.tuple #[.bool true,e.1,e.2.1]) (h.upd i (.iter m since (seen++[e.2.2]) clock)),by rw[Gs,if_neg hc,h2],fun lB x hx bh=>?_⟩;rcases List.mem_cons.1 hx with rfl|hx
    ·exact lB
    ·rw[h1 x hx] at bh;cases bh
   ·refine .inr ⟨R.both (k (.tuple #[.bool true,e.1,e.2.1]) (h.upd i (.iter m since (seen++[e.2.2]) clock))) a,by rw[Gs,if_neg hc,h1],fun lB x hx bh=>?_⟩;obtain⟨g1,g2⟩:=hG.both _ _ lB;rcases List.mem_cons.1 hx with rfl|hx
    ·exact g1
    ·exact h2 g2 x hx bh
theorem EZ (hG:Good R G) {x:Value}{h:CH}{k:Value→CH→A}{rs:Nz}{σ:Heap}{K:Value→Heap→Prop}(hs:CSim rs h σ) (he:G (Q6d R x h k)) (hk:Q7l G rs h k K):EW x σ K:=by
 unfold Q6d at he;unfold EW;split at he
 ·rename_i i;split at he
  ·rename_i m since seen last hg;have hi:=hs.lt hg;simp only[hs.iter hg];split at he
   ·rename_i es clock wr gS;obtain⟨k1,_⟩:=hs.mapAt gS;simp only[k1];split at he
    ·rename_i hc;refine⟨hc.1,hc.2,?_⟩;rcases HG hG (i:=i) (m:=m) (since:=since) (clock:=clock) (seen:=seen) (h:=h) (k:=k) es with⟨h1,h2⟩|⟨a,h1,h2⟩
     ·rw[h2] at he;simp only at he;split at he
      ·exact⟨fun _=>hk _ _ rs σ (Nat.le_refl _) (fun _ _=>rfl) hs he,fun e gf lC=>by rw[h1 e gf] at lC;cases lC⟩
      ·exact(hG.fail he).elim
     ·rw[h1] at he;simp only at he;have key:G a→∀ e∈es,seen.contains e.2.2=false→K (.tuple #[.bool true,e.1,e.2.1]) (σ.upd i (.obj (.iter m since (seen++[e.2.2]) clock) true)):=fun lB e gf lC =>
       hk _ (h.upd i (.iter m since (seen++[e.2.2]) clock)) rs _ (Nat.le_refl _) (fun _ _=>rfl) (hs.upd hi rfl) (h2 lB e gf lC)
      split at he
      ·obtain⟨g1,g2⟩:=hG.both _ _ he;exact⟨fun _=>hk _ _ rs σ (Nat.le_refl _) (fun _ _=>rfl) hs g1,key g2⟩
      ·rename_i hn;exact⟨fun hh=>absurd hh hn,key he⟩
    ·exact(hG.fail he).elim
   ·exact(hG.fail he).elim
  ·exact(hG.fail he).elim
 ·exact(hG.fail he).elim
theorem Lp (hm:P.follows .mixedOrders=true) (hT:TabOk P T) (cW:Sd P ev) (hG:Good R G) {ys:Ys}{o:VOp}{et:ET}{env:Env}(hE:FRel et env) {h:CH}{k:Value→CH→A}{rs:Nz}{σ:Heap}{K:Value→Heap→Prop}
  (hY:YOk P ys rs h.n) (hs:CSim rs h σ) (he:G (Q6o T ev R ys o et h k)) (hk:Q7l G rs h k K):vop (Q3 P) o env σ K:=by
 have ai:=Ps hE;have other:∀ o':VOp,G (Q24 R (EU o' (Dd et) h) k)→Zg (Q8 o' (Q4 env) σ) fun p=>K p.1 p.2:=by
  intro o' hg;rw[ai] at hg;unfold Q24 at hg;split at hg
  ·rename_i p hp;obtain⟨h1,σ',h2,h3⟩:=Ko hs hp;rw[h2];exact hk _ _ rs σ' h1 (fun _ _=>rfl) h3 hg
  ·exact(hG.fail hg).elim
 cases o
 case callF f args =>
  simp only[Q6o,ai] at he;exact Tk hm hT cW hG hY hs he hk
 case callV f args =>
  simp only[Q6o,ai] at he;simp only[vop];unfold Q57 at he;split at he
  ·rename_i g first cap hg
   simp only[hg];exact Tk hm hT cW hG hY hs he hk
  ·rename_i i first cap hg
   simp only[hg];exact AB cW hG hY hs he hk
  ·exact(hG.fail he).elim
 case ext x =>
  cases x
  case nextMap x =>
   simp only[Q6o,ai] at he;exact EZ hG hs he hk
  case delete a b c=>exact other (.ext (.delete a b c)) he
  case mapEntry a z b c=>exact other (.ext (.mapEntry a z b c)) he
  case entryStore a b c=>exact other (.ext (.entryStore a b c)) he
  all_goals exact other _ he
 case move a=>exact other (.move a) he
 case makeFunc a b c=>exact other (.makeFunc a b c) he
 case bad=>exact other .bad he
 all_goals exact other _ he
theorem Rc (hm:P.follows .mixedOrders=true) (hT:TabOk P T) (cW:Sd P ev) (hG:Good R G) {ys:Ys}{k:ET→CH→A}{K:Env→Heap→Prop}:∀ (ops:List VOper) (et:ET) (env:Env) (h:CH) (rs:Nz) (σ:Heap),
  YOk P ys rs h.n→CSim rs h σ→FRel et env→G (Q1q T ev R ys ops et h k)→Q3w G rs h (List.length env) k K→BX (Q3 P) ops env σ K:=by
 intro ops;induction ops with
 |nil=>intro et env h rs σ hY hs hE he hk;exact hk et h rs σ env (Nat.le_refl _) (fun _ _=>rfl) hs hE rfl he
 |cons o rest ih =>
  intro et env h rs σ hY hs hE he hk
  have he:G (match Q2j et o.guard with
   |none=>R.fail
   |some true=>Q6o T ev R ys o.op et h fun v h'=>Q1q T ev R ys rest (et.put o.dst v) h' k
   |some false=>Q1q T ev R ys rest (et.put o.dst undef) h k):=he
  rw[IC hE] at he;simp only[BX];split at he
  ·exact(hG.fail he).elim
  ·rename_i hw;rw[hw];refine⟨fun _=>?_,fun hh=>by cases hh⟩;refine Lp hm hT cW hG hE hY hs he ?_;intro v h' bw σ' hn hr a9 hg;refine ih _ _ h' bw σ' (hY.mono hn hr) a9 (hE.put _ _) hg ?_;intro fN h2 er σ2 aR eg dR dX fO hl dm;exact hk fN h2 er σ2 aR (Nat.le_trans hn eg) (fun i hi=>(dR i (by omega)).trans (hr i hi)) dX fO (by rw[hl,ZB]) dm
  ·rename_i hw;rw[hw];refine⟨fun hh=>(by cases hh),fun _=>?_⟩;refine ih _ _ h rs σ hY hs (hE.put _ _) he ?_;intro fN h2 er σ2 aR eg dR dX fO hl dm;exact hk fN h2 er σ2 aR eg dR dX fO (by rw[hl,ZB]) dm
def CSims (rs:Nz) (n:Nat):List CH→List Heap→Prop
 |[],[]=>True
 |h::hs,σ::σs=>(CSim rs h σ∧h.n≤n)∧CSims rs n hs σs
 |_,_=>False
theorem CSims.mono {rs bw:Nz}{n n':Nat}(hn:n≤n') (hr:∀ i,i<n→bw i=rs i):∀ {hs:List CH}{σs:List Heap},CSims rs n hs σs→CSims bw n' hs σs
 |[],[],_=>trivial
 |h::hs,σ::σs,⟨⟨h1,h2⟩,h3⟩=>⟨⟨h1.rs fun i hi=>hr i (by omega),by omega⟩,CSims.mono hn hr h3⟩
 |[],_::_,h=>h.elim
 |_::_,[],h=>h.elim
theorem CSims.snoc {rs:Nz}{n:Nat}{h:CH}{σ:Heap}(hs:CSim rs h σ) (hn:h.n≤n):∀ {hl:List CH}{σl:List Heap},CSims rs n hl σl→CSims rs n (hl++[h]) (σl++[σ])
 |[],[],_=>⟨⟨hs,hn⟩,trivial⟩
 |_::_,_::_,⟨h1,h2⟩=>⟨h1,CSims.snoc hs hn h2⟩
 |[],_::_,h=>h.elim
 |_::_,[],h=>h.elim
theorem HW {rs:Nz}{h:CH}{σ:Heap}(hs:CSim rs h σ) {op:VOp}{ev:Operand→Value}{v:Value}(hr:IB op ev v h=true):Xc op ev v σ:=by
 unfold IB at hr;split at hr
 ·rename_i q hq;obtain⟨_,σ',h2,_⟩:=Ko hs hq;unfold Xc;rw[h2];exact Du _ _ _ hr
 ·cases hr
def Q4s:List (Nat×(CH→Bool))→List (Nat×(Heap→Prop))→Prop
 |[],[]=>True
 |c::l,d::m=>(c.1=d.1∧∀ rs h σ,CSim rs h σ→c.2 h=true→d.2 σ)∧Q4s l m
 |_,_=>False
theorem Dx {rs:Nz}{h:CH}{σ:Heap}(hs:CSim rs h σ) {r:Nat}:∀ {l:List (Nat×(CH→Bool))}{m:List (Nat×(Heap→Prop))},Q4s l m→Q1a r h l=true→X6 r σ m
 |[],[],_,_=>trivial
 |c::l,d::m,⟨⟨h1,h2⟩,h3⟩,he=>by
  simp only[Q1a,Bool.and_eq_true,Bool.or_eq_true,Bool.not_eq_true'] at he;refine⟨fun hr=>h2 rs h σ hs ?_,Dx hs h3 he.2⟩;rcases he.1 with h|h
  ·rw[h1,Nat.ble_eq_true_of_le hr] at h;cases h
  ·exact h
 |[],_::_,h,_=>h.elim
 |_::_,[],h,_=>h.elim
theorem CSims.mem {rs:Nz}{n:Nat}:∀ {hl:List CH}{σl:List Heap},CSims rs n hl σl→∀ (f:CH→Bool) (Q:Heap→Prop),(∀ rs h σ,CSim rs h σ→f h=true→Q σ)→∀ j,(hl.drop j).all f=true→∀ τ∈σl.drop j,Q τ
 |[],[],_,_,_,_,_,_,τ,hτ=>by simp at hτ
 |h::hl,σ::σl,⟨h1,h2⟩,f,Q,hQ,0,ha,τ,hτ=>by
  simp only[List.drop_zero,List.all_cons,Bool.and_eq_true,List.mem_cons] at ha hτ;rcases hτ with rfl|hτ
  ·exact hQ rs h τ h1.1 ha.1
  ·exact CSims.mem h2 f Q hQ 0 (by simpa using ha.2) τ (by simpa using hτ)
 |h::hl,σ::σl,⟨h1,h2⟩,f,Q,hQ,j+1,ha,τ,hτ=>CSims.mem h2 f Q hQ j (by simpa using ha) τ (by simpa using hτ)
 |[],_::_,h,_,_,_,_,_,_,_=>h.elim
 |_::_,[],h,_,_,_,_,_,_,_=>h.elim
theorem CSims.length {rs:Nz}{n:Nat}:∀ {hl:List CH}{σl:List Heap},CSims rs n hl σl→hl.length=σl.length
 |[],[],_=>rfl
 |_::_,_::_,⟨_,h⟩=>by simp[CSims.length h]
 |[],_::_,h=>h.elim
 |_::_,[],h=>h.elim
theorem Hu (hm:P.follows .mixedOrders=true) (hT:TabOk P T) (cW:Sd P ev) (hG:Good R G) {ys:Ys}{k:ET→CH→A}{K:Env→Heap→Prop}:∀ (ops:List DOper) (et:ET) (env:Env) (hl:List CH) (h:CH) (pe:List (Nat×(CH→Bool))) (rs:Nz) (σl:List Heap) (σ:Heap) (pv:List (Nat×(Heap→Prop))),
  YOk P ys rs h.n→CSim rs h σ→FRel et env→CSims rs h.n hl σl→Q4s pe pv→G (GZ T ev R ys ops et hl h pe k)→Q3w G rs h (List.length env) k K→ZD (Q3 P) ops env σl σ pv K:=by
 intro ops;induction ops with
 |nil=>intro et env hl h pe rs σl σ pv hY hs hE lD hp he hk;exact hk et h rs σ env (Nat.le_refl _) (fun _ _=>rfl) hs hE rfl he
 |cons o rest ih =>
  intro et env hl h pe rs σl σ pv hY hs hE lD fb he hk;have ai:=Ps hE;simp only[GZ,IC hE,ai] at he;simp only[ZD];have hlen:=lD.length;split at he
  ·exact(hG.fail he).elim
  ·rename_i hw;rw[hw];refine⟨fun _=>?_,fun hh=>by cases hh⟩;split at he
   ·rename_i aq;rw[if_pos aq];split at he
    ·rename_i p hp;split at he
     ·rename_i lE;obtain⟨jN,qO⟩:=lE;simp only[CH.newOk,Bool.and_eq_true,List.all_eq_true] at jN;obtain⟨n1,n2,n3⟩:=jN;have n1:h.n≤p.2.n:=Nat.le_of_ble_eq_true n1;have n2:p.2.n≤1000000000:=Nat.le_of_ble_eq_true n2;have lF:CSim rs p.2 (p.2.toHeap rs):=H7 (by omega);refine .inl ⟨p.1,p.2.toHeap rs,?_,?_,?_⟩
      ·refine Lp hm hT cW (Q6w p) hE hY hs hp ?_;intro v h' bw σ' hn hr a9 hg;have hg:(v,h')=p:=osj hg;subst hg;refine⟨rfl,?_⟩;have:CSim rs h' σ':=by
        refine⟨a9.n,a9.sm,fun i=>?_⟩;rw[a9.get];cases g_:h'.get i with
        |none=>rfl
        |some b =>
         rcases Nat.lt_or_ge i h.n with hi|hi
         ·rw[hr i hi]
         ·have aP:=a9.lt g_;have:=n3 i (List.mem_range'_1.2 ⟨hi,by simp at n1 ⊢;omega⟩);simp only[g_] at this;cases b<;>first|rfl|cases this
       exact this.eq
      ·rw[←hlen];exact Dx lF fb qO
      ·refine ih _ _ _ p.2 pe rs _ _ pv (hY.mono n1 (fun _ _=>rfl)) lF (hE.put _ _) ((lD.mono n1 (fun _ _=>rfl)).snoc lF (Nat.le_refl _)) fb he ?_;intro fN h2 er σ2 aR eg dR dX fO cG dm;exact hk fN h2 er σ2 aR (Nat.le_trans n1 eg) (fun i hi=>dR i (by omega)) dX fO (by rw[cG,ZB]) dm
     ·exact(hG.fail he).elim
    ·exact(hG.fail he).elim
   ·rename_i aq;rw[if_neg aq];have done:∀ (u:Value) (pB:List (Nat×(CH→Bool))) (pC:List (Nat×(Heap→Prop))),Q4s pB pC→G (GZ T ev R ys rest (et.put o.dst u) hl h pB k)→ZD (Q3 P) rest (Xt env o.dst u) σl σ pC K:=by
     intro u pB pC br hg;refine ih _ _ hl h pB rs σl σ pC hY hs (hE.put _ _) lD br hg ?_;intro fN h2 er σ2 aR eg dR dX fO cG dm;exact hk fN h2 er σ2 aR eg dR dX fO (by rw[cG,ZB]) dm
    split at he
    ·rename_i bE;rw[if_pos bE];split at he
     ·rename_i p hp;split at he
      ·rename_i af;obtain⟨_,σ',h2,_⟩:=Ko hs hp;rw[h2];refine⟨lD.mem _ _ (fun rs h σ hc hf=>HW hc hf) _ af,?_⟩;refine done _ _ _ ?_ he;rw[←hlen];split
       ·exact⟨⟨rfl,fun rs h σ hc hf=>HW hc hf⟩,fb⟩
       ·exact fb
      ·exact(hG.fail he).elim
     ·exact(hG.fail he).elim
    ·rename_i bE;rw[if_neg bE];split at he
     ·rename_i p hp;obtain⟨_,σ',h2,_⟩:=Ko hs hp;rw[h2];exact done _ _ _ fb he
     ·exact(hG.fail he).elim
  ·rename_i hw;rw[hw];refine⟨fun hh=>(by cases hh),fun _=>?_⟩;split at he
   ·rename_i aq;rw[if_pos aq];split at he
    ·rename_i qO;refine⟨by rw[←hlen];exact Dx hs fb qO,?_⟩;refine ih _ _ _ h pe rs _ σ pv hY hs (hE.put _ _) (lD.snoc hs (Nat.le_refl _)) fb he ?_;intro fN h2 er σ2 aR eg dR dX fO cG dm;exact hk fN h2 er σ2 aR eg dR dX fO (by rw[cG,ZB]) dm
    ·exact(hG.fail he).elim
   ·rename_i aq;rw[if_neg aq];refine ih _ _ _ h pe rs _ σ pv hY hs (hE.put _ _) lD fb he ?_;intro fN h2 er σ2 aR eg dR dX fO cG dm;exact hk fN h2 er σ2 aR eg dR dX fO (by rw[cG,ZB]) dm
theorem ET.list_eq {e:ET}{env:Env}(h:FRel e env):e.list=env:=by
 apply List.ext_getElem?;intro i;unfold ET.list;rw[List.getElem?_map];rcases Nat.lt_or_ge i e.m with hi|hi
 ·rw[List.getElem?_range hi];have:=h.get i;rw[h.m] at hi;rw[List.getD_eq_getElem?_getD,List.getElem?_eq_getElem hi] at this;rw[List.getElem?_eq_getElem hi,Option.map_some,←this];rfl
 ·rw[List.getElem?_eq_none (by simpa using hi),List.getElem?_eq_none (by rw[←h.m];exact hi)];rfl
theorem Ca {ρ:Plc}{n:Nat}{vs:Array Value}{cs:List Value}(h:VRel ρ n (.tuple vs) (.tuple cs.toArray)):LRel ρ n vs.toList cs:=by
 obtain⟨ds,he,hl⟩:=h.tuple_inv;have:cs.toArray=ds:=by injection he
 subst this;simpa using hl
theorem E5 (hm:P.follows .mixedOrders=true) (hT:TabOk P T) (cW:Sd P ev) {ys:Ys}{x:Value×CH}{vs:Array Value}(jH:x.1=.tuple vs) {K:Env→Heap→Prop}{et:ET}{env:Env}{h:CH}{rs:Nz}{σ:Heap}(hY:YOk P ys rs h.n) (hs:CSim rs h σ) (hE:FRel et env)
  (hk:K vs.toList (x.2.toHeap rs)):∀ (alts:List (List DOper)),Oe x (Ig T ev ys et h alts)→∀ ops∈alts,ZD (Q3 P) ops env [σ] σ [] fun bt σ1=>∃ aR σ2,DropE σ bt σ1 aR σ2∧K aR σ2:=by
 have one:∀ a:List DOper,Oe x (Q6t T ev ys et h a)→ZD (Q3 P) a env [σ] σ [] fun bt σ1=>∃ aR σ2,DropE σ bt σ1 aR σ2∧K aR σ2:=by intro a ha;refine Hu hm hT cW (LM x) a et env [h] h [] rs [σ] σ [] hY hs hE ⟨⟨hs,Nat.le_refl _⟩,trivial⟩ trivial ha ?_;intro dJ h' bw σ' ae hn hr a9 bW hl hg;obtain⟨y,hy,h1,h2,h3⟩:=hg;unfold Q8i at hy;have hd:=Hv hs a9 hr hy h1 h2 h3;rw[ET.list_eq bW,jH] at hd;refine⟨vs.toList,x.2.toHeap rs,?_,hk⟩;intro ρ0 w0 ρ w cs f_ qy hH hL;obtain⟨ρ',d1,d2,d3⟩:=hd ρ0 w0 ρ w (.tuple cs.toArray) f_ qy hH (VRel.tuple_of hL);exact⟨ρ',Ca d1,d2,d3⟩
 intro alts;induction alts with
 |nil=>rintro⟨y,hy,_⟩;cases hy
 |cons a l ih =>
  intro he ops ho;cases l with
  |nil =>obtain rfl:=List.mem_singleton.1 ho;exact one _ he
  |cons b r =>
   obtain⟨g1,g2⟩:=(LM x).both _ _ he;rcases List.mem_cons.1 ho with rfl|ho
   ·exact one _ g1
   ·exact ih g2 ops ho
theorem E3 (hm:P.follows .mixedOrders=true) (hT:TabOk P T) (cW:Sd P ev) (hG:Good R G) {ys:Ys}{k:ET→CH→A}{K:Env→Heap→Prop}:∀ (aQ:List DSeg) (et:ET) (env:Env) (h:CH) (rs:Nz) (σ:Heap),
  YOk P ys rs h.n→CSim rs h σ→FRel et env→G (Rs T ev R ys aQ et h k)→Q3w G rs h (List.length env) k K→Gl (Q3 P) aQ env σ K:=by
 intro aQ;induction aQ with
 |nil=>intro et env h rs σ hY hs hE he hk;exact hk et h rs σ env (Nat.le_refl _) (fun _ _=>rfl) hs hE rfl he
 |cons x rest ih =>
  intro et env h rs σ hY hs hE he hk;have next:Q3w G rs h (List.length env) (fun et h=>Rs T ev R ys rest et h k) (fun env σ=>Gl (Q3 P) rest env σ K):=by intro kD h1 fB σ1 bt fT fL lz fI eP gX;refine ih kD bt h1 fB σ1 (hY.mono fT fL) lz fI gX ?_;intro fN h2 er σ2 aR eg dR dX fO cG dm;exact hk fN h2 er σ2 aR (Nat.le_trans fT eg) (fun i hi=>(dR i (by omega)).trans (fL i hi)) dX fO (cG.trans eP) dm
  cases x with
  |one o=>exact Rc hm hT cW hG [o] et env h rs σ hY hs hE he next
  |alts l =>
   have many:G (match Ig T ev ys et h l with
     |some x=>(match x.1 with
      |.tuple vs=>if x.2.room=true∧Nat.ble h.n x.2.n=true∧vs.toList.length=et.m then Rs T ev R ys rest (ET.of vs.toList 0) x.2 k else R.fail
      |_=>R.fail)
     |none=>R.fail)→Gl (Q3 P) (.alts l::rest) env σ K:=by
    intro he;split at he
    ·rename_i x hx;split at he
     ·rename_i vs jH;split at he
      ·rename_i hc;obtain⟨c1,c2,c3⟩:=hc;have aY:x.2.n≤1000000000:=Nat.le_of_ble_eq_true c1;have uv:FRel (ET.of vs.toList 0) vs.toList:=by
        have:=ET.of_rel (args:=vs.toList) (nt:=0) (by show vs.toList.length+(0-vs.toList.length)≤_;have:=hE.sm;omega);simpa using this
       exact E5 hm hT cW jH hY hs hE (next _ x.2 rs _ _ (Nat.le_of_ble_eq_true c2) (fun _ _=>rfl) (H7 (by omega)) uv (by rw[c3,hE.m]) he) l ⟨x,hx,rfl,rfl,fun _=>rfl⟩
      ·exact(hG.fail he).elim
     ·exact(hG.fail he).elim
    ·exact(hG.fail he).elim
   match l,he with
   |[],he=>exact many he
   |[a],he =>intro ops ho;obtain rfl:=List.mem_singleton.1 ho;refine Hu hm hT cW hG ops et env [h] h [] rs [σ] σ [] hY hs hE ⟨⟨hs,Nat.le_refl _⟩,trivial⟩ trivial he ?_;intro dJ h' bw σ' ae hn hr a9 bW hl hg;exact⟨ae,σ',.refl _ _ _,next dJ h' bw σ' ae hn hr a9 bW hl hg⟩
   |a::b::r,he=>exact many he
def Ez (P:Program) (T:Tab) (ev:Q7b) (c:VCode):Prop:=∀ {A:Type}(R:AnsOps A) (G:A→Prop),Good R G→∀ (ys:Ys) (ro:Option Nat) (et:ET) (env:Env) (h:CH) (k:Exit→ET→CH→A) (rs:Nz) (σ:Heap) (Q:Exit→Env→Heap→Prop),
 YOk P ys rs h.n→CSim rs h σ→FRel et env→G (Ax T ev R ys c ro et h k)→Q3u G rs h (List.length env) k Q→vwp (Q3 P) c ro Q env σ
theorem Eu (hm:P.follows .mixedOrders=true) (hT:TabOk P T) (cW:Sd P ev) (hG:Good R G) {ys:Ys}{g:Operand}{ps:List Nat}{a b:VCode}{ro:Option Nat}{et:ET}{env:Env}{h:CH}{k:Exit→ET→CH→A}{rs:Nz}{σ:Heap}{Q:Exit→Env→Heap→Prop}
  (hY:YOk P ys rs h.n) (hs:CSim rs h σ) (hE:FRel et env) (he:G (Q0n T ev R ys (Dd et g) ps a b ro et h k)) (hk:Q3u G rs h (List.length env) k Q):vwp (Q3 P) (.rangeF g ps a b) ro Q env σ:=by
 rw[Ps hE] at he;unfold Q0n at he;simp only[vwp,A7];split at he
 ·rename_i f first cap hg
  simp only[hg];split at he
  ·rename_i vc rl nt hf;have hF:=hT.code f vc rl nt hf;split at he
   ·rename_i lE;obtain⟨aP,aY⟩:=lE;have gA:(Q3 P).it f=some fun i Y args σ K=>Kx P i Y→VCallsTo P f args σ K:=by
     simp only[Q3];rw[if_pos hF.enterable]
    rw[gA];refine⟨?_,fun r uw=>?_⟩
    ·cases ro with
     |none=>trivial
     |some i =>
      simp only[Q5l] at aP;split at aP
      ·rename_i st pend g_;exact⟨_,_,_,_,hs.lp g_⟩
      ·cases aP
    ·let fB:Nz:=fun i=>if i=h.n then (env,r) else rs i
     have fa:∀ i,i<h.n→fB i=rs i:=fun i hi=>by simp only[fB];rw[if_neg (by omega)]
     have lz:CSim fB (h.push (.lp .ready none)) (σ.push (.obj (.lp env r .ready none) true)) :=
      (hs.rs fa).push aY (by simp[EB.to,fB])
     have ux:YOk P ((h.n,⟨ps,a,b,et⟩)::ys) fB (h.push (.lp .ready none)).n:=by
      intro i c hc;simp only[Ys.find] at hc;split at hc
      ·rename_i eL;have eL:=Nat.eq_of_beq_eq_true eL;subst eL;obtain rfl:=osj hc;refine⟨Nat.lt_succ_self _,by simp only[fB,if_true];exact hE,?_⟩;rw[hs.n] at *
       simpa [fB,hs.n] using uw
      ·obtain⟨h1,h2,h3⟩:=hY i c hc;rw[fa i h1];exact⟨Nat.lt_succ_of_lt h1,h2,h3⟩
     rw[←hs.n];refine Ck hm cW hG hf hF ux lz he ?_;intro v h' bw σ' hn hr a9 dK;have mq:h.n+1≤h'.n:=hn;unfold Z0h at dK;unfold Q4v;split at dK
     ·rename_i st pend g_;have hi:=a9.lt g_;simp only[a9.lp g_];split at dK
      ·rename_i cJ;refine⟨(by rintro rfl;cases cJ),?_⟩;have dY:∀ j,j<h.n→bw j=rs j:=fun j hj=>(hr j (Nat.lt_succ_of_lt hj)).trans (fa j hj);have bc:=a9.kill hi;split at dK
       ·exact hk _ _ _ bw _ _ (by show h.n≤h'.n;omega) dY bc hE rfl dK
       ·exact hk _ _ _ bw _ _ (by show h.n≤h'.n;omega) dY bc hE rfl dK
       ·exact hk _ _ _ bw _ _ (by show h.n≤h'.n;omega) dY bc hE rfl dK
       ·exact(hG.fail dK).elim
      ·exact(hG.fail dK).elim
     ·exact(hG.fail dK).elim
   ·exact(hG.fail he).elim
  ·exact(hG.fail he).elim
 ·exact(hG.fail he).elim
theorem Ah (hm:P.follows .mixedOrders=true) (hT:TabOk P T) (cW:Sd P ev)
  (nQ:∀ b,Ez P T ev b→Ez P T ev (.loop b)):∀ (c:VCode),Ez P T ev c:=by
 intro c;induction c with
 |skip=>intro A R G hG ys ro et env h k rs σ Q hY hs hE he hk;exact hk _ _ _ rs σ _ (Nat.le_refl _) (fun _ _=>rfl) hs hE rfl he
 |region ops =>intro A R G hG ys ro et env h k rs σ Q hY hs hE he hk;exact Rc hm hT cW hG ops et env h rs σ hY hs hE he fun dJ h' bw σ' ae h1 h2 h3 h4 h5 h6=>hk _ _ _ _ _ _ h1 h2 h3 h4 h5 h6
 |regionD aQ =>intro A R G hG ys ro et env h k rs σ Q hY hs hE he hk;exact E3 hm hT cW hG aQ et env h rs σ hY hs hE he fun dJ h' bw σ' ae h1 h2 h3 h4 h5 h6=>hk _ _ _ _ _ _ h1 h2 h3 h4 h5 h6
 |rangeF g ps a b eX ep =>intro A R G hG ys ro et env h k rs σ Q hY hs hE he hk;exact Eu hm hT cW hG hY hs hE he hk
 |seq a b eX ep =>
  intro A R G hG ys ro et env h k rs σ Q hY hs hE he hk;simp only[vwp];refine eX R G hG ys ro et env h _ rs σ _ hY hs hE he ?_;intro e dJ h' bw σ' ae hn hr a9 bW hl hg;cases e with
  |normal =>refine ep R G hG ys ro dJ ae h' k bw σ' Q (hY.mono hn hr) a9 bW hg ?_;intro e2 fN h2 er σ2 aR eg dR dX fO cG dm;exact hk e2 fN h2 er σ2 aR (Nat.le_trans hn eg) (fun i hi=>(dR i (by omega)).trans (hr i hi)) dX fO (cG.trans hl) dm
  |_=>exact hk _ dJ h' bw σ' ae hn hr a9 bW hl hg
 |cond c a b eX ep =>
  intro A R G hG ys ro et env h k rs σ Q hY hs hE he hk;have he:G (Q6x R (Dd et c) (Ax T ev R ys a ro et h k) (Ax T ev R ys b ro et h k)):=he;rw[Ps hE] at he;unfold Q6x at he;simp only[vwp];split at he
  ·rename_i hc;rw[hc];exact⟨fun _=>eX R G hG ys ro et env h k rs σ Q hY hs hE he hk,fun hh=>by cases hh⟩
  ·rename_i hc;rw[hc];exact⟨fun hh=>(by cases hh),fun _=>ep R G hG ys ro et env h k rs σ Q hY hs hE he hk⟩
  ·exact(hG.fail he).elim
 |block id b ih =>
  intro A R G hG ys ro et env h k rs σ Q hY hs hE he hk;simp only[vwp];refine ih R G hG ys ro et env h _ rs σ _ hY hs hE he ?_;intro e dJ h' bw σ' ae hn hr a9 bW hl hg;cases e with
  |exit h_ =>
   simp only[Q2h] at hg;simp only[Av];split at hg
   ·rename_i bk;rw[if_pos bk];exact hk _ dJ h' bw σ' ae hn hr a9 bW hl hg
   ·rename_i bk;rw[if_neg bk];exact hk _ dJ h' bw σ' ae hn hr a9 bW hl hg
  |_=>exact hk _ dJ h' bw σ' ae hn hr a9 bW hl hg
 |loop b ih =>intro A R G hG ys ro et env h k rs σ Q hY hs hE he hk;exact nQ b ih R G hG ys ro et env h k rs σ Q hY hs hE he hk
 |exit id=>intro A R G hG ys ro et env h k rs σ Q hY hs hE he hk;exact hk _ _ _ rs σ _ (Nat.le_refl _) (fun _ _=>rfl) hs hE rfl he
 |ret=>intro A R G hG ys ro et env h k rs σ Q hY hs hE he hk;exact hk _ _ _ rs σ _ (Nat.le_refl _) (fun _ _=>rfl) hs hE rfl he
 |bad=>intro A R G hG ys ro et env h k rs σ Q hY hs hE he hk;exact(hG.fail he).elim
theorem SX {v:Value}(h:O2 v=true):QW v=true∨∃ vs,v=.tuple vs∧vs.toList.all QW=true:=by unfold O2 at h;split at h<;>first|exact .inl rfl|exact .inr ⟨_,rfl,h⟩|cases h
theorem Q4c {ρ:Plc}{n:Nat}{v c:Value}(h:O2 v=true) (hv:VRel ρ n v c):c=v:=by
 rcases SX h with hp|⟨vs,rfl,af⟩
 ·exact Vd hp hv
 ·obtain⟨ds,rfl,hl⟩:=hv.tuple_inv;have af:∀ x∈vs.toList,QW x=true:=List.all_eq_true.1 af;have:ds.toList=vs.toList:=by
   apply List.ext_getElem?;intro i;rcases Nat.lt_or_ge i vs.toList.length with hi|hi
   ·have cI:i<ds.toList.length:=by rw[←hl.1];exact hi
    rw[List.getElem?_eq_getElem hi,List.getElem?_eq_getElem cI];rw[Vd (af _ (List.getElem_mem hi)) (hl.2 i _ _ (List.getElem?_eq_getElem hi) (List.getElem?_eq_getElem cI))]
   ·rw[List.getElem?_eq_none hi,List.getElem?_eq_none (by rw[←hl.1];exact hi)]
  rw[SC this]
theorem Q0v {ρ:Plc}{n:Nat}{v:Value}(h:O2 v=true):VRel ρ n v v:=by
 rcases SX h with hp|⟨vs,rfl,af⟩
 ·exact WA hp
 ·exact .tuple _ _ rfl fun i h1 _=>WA (List.all_eq_true.1 af _ (by simp))
theorem Hq (m:Nat) (env:Env) (h:List.length env=m):B5 (List.range m) env=env:=by
 apply List.ext_getElem?;intro i;simp only[B5,List.getElem?_map];rcases Nat.lt_or_ge i m with hi|hi
 ·rw[List.getElem?_range hi];simp[List.getD_eq_getElem?_getD,h,hi]
 ·rw[List.getElem?_eq_none (by simpa using hi),List.getElem?_eq_none (by omega)];rfl
theorem La:∀ (l:List Nat) (vs base:List Value) (i:Nat),l.Nodup→vs.length=l.length→(∀ x∈l,x<base.length)→(XA l vs base)[i]?=if i∈l then vs[l.idxOf i]? else base[i]?
 |[],[],base,i,_,_,_=>by simp[XA]
 |[],_::_,_,_,_,h,_=>by simp at h
 |_::_,[],_,_,_,h,_=>by simp at h
 |x::l,v::vs,base,i,hn,h,hb=>by
  obtain⟨h1,h2⟩:=List.nodup_cons.1 hn;simp only[XA];rw[La l vs _ i h2 (by simpa using h) (fun y hy=>by rw[List.length_set];exact hb y (by simp[hy]))];by_cases my:i=x
  ·subst my;rw[if_neg h1,if_pos (by simp),List.getElem?_set_self (hb i (by simp))];simp
  ·by_cases gN:i∈l
   ·have e:(x::l).idxOf i=l.idxOf i+1:=by rw[List.idxOf_cons,show (x==i)=false from by simpa using Ne.symm my];rfl
    rw[if_pos gN,if_pos (by simp[gN]),e];rfl
   ·rw[if_neg gN,if_neg (by simp[my,gN]),List.getElem?_set_ne (Ne.symm my)]
theorem Ab (m:Nat) (vs:List Value) (h:vs.length=m):XA (List.range m) vs (List.replicate m poison)=vs:=by
 apply List.ext_getElem?;intro i;rw[La _ _ _ _ List.nodup_range (by simpa using h) (fun x hx=>by simpa using hx)];split
 ·rename_i hi;have hi:=List.mem_range.1 hi;have:(List.range m).idxOf i=i:=by
   have h1:(List.range m).idxOf i<(List.range m).length:=List.idxOf_lt_length_of_mem (List.mem_range.2 hi);have h2:=List.getElem_idxOf h1;rw[List.getElem_range] at h2;exact h2
  rw[this]
 ·rename_i hi;have hi:m≤i:=by simpa using hi
  rw[List.getElem?_eq_none (by simpa using hi),List.getElem?_eq_none (by omega)]
theorem Ox (hm:P.follows .mixedOrders=true) (hT:TabOk P T):∀ (n:Nat) (c:VCode),Ez P T (RH T n) c:=by
 intro n;induction n using Nat.strongRecOn with
 |ind n py =>
  have cW:Sd P (RH T n):=by
   cases n with
   |zero=>intro A R G hG ys c ro et env h k rs σ Q hY hs hE he hk;exact(hG.fail he).elim
   |succ n=>intro A R G hG ys c ro et env h k rs σ Q hY hs hE he hk;exact py n (Nat.lt_succ_self _) c R G hG ys ro et env h k rs σ Q hY hs hE he hk
  refine Ah hm hT cW fun b ep=>?_;intro A R G hG ys ro et env h k rs σ Q hY hs hE he hk;have nR:∀ j,j≤n→Ez P T (RH T j) b:=fun j hj=>by
   rcases Nat.lt_or_ge j n with h'|h'
   ·exact py j h' b
   ·obtain rfl:j=n:=by omega
    exact ep
  simp only[vwp];refine⟨List.range (List.length env),fun j vs σ1=>j≤n∧∃ kD h1 fB,h.n≤h1.n∧(∀ i,i<h.n→fB i=rs i)∧CSim fB h1 σ1∧FRel kD vs∧List.length vs=List.length env∧G (Ax T (RH T j) R ys (.loop b) ro kD h1 k),n,?_,?_⟩
  ·rw[Hq _ _ rfl];exact⟨Nat.le_refl _,et,h,rs,Nat.le_refl _,fun _ _=>rfl,hs,hE,rfl,he⟩
  ·rintro j vs σ1 ⟨hj,kD,h1,fB,g1,g2,g3,gE,g4,g5⟩;rw[Ab _ _ g4];refine nR j hj R G hG ys ro kD vs h1 _ fB σ1 _ (hY.mono g1 g2) g3 gE g5 ?_;intro e dJ h' bw σ' ae hn hr a9 bW hl hg;cases e with
   |normal =>
    cases j with
    |zero=>exact(hG.fail hg).elim
    |succ j =>
     refine⟨j,Nat.lt_succ_self _,by omega,dJ,h',bw,Nat.le_trans g1 hn,fun i hi=>(hr i (by omega)).trans (g2 i hi),a9,?_,?_,?_⟩
     ·rw[Hq _ _ (hl.trans g4)];exact bW
     ·rw[Hq _ _ (hl.trans g4)];exact hl.trans g4
     ·exact hg
   |_=>exact hk _ dJ h' bw σ' ae (Nat.le_trans g1 hn) (fun i hi=>(hr i (by omega)).trans (g2 i hi)) a9 bW (hl.trans g4) hg
theorem Fm (hm:P.follows .mixedOrders=true) (hT:TabOk P T) (n:Nat):Sd P (RH T n):=by
 cases n with
 |zero=>intro A R G hG ys c ro et env h k rs σ Q hY hs hE he hk;exact(hG.fail he).elim
 |succ n=>intro A R G hG ys c ro et env h k rs σ Q hY hs hE he hk;exact Ox hm hT n c R G hG ys ro et env h k rs σ Q hY hs hE he hk
theorem HRel.forget {ρ:Plc}{σ:Heap}{w:World}(hH:HRel ρ σ w):HRel (fun _=>none) Heap.empty w :=
 ⟨⟨fun i b h=>(by cases h),fun _ _=>rfl,fun i p h=>(by cases h),fun i j p q b _ h=>(by cases h)⟩,fun g cs hg=>⟨(hH.tab g cs hg).1,fun ⟨_,_,_,h,_⟩=>by cases h⟩⟩
theorem Am {f:FuncId}{args:List Value}(ha:args.all QW=true) {v:Value}(hv:O2 v=true) (he:XC P f) (h0:VCallsTo P f args Heap.empty (fun u _=>u=v)) {σ:Heap}{K:Value→Heap→Prop}(hK:K v σ):VCalled P f args σ K:=by
 refine VCallsTo.called he ?_;intro ρ w aw hH hL;refine (h0 (fun _=>none) w aw hH.forget ?_).mono ?_
 ·refine⟨hL.1,fun i a c j5 hc=>?_⟩;have hp:=List.all_eq_true.1 ha a (List.mem_of_getElem? j5);have:=Vd hp (hL.2 i a c j5 hc);subst this;exact WA hp
 ·rintro e w' ⟨c,rfl,u,ρ',σ',rfl,eE,gy,hE⟩;refine⟨c,rfl,u,ρ,σ,hK,?_,?_,?_⟩
  ·have:c=u:=Q4c hv eE;subst this;exact Q0v hv
  ·exact hH.world hE.size (fun i p hp=>hE.keep _ (hH.lt i p hp) (fun ⟨_,_,_,h,_⟩=>by cases h)) fun g cs hg=>hE.keep _ (hH.tab.lt hg) (fun ⟨_,_,_,h,_⟩=>by cases h)
  ·exact⟨hE.os,hE.tape,hE.output,hE.size,fun B hB _=>hE.keep B hB (fun ⟨_,_,_,h,_⟩=>by cases h),fun _ _ h=>h,Nat.le_refl _,fun _ _ _ h=>h⟩
theorem Q3l (hm:P.follows .mixedOrders=true) (hT:TabOk P T) (n:Nat) {f:FuncId}{vc:VCode}{rl:List VResult}{nt:Nat}(hF:Fun P f vc rl nt) (args:List Value) (ha:args.all QW=true) (v:Value) (hv:O2 v=true) (p:Value→Bool) (hp:∀ u,p u=true→u=v)
  (dL:Nat.ble (ET.of args nt).m 1000000=true) (he:RH T n VF [] vc none (ET.of args nt) CH.empty (Q3r false rl fun v _=>p v)=true) {σ:Heap}{K:Value→Heap→Prop}(hK:K v σ):VCalled P f args σ K:=by
 refine Am ha hv hF.enterable ?_ hK;refine hF.callsTo hm S3 ?_
 exact Fm hm hT n VF (·=true) FY [] vc none _ _ CH.empty _ (fun _=>([],default)) Heap.empty _ (fun i c h=>by cases h) ⟨rfl,by decide,fun i=>rfl⟩ (ET.of_rel (Nat.le_of_ble_eq_true dL)) he
  (MY (R:=VF) FY fun v' h' bw σ' _ _ _ hg=>hp v' hg)
end
end Go.V
namespace Go.V
open Go
def Q3h (P:Program) (f:FuncId):Option FEnt→Prop
 |none=>True
 |some (.code vc rs nt)=>Fun P f vc rs nt
 |some (.codeJ vc rs nt)=>Fun P f vc rs nt
 |some (.codeM vc rs nt ms)=>Fun P f vc rs nt∧∀ m∈ms,Q1j P f m
 |some .same=>∀ (v:Value) (σ:Heap) (K:Value→Heap→Prop),K v σ→VCalled P f [v] σ K
def EntsOk (P:Program):Nat→List (Option FEnt)→Prop
 |_,[]=>True
 |i,e::l=>Q3h P i e∧EntsOk P (i+1) l
theorem EntsOk.get {P:Program}:∀ {l:List (Option FEnt)}{i j:Nat}{e:FEnt},EntsOk P i l→l[j]?=some (some e)→Q3h P (i+j) (some e)
 |[],_,_,_,_,h=>by simp at h
 |x::l,i,0,e,h,hj=>by simp at hj;subst hj;exact h.1
 |x::l,i,j+1,e,h,hj=>by have:=EntsOk.get (l:=l) (i:=i+1) (j:=j) h.2 (by simpa using hj);rw[Nat.add_assoc,Nat.add_comm 1 j] at this;exact this
theorem Q4d {P:Program}{l:List (Option FEnt)}(h:EntsOk P 0 l):TabOk P (fun f=>(l[f]?).join):=by
 have key:∀ f e,(l[f]?).join=some e→Q3h P f (some e):=fun f e he=>by
  have:=EntsOk.get (j:=f) (e:=e) h (by
   cases hl:l[f]? with
   |none=>rw[hl] at he;cases he
   |some x=>rw[hl] at he;simp at he;rw[he])
  simpa using this
 exact⟨fun f vc rs nt he=>key f _ he,fun f vc rs nt he=>key f _ he,fun f vc rs nt ms he=>key f _ he,fun f he=>key f _ he⟩
theorem Q4m {P:Program}{f:FuncId}{fn:Func}{e:Array Value→Sem Value}(hf:P.funcs[f]?=some fn) (h1:(fn.name=="runtime.NumGoroutine")=false) (h2:fn.body.isNone=true) (h3:Extern.findNext fn=none) (h4:Extern.find fn=some e) (h5:∀ (c:Value) w,(e #[c]).run P w=.ok c w)
  (v:Value) (σ:Heap) (K:Value→Heap→Prop) (hK:K v σ):VCalled P f [v] σ K:=by
 intro ρ w aw hH hL;obtain⟨c,hc⟩:∃ c,aw=#[c]:=by
  have hl:=hL.1
  match aw,hl with
  |⟨[c]⟩,_=>exact⟨c,rfl⟩
 subst hc;refine .inr ⟨c,⟨v,ρ,σ,hK,hL.2 0 v c rfl rfl,hH,Ext.refl _ _ _⟩,fun w' _=>?_⟩;have g8:fn.body=none:=by simpa using h2
 have g7:¬ fn.name="runtime.NumGoroutine":=by simpa using h1
 simp[callFunc,hf,g7,g8,h3,h4,h5]
def isTrue:Value→Bool
 |.bool true=>true
 |_=>false
theorem Q0r {v:Value}(h:isTrue v=true):v=.bool true:=by
 unfold isTrue at h;split at h
 ·rfl
 ·cases h
theorem CA {P:Program}(hm:P.follows .mixedOrders=true) {T:Tab}(hT:TabOk P T) (n:Nat) {f:FuncId}{vc:VCode}{rl:List VResult}{nt:Nat}(hF:Fun P f vc rl nt) (dL:Nat.ble (ET.of [] nt).m 1000000=true)
  (he:RH T n VF [] vc none (ET.of [] nt) CH.empty (Q3r false rl fun v _=>isTrue v)=true) {σ:Heap}{K:Value→Heap→Prop}(hK:K (.bool true) σ):VCalled P f [] σ K :=
 Q3l hm hT n hF [] rfl (.bool true) rfl isTrue (fun _ h=>Q0r h) dL he hK
end Go.V
namespace Go.Proofs.Tryz
open Go Go.V Go.Proofs
theorem mixed:Tryz.prog.follows .mixedOrders=true:=by kernel_rfl
noncomputable def cof (fn:Func):VCode:=match fn.body.bind (comp Tryz.prog) with|some c=>c|none=>.bad
theorem Q7 {fn:Func}(h:(fn.body.bind (comp Tryz.prog)).isSome=true):fn.body.bind (comp Tryz.prog)=some (cof fn):=by
 unfold cof;cases h2:fn.body.bind (comp Tryz.prog) with
 |none=>rw[h2] at h;cases h
 |some c=>rfl
noncomputable def c2:VCode:=cof Tryz.f2
theorem Z4e:Fun Tryz.prog 2 c2 [] 1:=⟨Tryz.f2,Tryz.func2,Q7 (by kernel_rfl),by kernel_rfl,rfl,rfl⟩
noncomputable def c3:VCode:=cof Tryz.f3
theorem fun3:Fun Tryz.prog 3 c3 [.tmp 4] 142:=⟨Tryz.f3,Tryz.func3,Q7 (by kernel_rfl),by kernel_rfl,rfl,rfl⟩
noncomputable def c4:VCode:=cof Tryz.f4
theorem Z2u:Fun Tryz.prog 4 c4 [.cell 2 true 2] 48:=⟨Tryz.f4,Tryz.func4,Q7 (by kernel_rfl),by kernel_rfl,rfl,rfl⟩
noncomputable def c5:VCode:=cof Tryz.f5
theorem Z2y:Fun Tryz.prog 5 c5 [.cell 2 true 2] 51:=⟨Tryz.f5,Tryz.func5,Q7 (by kernel_rfl),by kernel_rfl,rfl,rfl⟩
noncomputable def c6:VCode:=cof Tryz.f6
theorem Z3y:Fun Tryz.prog 6 c6 [.cell 2 true 2,.tmp 3] 54:=⟨Tryz.f6,Tryz.func6,Q7 (by kernel_rfl),by kernel_rfl,rfl,rfl⟩
noncomputable def c7:VCode:=cof Tryz.f7
theorem Z2t:Fun Tryz.prog 7 c7 [.cell 2 true 2] 9:=⟨Tryz.f7,Tryz.func7,Q7 (by kernel_rfl),by kernel_rfl,rfl,rfl⟩
noncomputable def c8:VCode:=cof Tryz.f8
theorem Z3f:Fun Tryz.prog 8 c8 [.cell 4 true 2] 46:=⟨Tryz.f8,Tryz.func8,Q7 (by kernel_rfl),by kernel_rfl,rfl,rfl⟩
noncomputable def c9:VCode:=cof Tryz.f9
theorem Z41:Fun Tryz.prog 9 c9 [.tmp 4] 16:=⟨Tryz.f9,Tryz.func9,Q7 (by kernel_rfl),by kernel_rfl,rfl,rfl⟩
noncomputable def c10:VCode:=cof Tryz.f10
theorem Q9z:Fun Tryz.prog 10 c10 [.cell 2 true 2,.tmp 3] 34:=⟨Tryz.f10,Tryz.func10,Q7 (by kernel_rfl),by kernel_rfl,rfl,rfl⟩
noncomputable def c11:VCode:=cof Tryz.f11
theorem Q8j:Fun Tryz.prog 11 c11 [.cell 4 false 1,.tmp 5,.tmp 6] 86:=⟨Tryz.f11,Tryz.func11,Q7 (by kernel_rfl),by kernel_rfl,rfl,rfl⟩
noncomputable def c12:VCode:=cof Tryz.f12
theorem Q9b:Fun Tryz.prog 12 c12 [.cell 2 true 2] 9:=⟨Tryz.f12,Tryz.func12,Q7 (by kernel_rfl),by kernel_rfl,rfl,rfl⟩
noncomputable def c13:VCode:=cof Tryz.f13
theorem Z08:Fun Tryz.prog 13 c13 [.tmp 4] 38:=⟨Tryz.f13,Tryz.func13,Q7 (by kernel_rfl),by kernel_rfl,rfl,rfl⟩
noncomputable def c14:VCode:=cof Tryz.f14
theorem Q9d:Fun Tryz.prog 14 c14 [.tmp 6,.tmp 7,.tmp 8] 58:=⟨Tryz.f14,Tryz.func14,Q7 (by kernel_rfl),by kernel_rfl,rfl,rfl⟩
noncomputable def c15:VCode:=cof Tryz.f15
theorem Q9r:Fun Tryz.prog 15 c15 [.tmp 4] 19:=⟨Tryz.f15,Tryz.func15,Q7 (by kernel_rfl),by kernel_rfl,rfl,rfl⟩
noncomputable def c16:VCode:=cof Tryz.f16
theorem Z0a:Fun Tryz.prog 16 c16 [.tmp 6,.tmp 7] 61:=⟨Tryz.f16,Tryz.func16,Q7 (by kernel_rfl),by kernel_rfl,rfl,rfl⟩
noncomputable def c17:VCode:=cof Tryz.f17
theorem Z0b:Fun Tryz.prog 17 c17 [.tmp 4,.tmp 5] 43:=⟨Tryz.f17,Tryz.func17,Q7 (by kernel_rfl),by kernel_rfl,rfl,rfl⟩
noncomputable def c18:VCode:=cof Tryz.f18
theorem Z06:Fun Tryz.prog 18 c18 [.tmp 4] 26:=⟨Tryz.f18,Tryz.func18,Q7 (by kernel_rfl),by kernel_rfl,rfl,rfl⟩
noncomputable def c19:VCode:=cof Tryz.f19
theorem Q8b:Fun Tryz.prog 19 c19 [.tmp 0] 46:=⟨Tryz.f19,Tryz.func19,Q7 (by kernel_rfl),by kernel_rfl,rfl,rfl⟩
noncomputable def c20:VCode:=cof Tryz.f20
theorem Q8v:Fun Tryz.prog 20 c20 [.tmp 0] 31:=⟨Tryz.f20,Tryz.func20,Q7 (by kernel_rfl),by kernel_rfl,rfl,rfl⟩
noncomputable def c21:VCode:=cof Tryz.f21
theorem Q9k:Fun Tryz.prog 21 c21 [.tmp 0] 42:=⟨Tryz.f21,Tryz.func21,Q7 (by kernel_rfl),by kernel_rfl,rfl,rfl⟩
noncomputable def c22:VCode:=cof Tryz.f22
theorem Z0k:Fun Tryz.prog 22 c22 [.tmp 2] 6:=⟨Tryz.f22,Tryz.func22,Q7 (by kernel_rfl),by kernel_rfl,rfl,rfl⟩
noncomputable def c23:VCode:=cof Tryz.f23
theorem Q92:Fun Tryz.prog 23 c23 [.tmp 4] 10:=⟨Tryz.f23,Tryz.func23,Q7 (by kernel_rfl),by kernel_rfl,rfl,rfl⟩
noncomputable def c24:VCode:=cof Tryz.f24
theorem Z02:Fun Tryz.prog 24 c24 [.tmp 2] 6:=⟨Tryz.f24,Tryz.func24,Q7 (by kernel_rfl),by kernel_rfl,rfl,rfl⟩
noncomputable def c25:VCode:=cof Tryz.f25
theorem Q8w:Fun Tryz.prog 25 c25 [.cell 2 true 2] 10:=⟨Tryz.f25,Tryz.func25,Q7 (by kernel_rfl),by kernel_rfl,rfl,rfl⟩
noncomputable def c26:VCode:=cof Tryz.f26
theorem Q81:Fun Tryz.prog 26 c26 [.cell 2 true 3,.tmp 3] 43:=⟨Tryz.f26,Tryz.func26,Q7 (by kernel_rfl),by kernel_rfl,rfl,rfl⟩
noncomputable def c27:VCode:=cof Tryz.f27
theorem Z07:Fun Tryz.prog 27 c27 [.tmp 4] 12:=⟨Tryz.f27,Tryz.func27,Q7 (by kernel_rfl),by kernel_rfl,rfl,rfl⟩
noncomputable def c28:VCode:=cof Tryz.f28
theorem Q98:Fun Tryz.prog 28 c28 [.tmp 2] 4:=⟨Tryz.f28,Tryz.func28,Q7 (by kernel_rfl),by kernel_rfl,rfl,rfl⟩
noncomputable def c29:VCode:=cof Tryz.f29
theorem Z0x:Fun Tryz.prog 29 c29 [.tmp 4] 10:=⟨Tryz.f29,Tryz.func29,Q7 (by kernel_rfl),by kernel_rfl,rfl,rfl⟩
noncomputable def c30:VCode:=cof Tryz.f30
theorem Z05:Fun Tryz.prog 30 c30 [.tmp 4] 20:=⟨Tryz.f30,Tryz.func30,Q7 (by kernel_rfl),by kernel_rfl,rfl,rfl⟩
noncomputable def c31:VCode:=cof Tryz.f31
theorem Z0j:Fun Tryz.prog 31 c31 [.tmp 4] 26:=⟨Tryz.f31,Tryz.func31,Q7 (by kernel_rfl),by kernel_rfl,rfl,rfl⟩
noncomputable def c32:VCode:=cof Tryz.f32
theorem Q84:Fun Tryz.prog 32 c32 [.tmp 2] 8:=⟨Tryz.f32,Tryz.func32,Q7 (by kernel_rfl),by kernel_rfl,rfl,rfl⟩
noncomputable def c33:VCode:=cof Tryz.f33
theorem Q96:Fun Tryz.prog 33 c33 [.tmp 2] 4:=⟨Tryz.f33,Tryz.func33,Q7 (by kernel_rfl),by kernel_rfl,rfl,rfl⟩
noncomputable def c34:VCode:=cof Tryz.f34
theorem Q8f:Fun Tryz.prog 34 c34 [.tmp 4] 28:=⟨Tryz.f34,Tryz.func34,Q7 (by kernel_rfl),by kernel_rfl,rfl,rfl⟩
noncomputable def c35:VCode:=cof Tryz.f35
theorem Z0y:Fun Tryz.prog 35 c35 [] 28:=⟨Tryz.f35,Tryz.func35,Q7 (by kernel_rfl),by kernel_rfl,rfl,rfl⟩
noncomputable def c36:VCode:=cof Tryz.f36
theorem Z0q:Fun Tryz.prog 36 c36 [.cell 2 true 3,.tmp 3] 30:=⟨Tryz.f36,Tryz.func36,Q7 (by kernel_rfl),by kernel_rfl,rfl,rfl⟩
noncomputable def c37:VCode:=cof Tryz.f37
theorem Z0s:Fun Tryz.prog 37 c37 [.tmp 6] 11:=⟨Tryz.f37,Tryz.func37,Q7 (by kernel_rfl),by kernel_rfl,rfl,rfl⟩
noncomputable def c38:VCode:=cof Tryz.f38
theorem Q9g:Fun Tryz.prog 38 c38 [.tmp 4] 26:=⟨Tryz.f38,Tryz.func38,Q7 (by kernel_rfl),by kernel_rfl,rfl,rfl⟩
noncomputable def c39:VCode:=cof Tryz.f39
theorem Q7w:Fun Tryz.prog 39 c39 [.tmp 6] 15:=⟨Tryz.f39,Tryz.func39,Q7 (by kernel_rfl),by kernel_rfl,rfl,rfl⟩
noncomputable def c40:VCode:=cof Tryz.f40
theorem Q87:Fun Tryz.prog 40 c40 [.tmp 2] 27:=⟨Tryz.f40,Tryz.func40,Q7 (by kernel_rfl),by kernel_rfl,rfl,rfl⟩
noncomputable def c41:VCode:=cof Tryz.f41
theorem Q80:Fun Tryz.prog 41 c41 [.tmp 2] 28:=⟨Tryz.f41,Tryz.func41,Q7 (by kernel_rfl),by kernel_rfl,rfl,rfl⟩
noncomputable def c42:VCode:=cof Tryz.f42
theorem Q7u:Fun Tryz.prog 42 c42 [.tmp 4] 22:=⟨Tryz.f42,Tryz.func42,Q7 (by kernel_rfl),by kernel_rfl,rfl,rfl⟩
noncomputable def c43:VCode:=cof Tryz.f43
theorem Z1j:Fun Tryz.prog 43 c43 [.tmp 2,.tmp 3] 49:=⟨Tryz.f43,Tryz.func43,Q7 (by kernel_rfl),by kernel_rfl,rfl,rfl⟩
noncomputable def c44:VCode:=cof Tryz.f44
theorem Z2i:Fun Tryz.prog 44 c44 [.tmp 4] 26:=⟨Tryz.f44,Tryz.func44,Q7 (by kernel_rfl),by kernel_rfl,rfl,rfl⟩
noncomputable def c45:VCode:=cof Tryz.f45
theorem Z2n:Fun Tryz.prog 45 c45 [.cell 4 true 2,.tmp 5,.tmp 6] 78:=⟨Tryz.f45,Tryz.func45,Q7 (by kernel_rfl),by kernel_rfl,rfl,rfl⟩
noncomputable def c46:VCode:=cof Tryz.f46
theorem Z1f:Fun Tryz.prog 46 c46 [.tmp 2,.tmp 3] 55:=⟨Tryz.f46,Tryz.func46,Q7 (by kernel_rfl),by kernel_rfl,rfl,rfl⟩
noncomputable def c47:VCode:=cof Tryz.f47
theorem Q99:Fun Tryz.prog 47 c47 [.tmp 2] 5:=⟨Tryz.f47,Tryz.func47,Q7 (by kernel_rfl),by kernel_rfl,rfl,rfl⟩
noncomputable def c48:VCode:=cof Tryz.f48
theorem Q9c:Fun Tryz.prog 48 c48 [] 14:=⟨Tryz.f48,Tryz.func48,Q7 (by kernel_rfl),by kernel_rfl,rfl,rfl⟩
noncomputable def c49:VCode:=cof Tryz.f49
theorem Q8h:Fun Tryz.prog 49 c49 [] 16:=⟨Tryz.f49,Tryz.func49,Q7 (by kernel_rfl),by kernel_rfl,rfl,rfl⟩
noncomputable def c50:VCode:=cof Tryz.f50
theorem Q82:Fun Tryz.prog 50 c50 [.tmp 2] 6:=⟨Tryz.f50,Tryz.func50,Q7 (by kernel_rfl),by kernel_rfl,rfl,rfl⟩
noncomputable def c51:VCode:=cof Tryz.f51
theorem Q8k:Fun Tryz.prog 51 c51 [.tmp 6] 11:=⟨Tryz.f51,Tryz.func51,Q7 (by kernel_rfl),by kernel_rfl,rfl,rfl⟩
noncomputable def c52:VCode:=cof Tryz.f52
theorem Z21:Fun Tryz.prog 52 c52 [] 19:=⟨Tryz.f52,Tryz.func52,Q7 (by kernel_rfl),by kernel_rfl,rfl,rfl⟩
noncomputable def c53:VCode:=cof Tryz.f53
theorem Q8a:Fun Tryz.prog 53 c53 [.tmp 4] 16:=⟨Tryz.f53,Tryz.func53,Q7 (by kernel_rfl),by kernel_rfl,rfl,rfl⟩
noncomputable def c54:VCode:=cof Tryz.f54
theorem Q9y:Fun Tryz.prog 54 c54 [.tmp 4] 9:=⟨Tryz.f54,Tryz.func54,Q7 (by kernel_rfl),by kernel_rfl,rfl,rfl⟩
noncomputable def c55:VCode:=cof Tryz.f55
theorem Q9a:Fun Tryz.prog 55 c55 [.tmp 4] 13:=⟨Tryz.f55,Tryz.func55,Q7 (by kernel_rfl),by kernel_rfl,rfl,rfl⟩
noncomputable def c56:VCode:=cof Tryz.f56
theorem Q9t:Fun Tryz.prog 56 c56 [.tmp 4] 13:=⟨Tryz.f56,Tryz.func56,Q7 (by kernel_rfl),by kernel_rfl,rfl,rfl⟩
noncomputable def c57:VCode:=cof Tryz.f57
theorem Q7v:Fun Tryz.prog 57 c57 [.tmp 6] 11:=⟨Tryz.f57,Tryz.func57,Q7 (by kernel_rfl),by kernel_rfl,rfl,rfl⟩
noncomputable def c58:VCode:=cof Tryz.f58
theorem Q9o:Fun Tryz.prog 58 c58 [.tmp 6] 11:=⟨Tryz.f58,Tryz.func58,Q7 (by kernel_rfl),by kernel_rfl,rfl,rfl⟩
noncomputable def c59:VCode:=cof Tryz.f59
theorem Z03:Fun Tryz.prog 59 c59 [.tmp 4] 17:=⟨Tryz.f59,Tryz.func59,Q7 (by kernel_rfl),by kernel_rfl,rfl,rfl⟩
noncomputable def c60:VCode:=cof Tryz.f60
theorem Q91:Fun Tryz.prog 60 c60 [.tmp 2] 4:=⟨Tryz.f60,Tryz.func60,Q7 (by kernel_rfl),by kernel_rfl,rfl,rfl⟩
noncomputable def c61:VCode:=cof Tryz.f61
theorem Q9s:Fun Tryz.prog 61 c61 [.tmp 6] 17:=⟨Tryz.f61,Tryz.func61,Q7 (by kernel_rfl),by kernel_rfl,rfl,rfl⟩
noncomputable def c62:VCode:=cof Tryz.f62
theorem Q93:Fun Tryz.prog 62 c62 [.tmp 2] 14:=⟨Tryz.f62,Tryz.func62,Q7 (by kernel_rfl),by kernel_rfl,rfl,rfl⟩
noncomputable def c63:VCode:=cof Tryz.f63
theorem Z1c:Fun Tryz.prog 63 c63 [.tmp 4] 25:=⟨Tryz.f63,Tryz.func63,Q7 (by kernel_rfl),by kernel_rfl,rfl,rfl⟩
noncomputable def c64:VCode:=cof Tryz.f64
theorem Z2o:Fun Tryz.prog 64 c64 [.tmp 4] 48:=⟨Tryz.f64,Tryz.func64,Q7 (by kernel_rfl),by kernel_rfl,rfl,rfl⟩
noncomputable def c65:VCode:=cof Tryz.f65
theorem Z1y:Fun Tryz.prog 65 c65 [.tmp 2] 32:=⟨Tryz.f65,Tryz.func65,Q7 (by kernel_rfl),by kernel_rfl,rfl,rfl⟩
noncomputable def c66:VCode:=cof Tryz.f66
theorem Z22:Fun Tryz.prog 66 c66 [.tmp 2] 11:=⟨Tryz.f66,Tryz.func66,Q7 (by kernel_rfl),by kernel_rfl,rfl,rfl⟩
noncomputable def c67:VCode:=cof Tryz.f67
theorem Z2c:Fun Tryz.prog 67 c67 [.tmp 2] 22:=⟨Tryz.f67,Tryz.func67,Q7 (by kernel_rfl),by kernel_rfl,rfl,rfl⟩
noncomputable def c68:VCode:=cof Tryz.f68
theorem Z2s:Fun Tryz.prog 68 c68 [.tmp 4] 48:=⟨Tryz.f68,Tryz.func68,Q7 (by kernel_rfl),by kernel_rfl,rfl,rfl⟩
noncomputable def c69:VCode:=cof Tryz.f69
theorem Z26:Fun Tryz.prog 69 c69 [.tmp 4] 10:=⟨Tryz.f69,Tryz.func69,Q7 (by kernel_rfl),by kernel_rfl,rfl,rfl⟩
noncomputable def c70:VCode:=cof Tryz.f70
theorem Z29:Fun Tryz.prog 70 c70 [.tmp 2] 7:=⟨Tryz.f70,Tryz.func70,Q7 (by kernel_rfl),by kernel_rfl,rfl,rfl⟩
noncomputable def c71:VCode:=cof Tryz.f71
theorem Q9i:Fun Tryz.prog 71 c71 [.tmp 4] 13:=⟨Tryz.f71,Tryz.func71,Q7 (by kernel_rfl),by kernel_rfl,rfl,rfl⟩
noncomputable def c72:VCode:=cof Tryz.f72
theorem Q9j:Fun Tryz.prog 72 c72 [] 148:=⟨Tryz.f72,Tryz.func72,Q7 (by kernel_rfl),by kernel_rfl,rfl,rfl⟩
noncomputable def c73:VCode:=cof Tryz.f73
theorem Q7x:Fun Tryz.prog 73 c73 [.tmp 2] 8:=⟨Tryz.f73,Tryz.func73,Q7 (by kernel_rfl),by kernel_rfl,rfl,rfl⟩
noncomputable def c74:VCode:=cof Tryz.f74
theorem Q8e:Fun Tryz.prog 74 c74 [.tmp 4] 13:=⟨Tryz.f74,Tryz.func74,Q7 (by kernel_rfl),by kernel_rfl,rfl,rfl⟩
noncomputable def c75:VCode:=cof Tryz.f75
theorem Q8s:Fun Tryz.prog 75 c75 [.tmp 3] 17:=⟨Tryz.f75,Tryz.func75,Q7 (by kernel_rfl),by kernel_rfl,rfl,rfl⟩
noncomputable def c76:VCode:=cof Tryz.f76
theorem Q95:Fun Tryz.prog 76 c76 [.tmp 4] 9:=⟨Tryz.f76,Tryz.func76,Q7 (by kernel_rfl),by kernel_rfl,rfl,rfl⟩
noncomputable def c77:VCode:=cof Tryz.f77
theorem Q9x:Fun Tryz.prog 77 c77 [.tmp 4] 19:=⟨Tryz.f77,Tryz.func77,Q7 (by kernel_rfl),by kernel_rfl,rfl,rfl⟩
noncomputable def c78:VCode:=cof Tryz.f78
theorem Q8m:Fun Tryz.prog 78 c78 [.tmp 2] 26:=⟨Tryz.f78,Tryz.func78,Q7 (by kernel_rfl),by kernel_rfl,rfl,rfl⟩
noncomputable def c79:VCode:=cof Tryz.f79
theorem Q8x:Fun Tryz.prog 79 c79 [.tmp 4] 13:=⟨Tryz.f79,Tryz.func79,Q7 (by kernel_rfl),by kernel_rfl,rfl,rfl⟩
noncomputable def c80:VCode:=cof Tryz.f80
theorem Q7o:Fun Tryz.prog 80 c80 [.tmp 4] 13:=⟨Tryz.f80,Tryz.func80,Q7 (by kernel_rfl),by kernel_rfl,rfl,rfl⟩
noncomputable def c81:VCode:=cof Tryz.f81
theorem Q8o:Fun Tryz.prog 81 c81 [] 20:=⟨Tryz.f81,Tryz.func81,Q7 (by kernel_rfl),by kernel_rfl,rfl,rfl⟩
noncomputable def c82:VCode:=cof Tryz.f82
theorem Z28:Fun Tryz.prog 82 c82 [.cell 6 false 1] 73:=⟨Tryz.f82,Tryz.func82,Q7 (by kernel_rfl),by kernel_rfl,rfl,rfl⟩
noncomputable def c83:VCode:=cof Tryz.f83
theorem Z2p:Fun Tryz.prog 83 c83 [.tmp 4,.tmp 5] 30:=⟨Tryz.f83,Tryz.func83,Q7 (by kernel_rfl),by kernel_rfl,rfl,rfl⟩
noncomputable def c84:VCode:=cof Tryz.f84
theorem Z1g:Fun Tryz.prog 84 c84 [.tmp 2] 5:=⟨Tryz.f84,Tryz.func84,Q7 (by kernel_rfl),by kernel_rfl,rfl,rfl⟩
noncomputable def c85:VCode:=cof Tryz.f85
theorem Z1v:Fun Tryz.prog 85 c85 [.tmp 4] 6:=⟨Tryz.f85,Tryz.func85,Q7 (by kernel_rfl),by kernel_rfl,rfl,rfl⟩
noncomputable def c86:VCode:=cof Tryz.f86
theorem Z2j:Fun Tryz.prog 86 c86 [.tmp 2] 4:=⟨Tryz.f86,Tryz.func86,Q7 (by kernel_rfl),by kernel_rfl,rfl,rfl⟩
noncomputable def c87:VCode:=cof Tryz.f87
theorem Z2q:Fun Tryz.prog 87 c87 [.tmp 2] 25:=⟨Tryz.f87,Tryz.func87,Q7 (by kernel_rfl),by kernel_rfl,rfl,rfl⟩
noncomputable def c88:VCode:=cof Tryz.f88
theorem Z0m:Fun Tryz.prog 88 c88 [] 53:=⟨Tryz.f88,Tryz.func88,Q7 (by kernel_rfl),by kernel_rfl,rfl,rfl⟩
noncomputable def c89:VCode:=cof Tryz.f89
theorem Z1p:Fun Tryz.prog 89 c89 [] 60:=⟨Tryz.f89,Tryz.func89,Q7 (by kernel_rfl),by kernel_rfl,rfl,rfl⟩
noncomputable def c90:VCode:=cof Tryz.f90
theorem Z1t:Fun Tryz.prog 90 c90 [] 67:=⟨Tryz.f90,Tryz.func90,Q7 (by kernel_rfl),by kernel_rfl,rfl,rfl⟩
noncomputable def c91:VCode:=cof Tryz.f91
theorem Z1o:Fun Tryz.prog 91 c91 [.tmp 8,.tmp 9] 63:=⟨Tryz.f91,Tryz.func91,Q7 (by kernel_rfl),by kernel_rfl,rfl,rfl⟩
noncomputable def c92:VCode:=cof Tryz.f92
theorem Z1z:Fun Tryz.prog 92 c92 [] 34:=⟨Tryz.f92,Tryz.func92,Q7 (by kernel_rfl),by kernel_rfl,rfl,rfl⟩
noncomputable def c93:VCode:=cof Tryz.f93
theorem Z2r:Fun Tryz.prog 93 c93 [.tmp 8] 141:=⟨Tryz.f93,Tryz.func93,Q7 (by kernel_rfl),by kernel_rfl,rfl,rfl⟩
noncomputable def c94:VCode:=cof Tryz.f94
theorem Z20:Fun Tryz.prog 94 c94 [.tmp 10] 90:=⟨Tryz.f94,Tryz.func94,Q7 (by kernel_rfl),by kernel_rfl,rfl,rfl⟩
noncomputable def c95:VCode:=cof Tryz.f95
theorem Z1m:Fun Tryz.prog 95 c95 [.tmp 10,.tmp 11] 178:=⟨Tryz.f95,Tryz.func95,Q7 (by kernel_rfl),by kernel_rfl,rfl,rfl⟩
noncomputable def c96:VCode:=cof Tryz.f96
theorem Z0r:Fun Tryz.prog 96 c96 [.tmp 2] 19:=⟨Tryz.f96,Tryz.func96,Q7 (by kernel_rfl),by kernel_rfl,rfl,rfl⟩
noncomputable def c97:VCode:=cof Tryz.f97
theorem Z0e:Fun Tryz.prog 97 c97 [.tmp 2] 25:=⟨Tryz.f97,Tryz.func97,Q7 (by kernel_rfl),by kernel_rfl,rfl,rfl⟩
noncomputable def c98:VCode:=cof Tryz.f98
theorem Q89:Fun Tryz.prog 98 c98 [.tmp 4] 19:=⟨Tryz.f98,Tryz.func98,Q7 (by kernel_rfl),by kernel_rfl,rfl,rfl⟩
noncomputable def c99:VCode:=cof Tryz.f99
theorem Q7s:Fun Tryz.prog 99 c99 [.tmp 2] 22:=⟨Tryz.f99,Tryz.func99,Q7 (by kernel_rfl),by kernel_rfl,rfl,rfl⟩
noncomputable def Z3h:VCode:=cof Tryz.f101
theorem Q94:Fun Tryz.prog 101 Z3h [.tmp 4] 6:=⟨Tryz.f101,Tryz.func101,Q7 (by kernel_rfl),by kernel_rfl,rfl,rfl⟩
noncomputable def Z2v:VCode:=cof Tryz.f102
theorem Q8q:Fun Tryz.prog 102 Z2v [.tmp 4,.tmp 5] 17:=⟨Tryz.f102,Tryz.func102,Q7 (by kernel_rfl),by kernel_rfl,rfl,rfl⟩
noncomputable def Z3c:VCode:=cof Tryz.f103
theorem Q9h:Fun Tryz.prog 103 Z3c [.tmp 4,.tmp 5] 51:=⟨Tryz.f103,Tryz.func103,Q7 (by kernel_rfl),by kernel_rfl,rfl,rfl⟩
noncomputable def Z3n:VCode:=cof Tryz.f104
theorem Z0o:Fun Tryz.prog 104 Z3n [.tmp 4] 13:=⟨Tryz.f104,Tryz.func104,Q7 (by kernel_rfl),by kernel_rfl,rfl,rfl⟩
noncomputable def Z31:VCode:=cof Tryz.f105
theorem Q8d:Fun Tryz.prog 105 Z31 [] 22:=⟨Tryz.f105,Tryz.func105,Q7 (by kernel_rfl),by kernel_rfl,rfl,rfl⟩
noncomputable def Z3q:VCode:=cof Tryz.f106
theorem Q7q:Fun Tryz.prog 106 Z3q [] 19:=⟨Tryz.f106,Tryz.func106,Q7 (by kernel_rfl),by kernel_rfl,rfl,rfl⟩
noncomputable def Z3j:VCode:=cof Tryz.f107
theorem Q8c:Fun Tryz.prog 107 Z3j [] 82:=⟨Tryz.f107,Tryz.func107,Q7 (by kernel_rfl),by kernel_rfl,rfl,rfl⟩
noncomputable def Z3g:VCode:=cof Tryz.f108
theorem Q9w:Fun Tryz.prog 108 Z3g [.tmp 2] 7:=⟨Tryz.f108,Tryz.func108,Q7 (by kernel_rfl),by kernel_rfl,rfl,rfl⟩
noncomputable def Z33:VCode:=cof Tryz.f109
theorem Q88:Fun Tryz.prog 109 Z33 [.tmp 2] 33:=⟨Tryz.f109,Tryz.func109,Q7 (by kernel_rfl),by kernel_rfl,rfl,rfl⟩
noncomputable def Z2w:VCode:=cof Tryz.f110
theorem Z09:Fun Tryz.prog 110 Z2w [.tmp 8] 18:=⟨Tryz.f110,Tryz.func110,Q7 (by kernel_rfl),by kernel_rfl,rfl,rfl⟩
noncomputable def Z3z:VCode:=cof Tryz.f111
theorem Q8g:Fun Tryz.prog 111 Z3z [.tmp 12] 41:=⟨Tryz.f111,Tryz.func111,Q7 (by kernel_rfl),by kernel_rfl,rfl,rfl⟩
noncomputable def Z3t:VCode:=cof Tryz.f112
theorem Q83:Fun Tryz.prog 112 Z3t [] 20:=⟨Tryz.f112,Tryz.func112,Q7 (by kernel_rfl),by kernel_rfl,rfl,rfl⟩
noncomputable def Z3x:VCode:=cof Tryz.f113
theorem Q9q:Fun Tryz.prog 113 Z3x [.tmp 10,.tmp 11] 32:=⟨Tryz.f113,Tryz.func113,Q7 (by kernel_rfl),by kernel_rfl,rfl,rfl⟩
theorem F4:Q3h Tryz.prog 100 (some .same):=Q4m (e:=Extern.AbiNoEscape.same) Tryz.func100 (by kernel_rfl) (by kernel_rfl) (by kernel_rfl) (by kernel_rfl) (fun _ _=>rfl)
end Go.Proofs.Tryz
namespace Go.V
open Go
inductive Kind where
 |i (k:IntKind)
 |bo
 |st
 |list (k:Kind)
 |pair (a b:Kind)
 deriving DecidableEq,Inhabited
abbrev Kind.T:Kind→Type
 |.i _=>Int
 |.bo=>Bool
 |.st=>List UInt8
 |.list k=>List k.T
 |.pair a b=>a.T×b.T
def Kind.size:Kind→Nat
 |.pair a b=>a.size+b.size
 |_=>1
def Kind.dflt:(k:Kind)→k.T
 |.i _=>(0:Int)
 |.bo=>false
 |.st=>([]:List UInt8)
 |.list _=>[]
 |.pair a b=>(a.dflt,b.dflt)
def Kind.one:Kind→Bool
 |.pair _ _=>false
 |_=>true
theorem Kind.size_pos:∀ k:Kind,0<k.size
 |.pair a b=>by have:=a.size_pos;simp only[Kind.size];omega
 |.i _|.bo|.st|.list _=>by simp[Kind.size]
theorem Kind.one_size:∀ {k:Kind},k.one=true→k.size=1
 |.pair _ _,h=>by cases h
 |.i _,_|.bo,_|.st,_|.list _,_=>rfl
def Kind.prim:Kind→Bool
 |.i _|.bo|.st=>true
 |_=>false
def Kind.keyk:Kind→Bool
 |.pair a b=>a.keyk&&b.keyk
 |k=>k.prim
abbrev AT:List Kind→Type
 |[]=>Unit
 |[k]=>k.T
 |k::k'::ks=>k.T×AT (k'::ks)
structure Gd where
 id:Nat
 want:Bool
 c:Bool
inductive DW where
 |out
 |el (i:Int) (off sz:Nat)
 |row (k:Kind) (x:List k.T) (i:Int)
 |rowp (k:Kind) (x:List k.T) (i j:Int) (off:Nat)
 |inn (k:Kind) (x:List k.T)
 |inp (k:Kind) (l:List k.T) (j:Int) (off:Nat)
 |dat
 |obx (c:Bool)
 |yv
inductive SV where
 |dd (o:Nat) (w:DW)
 |any
 |val (k:Kind) (x:k.T)
 |bid (n:Nat) (c:Bool)
 |grd (gs:List Gd) (v:SV)
 |nilS
 |nilP
 |nilM
 |nilF
 |lst (o:Nat)
 |sub (o:Nat) (lo n sz:Nat)
 |elp (o:Nat) (i:Int) (off sz:Nat)
 |rop (k:Kind) (l:List k.T) (i:Int) (off:Nat)
 |box (o:Nat) (off:Nat)
 |cp (l:List SV) (off:Nat)
 |map (o:Nat)
 |agg (l:List SV)
 |tup (l:List SV)
 |fn (f:Nat) (first dE:List SV)
 |pf (ks:List Kind) (r:Kind) (cX:AT ks→Prop) (p:AT ks→r.T)
structure LpD where
 i:Nat
 vals:List Value
 r:Loop
inductive LpS where
 |busy
 |rdy
 |ret
 |exit (id:Nat)
def LpS.st:LpS→LoopState
 |.busy=>.busy
 |.rdy=>.ready
 |.ret=>.done
 |.exit _=>.done
def LpS.pend:LpS→Option Code
 |.busy=>none
 |.rdy=>none
 |.ret=>some .ret
 |.exit id=>some (.exit id)
def LpS.live:LpS→Bool
 |.busy=>false
 |_=>true
inductive OB where
 |dead
 |lst (ty:Nat) (k:Kind) (xs:List k.T) (nl:Bool)
 |cells (l:List SV) (u:Option Nat)
 |map (kk vk:Kind) (m:List (kk.T×vk.T))
 |stk (l:List SV) (vals:List Value)
 |deep (ty:Nat) (q:Option Nat) (k:Kind) (xs:List k.T) (nl:Bool) (hole:Option Nat)
 |iter (kk vk:Kind) (m:List (kk.T×vk.T)) (dn:List Nat)
 |mapE (kk vk:Kind) (m:List (kk.T×vk.T)) (key:kk.T) (n:Int)
 |lpf (l:List SV) (q:LpD) (s:LpS)
instance:Inhabited SV:=⟨.any⟩
instance:Inhabited OB:=⟨.dead⟩
inductive Rows {α:Type}(R:α→List Value→Prop):List α→List Value→Prop
 |nil:Rows R [] []
 |cons {x:α}{xs:List α}{c cs:List Value}(h:R x c) (t:Rows R xs cs):Rows R (x::xs) (c++cs)
def SlRel (h:Heap) (sz:Nat) {α:Type}(R:α→List Value→Prop) (l:List α) (v:Value):Prop :=
 (l=[]∧v=.slice none 0 0)∨∃ i o cap c e wr t,v=.slice (some ⟨i,o,none⟩) l.length cap∧l.length≤cap∧h.get i=some (.cells c e wr t)∧e.sz=sz∧o+l.length*sz≤c.length∧Rows R l ((c.drop o).take (l.length*sz))
def KC (h:Heap):(k:Kind)→k.T→List Value→Prop
 |.i ik,x,cs=>cs=[.int ik x]
 |.bo,x,cs=>cs=[.bool x]
 |.st,x,cs=>cs=[.string ⟨x.toArray⟩]
 |.list k,l,cs=>∃ v,cs=[v]∧SlRel h k.size (fun x c=>KC h k x c) l v
 |.pair a b,x,cs=>∃ c1 c2,cs=c1++c2∧KC h a x.1 c1∧KC h b x.2 c2
theorem Rows.length {α:Type}{R:α→List Value→Prop}{n:Nat}(hR:∀ x c,R x c→c.length=n) {xs:List α}{cs:List Value}(h:Rows R xs cs):cs.length=xs.length*n:=by
 induction h with
 |nil=>simp
 |cons h _ ih=>simp only[List.length_append,hR _ _ h,ih,List.length_cons,Nat.add_mul,Nat.one_mul];omega
theorem Rows.mono {α:Type}{R R':α→List Value→Prop}(hR:∀ x c,R x c→R' x c) {xs:List α}{cs:List Value}(h:Rows R xs cs):Rows R' xs cs:=by
 induction h with
 |nil=>exact .nil
 |cons h _ ih=>exact .cons (hR _ _ h) ih
theorem Rows.append {α:Type}{R:α→List Value→Prop}{xs ys:List α}{cs ds:List Value}(h:Rows R xs cs) (h':Rows R ys ds):Rows R (xs++ys) (cs++ds):=by
 induction h with
 |nil=>exact h'
 |cons h _ ih=>rw[List.append_assoc];exact .cons h ih
theorem Rows.at {α:Type}{R:α→List Value→Prop}{n:Nat}(hR:∀ x c,R x c→c.length=n) {xs:List α}{cs:List Value}(h:Rows R xs cs) {k:Nat}(hk:k<xs.length):R xs[k] ((cs.drop (k*n)).take n):=by
 induction h generalizing k with
 |nil=>simp at hk
 |@cons x xs c cs h t ih =>
  have hc:=hR _ _ h;cases k with
  |zero=>simp only[Nat.zero_mul,List.drop_zero,List.getElem_cons_zero];rw[←hc,List.take_left];exact h
  |succ k =>
   have:=ih (k:=k) (by simpa using hk);rw[List.getElem_cons_succ,Nat.add_mul,Nat.one_mul];have e:(c++cs).drop (k*n+n)=cs.drop (k*n):=by rw[List.drop_append,hc];rw[List.drop_eq_nil_of_le (by omega)];simp
   rw[e];exact this
theorem Rows.take {α:Type}{R:α→List Value→Prop}{n:Nat}(hR:∀ x c,R x c→c.length=n) {xs:List α}{cs:List Value}(h:Rows R xs cs) (k:Nat):Rows R (xs.take k) (cs.take (k*n)):=by
 induction h generalizing k with
 |nil=>simp;exact .nil
 |@cons x xs c cs h t ih =>
  have hc:=hR _ _ h;cases k with
  |zero=>simp;exact .nil
  |succ k =>have e1:c.take ((k+1)*n)=c:=List.take_of_length_le (by rw[hc,Nat.add_mul];omega);rw[List.take_succ_cons,List.take_append,hc,show (k+1)*n-n=k*n by rw[Nat.add_mul];omega,e1];exact .cons h (ih k)
theorem Rows.drop {α:Type}{R:α→List Value→Prop}{n:Nat}(hR:∀ x c,R x c→c.length=n) {xs:List α}{cs:List Value}(h:Rows R xs cs) (k:Nat):Rows R (xs.drop k) (cs.drop (k*n)):=by
 induction h generalizing k with
 |nil=>simp;exact .nil
 |@cons x xs c cs h t ih =>
  have hc:=hR _ _ h;cases k with
  |zero=>simp;exact .cons h t
  |succ k =>have e1:c.drop ((k+1)*n)=[]:=List.drop_eq_nil_of_le (by rw[hc,Nat.add_mul];omega);rw[List.drop_succ_cons,List.drop_append,hc,show (k+1)*n-n=k*n by rw[Nat.add_mul];omega,e1,List.nil_append];exact ih k
theorem Rows.set {α:Type}{R:α→List Value→Prop}{n:Nat}(hR:∀ x c,R x c→c.length=n) {xs:List α}{cs:List Value}(h:Rows R xs cs) {k:Nat}(hk:k<xs.length) {y:α}{d:List Value}(hd:R y d):Rows R (xs.set k y) (cs.take (k*n)++d++cs.drop (k*n+n)):=by
 have e:xs.set k y=xs.take k++([y]++xs.drop (k+1)):=by rw[List.set_eq_take_append_cons_drop,if_pos hk];rfl
 rw[e,List.append_assoc];have h2:=h.drop hR (k+1);rw[Nat.add_mul,Nat.one_mul] at h2;exact(h.take hR k).append ((show Rows R [y] d by simpa using Rows.cons hd .nil).append h2)
theorem Rows.replicate {α:Type}{R:α→List Value→Prop}{x:α}{c:List Value}(h:R x c):∀ n,Rows R (List.replicate n x) (List.replicate n c).flatten
 |0=>by simp;exact .nil
 |n+1=>by simp only[List.replicate_succ,List.flatten_cons];exact .cons h (Rows.replicate h n)
theorem KC.length {h:Heap}:∀ {k:Kind}{x:k.T}{cs:List Value},KC h k x cs→cs.length=k.size
 |.i _,_,_,e|.bo,_,_,e|.st,_,_,e=>by simp only[KC] at e;subst e;rfl
 |.list k,l,cs,e=>by obtain⟨v,rfl,_⟩:=e;rfl
 |.pair a b,x,cs,e=>by obtain⟨c1,c2,rfl,h1,h2⟩:=e;simp only[List.length_append,KC.length h1,KC.length h2,Kind.size]
theorem SlRel.mono {h h':Heap}(hl:h.Le h') {sz:Nat}{α:Type}{R R':α→List Value→Prop}(hR:∀ x c,R x c→R' x c) {l:List α}{v:Value}(hs:SlRel h sz R l v):SlRel h' sz R' l v:=by
 rcases hs with hs|⟨i,o,cap,c,e,wr,t,h1,h2,h3,h4,h5,h6⟩
 ·exact .inl hs
 ·exact .inr ⟨i,o,cap,c,e,wr,t,h1,h2,hl.2 _ _ h3,h4,h5,h6.mono hR⟩
theorem KC.mono {h h':Heap}(hl:h.Le h'):∀ {k:Kind}{x:k.T}{cs:List Value},KC h k x cs→KC h' k x cs
 |.i _,_,_,e|.bo,_,_,e|.st,_,_,e=>e
 |.list k,l,cs,e=>by obtain⟨v,hv,hs⟩:=e;exact⟨v,hv,hs.mono hl fun x c hx=>KC.mono (k:=k) hl hx⟩
 |.pair a b,x,cs,e=>by obtain⟨c1,c2,hc,h1,h2⟩:=e;exact⟨c1,c2,hc,KC.mono hl h1,KC.mono hl h2⟩
theorem KC.cellOk {h:Heap}:∀ {k:Kind}{x:k.T}{cs:List Value},KC h k x cs→cs.all cellOk=true
 |.i _,_,_,e|.bo,_,_,e|.st,_,_,e=>by simp only[KC] at e;subst e;rfl
 |.list k,l,cs,e=>by obtain⟨v,rfl,hs⟩:=e;rcases hs with⟨_,rfl⟩|⟨i,o,cap,c,e,wr,t,rfl,_⟩<;>rfl
 |.pair a b,x,cs,e=>by obtain⟨c1,c2,rfl,h1,h2⟩:=e;rw[List.all_append,KC.cellOk h1,KC.cellOk h2];rfl
def U_:(k:Kind)→k.T→List SV
 |.pair a b,x=>U_ a x.1++U_ b x.2
 |.i k,x=>[.val (.i k) x]
 |.bo,x=>[.val .bo x]
 |.st,x=>[.val .st x]
 |.list k,x=>[.val (.list k) x]
def EK:(k:Kind)→k.T→SV
 |.pair a b,x=>.agg (U_ (.pair a b) x)
 |.i k,x=>.val (.i k) x
 |.bo,x=>.val .bo x
 |.st,x=>.val .st x
 |.list k,x=>.val (.list k) x
inductive RowsO {α:Type}(R:α→List Value→List Nat→Prop):List α→List Value→List Nat→Prop
 |nil:RowsO R [] [] []
 |cons {x:α}{xs:List α}{c cs:List Value}{is js:List Nat}(h:R x c is) (t:RowsO R xs cs js):RowsO R (x::xs) (c++cs) (is++js)
def KO (H:Heap):(q:Option Nat)→(k:Kind)→k.T→List Value→List Nat→Prop
 |_,.i ik,x,cs,is=>cs=[.int ik x]∧is=[]
 |_,.bo,x,cs,is=>cs=[.bool x]∧is=[]
 |_,.st,x,cs,is=>cs=[.string ⟨x.toArray⟩]∧is=[]
 |q,.list k,l,cs,is=>(l=[]∧cs=[.slice none 0 0]∧is=[])∨∃ i cap c e t js,cs=[.slice (some ⟨i,0,none⟩) l.length cap]∧is=i::js∧l.length≤cap∧H.get i=some (.cells c e true t)∧e.sz=k.size∧(∀ ty,q=some ty→e.ty=ty)∧cap*k.size≤c.length ∧
   RowsO (fun x c is=>KO H none k x c is) l (c.take (l.length*k.size)) js
 |_,.pair a b,x,cs,is=>∃ c1 c2 i1 i2,cs=c1++c2∧is=i1++i2∧KO H none a x.1 c1 i1∧KO H none b x.2 c2 i2
def Z4c (i:Nat):Blk→Value
 |.cells c e _ t=>.tuple #[.int .i64 (i:Nat),.agg c.toArray,.int .i64 (e.sz:Nat),.int .i64 (e.ty:Nat),.bool t]
 |_=>.bool true
def Z3w:Value→Option (Nat×Blk)
 |.tuple ⟨[.int _ i,.agg c,.int _ sz,.int _ ty,.bool t]⟩=>some (i.toNat,.cells c.toList ⟨sz.toNat,ty.toNat⟩ true t)
 |_=>none
def Q8z:List Value→List (Nat×Blk)
 |[]=>[]
 |v::vs=>match Z3w v with|some p=>p::Q8z vs|none=>Q8z vs
def CP:List (Nat×Blk)→Nat→Option Blk
 |[],_=>none
 |(j,b)::r,i=>if i=j then some b else CP r i
def Q7m:List (Nat×Blk)→Nat
 |[]=>0
 |(j,_)::r=>max (j+1) (Q7m r)
theorem Ai:∀ (l:List (Nat×Blk)) (i:Nat),Q7m l≤i→CP l i=none
 |[],_,_=>rfl
 |(j,b)::r,i,h=>by
  simp only[Q7m] at h;have:¬ i=j:=by omega
  simp only[CP,if_neg this];exact Ai r i (by omega)
def Q6l (l:List (Nat×Blk)):Heap:=⟨CP l,Q7m l,fun i h=>Ai l i h⟩
def phd:Value→Value
 |.tuple ⟨v::_⟩=>v
 |v=>v
def XI:Value→Heap
 |.tuple ⟨_::vs⟩=>Q6l (Q8z vs)
 |_=>Q6l []
def DR (p:Value):DW→Value→Prop
 |.out,v=>v=phd p∧∃ a n c,v=.slice a n c
 |.el i off sz,v=>∃ b len cap,phd p=.slice (some ⟨b,0,none⟩) len cap∧0≤i∧i<len∧v=.pointer (some ⟨b,i.toNat*sz+off,none⟩)
 |.row k x i,v=>KC (XI p) (.list k) x [v]∧(∀ a n c,v=.slice (some a) n c→a.off=0)∧∃ b len cap c e t,phd p=.slice (some ⟨b,0,none⟩) len cap∧0≤i∧i<len∧(XI p).get b=some (.cells c e true t)∧c[i.toNat]?=some v
 |.rowp k x i j off,v=>∃ b len cap c e t r rl rc bL re rt,phd p=.slice (some ⟨b,0,none⟩) len cap∧0≤i∧i<len∧(XI p).get b=some (.cells c e true t)∧c[i.toNat]?=some (.slice (some ⟨r,0,none⟩) rl rc)∧0≤j∧j<rl∧x.length=rl∧(XI p).get r=some (.cells bL re true rt)∧rl*k.size≤bL.length∧Rows (KC (XI p) k) x (bL.take (rl*k.size))∧v=.pointer (some ⟨r,j.toNat*k.size+off,none⟩)
 |.inn k x,v=>KC (XI p) (.list k) x [v]
 |.inp k l j off,v=>∃ b o c e wr t,0≤j∧j<l.length∧(XI p).get b=some (.cells c e wr t)∧v=.pointer (some ⟨b,o+j.toNat*k.size+off,none⟩)∧o+l.length*k.size≤c.length∧Rows (KC (XI p) k) l ((c.drop o).take (l.length*k.size))
 |.dat,v=>(phd p=.slice none 0 0∧v=.pointer none)∨∃ b n cap,phd p=.slice (some ⟨b,0,none⟩) n cap∧0<n∧v=.pointer (some ⟨b,0,none⟩)
 |.yv,v=>∃ i,p=.pointer (some ⟨i,0,none⟩)∧v=.func (.yield i) #[] #[]
 |.obx c,v=>(c=false∧v=.pointer none)∨(c=true∧∃ b,phd p=.pointer (some ⟨b,0,none⟩)∧v=.pointer (some ⟨b,0,none⟩))
def KV (h:Heap) (k:Kind) (x:k.T) (v:Value):Prop:=(k.one=true∧KC h k x [v])∨(k.one=false∧∃ cs,v=.agg cs.toArray∧KC h k x cs)
theorem KV.mono {h h':Heap}(hl:h.Le h') {k:Kind}{x:k.T}{v:Value}(e:KV h k x v):KV h' k x v:=by
 rcases e with⟨ho,e⟩|⟨ho,cs,hv,e⟩
 ·exact .inl ⟨ho,e.mono hl⟩
 ·exact .inr ⟨ho,cs,hv,e.mono hl⟩
def SN (h:Heap):(ks:List Kind)→AT ks→List Value→Prop
 |[],_,vs=>vs=[]
 |[k],x,vs=>∃ v,vs=[v]∧KV h k x v
 |k::k'::ks,x,vs=>∃ v c_,vs=v::c_∧KV h k x.1 v∧SN h (k'::ks) x.2 c_
def gtb (tb:Nat→Option Bool):SV→Prop
 |.bid n c=>tb n=some c
 |_=>True
section
variable (P:Program)
def PfRel (B:Heap) (ks:List Kind) (r:Kind) (cX:AT ks→Prop) (p:AT ks→r.T) (v:Value):Prop :=
 ∃ g first cap,v=.func (.func g) first cap∧∀ x,cX x→∀ σ vs,B.Le σ→SN σ ks x vs→VCalled P g (first.toList++vs++cap.toList) σ fun v' σ'=>σ'=σ∧KV σ r (p x) v'
mutual
def SR (B:Heap) (pl:Nat→Value) (tb:Nat→Option Bool):SV→Value→Prop
 |.any,_=>True
 |.val k x,v=>KC B k x [v]
 |.bid n c,v=>v=.bool c∧tb n=some c
 |.grd gs v,u=>((∀ g∈gs,tb g.id=some g.c)∧gtb tb v)∧((∀ g∈gs,g.c=g.want)→SR B pl tb v u)∧((∃ g∈gs,g.c≠g.want)→u=undef)
 |.nilS,v=>v=.slice none 0 0
 |.nilP,v=>v=.pointer none
 |.nilM,v=>v=.map none
 |.nilF,v=>v=.nilFunc
 |.lst o,v=>v=pl o∧∃ a n c,v=.slice a n c
 |.sub o lo n sz,v=>(lo=0∧n=0∧v=.slice none 0 0∧pl o=.slice none 0 0)∨∃ i len cap au,pl o=.slice (some ⟨i,0,none⟩) len cap∧lo+n≤len∧n≤au∧v=.slice (some ⟨i,lo*sz,none⟩) n au
 |.elp o i off sz,v=>∃ b len cap,pl o=.slice (some ⟨b,0,none⟩) len cap∧0≤i∧i<len∧v=.pointer (some ⟨b,i.toNat*sz+off,none⟩)
 |.rop k l i off,v=>∃ b o c e wr t,0≤i∧i<l.length∧B.get b=some (.cells c e wr t)∧v=.pointer (some ⟨b,o+i.toNat*k.size+off,none⟩)∧o+l.length*k.size≤c.length∧Rows (KC B k) l ((c.drop o).take (l.length*k.size))
 |.box o off,v=>∃ b,pl o=.pointer (some ⟨b,0,none⟩)∧v=.pointer (some ⟨b,off,none⟩)
 |.cp l off,v=>∃ b c e wr t,B.get b=some (.cells c e wr t)∧v=.pointer (some ⟨b,off,none⟩)∧SRs B pl tb l c
 |.map o,v=>v=pl o∧∃ m,v=.map m
 |.agg l,v=>∃ cs,v=.agg cs.toArray∧SRs B pl tb l cs
 |.tup l,v=>∃ cs,v=.tuple cs.toArray∧SRs B pl tb l cs
 |.dd o w,v=>DR (pl o) w v
 |.fn f first dE,v=>∃ a b,v=.func (.func f) a.toArray b.toArray∧SRs B pl tb first a∧SRs B pl tb dE b
 |.pf ks r cX p,v=>PfRel P B ks r cX p v
def SRs (B:Heap) (pl:Nat→Value) (tb:Nat→Option Bool):List SV→List Value→Prop
 |[],vs=>vs=[]
 |s::ss,vs=>∃ v c_,vs=v::c_∧SR B pl tb s v∧SRs B pl tb ss c_
end
end
end Go.V
namespace Go.V
open Go
abbrev Own:=List (Nat×OB)
def Qc:Own→Nat→OB
 |[],_=>.dead
 |(k,b)::r,d=>bif Nat.beq k d then b else Qc r d
def oset:Own→Nat→OB→Own
 |[],d,b=>[(d,b)]
 |(k,c)::r,d,b=>bif Nat.beq k d then (d,b)::r else bif Nat.blt d k then (d,b)::(k,c)::r else (k,c)::oset r d b
structure St where
 env:List SV
 own:Own
 nx:Nat
mutual
def SV.kill (o:Nat):SV→SV
 |.lst o'=>bif Nat.beq o' o then .any else .lst o'
 |.sub o' lo n sz=>bif Nat.beq o' o then .any else .sub o' lo n sz
 |.elp o' i off sz=>bif Nat.beq o' o then .any else .elp o' i off sz
 |.dd o' w=>bif Nat.beq o' o then .any else .dd o' w
 |.box o' off=>bif Nat.beq o' o then .any else .box o' off
 |.map o'=>bif Nat.beq o' o then .any else .map o'
 |.grd gs v=>.grd gs (SV.kill o v)
 |.agg l=>.agg (SVs.kill o l)
 |.tup l=>.tup (SVs.kill o l)
 |.cp l off=>.cp (SVs.kill o l) off
 |.fn f a b=>.fn f (SVs.kill o a) (SVs.kill o b)
 |.any=>.any
 |.val k x=>.val k x
 |.bid n c=>.bid n c
 |.nilS=>.nilS
 |.nilP=>.nilP
 |.nilM=>.nilM
 |.nilF=>.nilF
 |.rop k l i off=>.rop k l i off
 |.pf ks r cX p=>.pf ks r cX p
def SVs.kill (o:Nat):List SV→List SV
 |[]=>[]
 |s::ss=>SV.kill o s::SVs.kill o ss
end
def OB.kill (o:Nat):OB→OB
 |.cells l u=>.cells (SVs.kill o l) u
 |.dead=>.dead
 |.lst ty k xs nl=>.lst ty k xs nl
 |.map kk vk m=>.map kk vk m
 |.stk l vals=>.stk (SVs.kill o l) vals
 |.deep ty q k xs nl h=>.deep ty q k xs nl h
 |.iter kk vk m dn=>.iter kk vk m dn
 |.mapE kk vk m key n=>.mapE kk vk m key n
 |.lpf l q s=>.lpf (SVs.kill o l) q s
def Om (o:Nat):Own→Own
 |[]=>[]
 |(k,b)::r=>bif Nat.beq k o then Om o r else (k,b.kill o)::Om o r
def St.kill (s:St) (o:Nat):St:=⟨SVs.kill o s.env,Om o s.own,s.nx⟩
def St.make (s:St) (o:Nat) (b:OB):St:=⟨(s.kill o).env,oset (s.kill o).own o b,s.nx⟩
def St.put (s:St) (d:Option Nat) (v:SV):St:=match d with
 |some d=>⟨s.env.set d v,s.own,s.nx⟩
 |none=>s
def cvp:Value→SV
 |.bool b=>.val .bo b
 |.int k x=>.val (.i k) x
 |.string s=>.val .st s.data.toList
 |.pointer none=>.nilP
 |.slice none 0 0=>.nilS
 |.map none=>.nilM
 |.nilFunc=>.nilF
 |_=>.any
def cv:Value→SV
 |.agg cs=>.agg (cs.toList.map cvp)
 |v=>cvp v
def Q73:List Gd→List Gd→Bool
 |[],_=>true
 |_::_,[]=>false
 |a::l,b::m=>bif Nat.beq a.id b.id&&(a.want==b.want) then Q73 l m else Q73 (a::l) m
def Q1i (gs:List Gd):SV→SV
 |.grd g v=>bif Q73 g gs then v else .any
 |v=>v
def gev (gs:List Gd) (env:List SV):Operand→SV
 |.tmp t=>Q1i gs (env.getD t .any)
 |.const v=>cv v
 |.func f=>.fn f [] []
 |.global _=>.any
def UM {k:Kind}(l:List k.T) (k':Kind):Option (List k'.T):=if h:k=k' then some (h▸l) else none
def Q0i {k:Kind}(x:k.T) (k':Kind):Option k'.T:=if h:k=k' then some (h▸x) else none
def asB:SV→Option Bool
 |.val .bo b=>some b
 |.bid _ c=>some c
 |_=>none
def asI:SV→Option (IntKind×Int)
 |.val (.i k) x=>some (k,x)
 |_=>none
def asS:SV→Option (List UInt8)
 |.val .st x=>some x
 |_=>none
def Kind.flat:Kind→Bool
 |.list _=>false
 |.pair a b=>a.flat&&b.flat
 |_=>true
def view (own:Own) (k:Kind):SV→Option (List k.T)
 |.nilS=>some []
 |.val (.list _k') l=>UM l k
 |.lst o=>match Qc own o with|.lst _ _k' xs _=>UM xs k|_=>none
 |.sub o lo n sz=>match Qc own o with|.lst _ k' xs _=>if sz=k'.size then (UM xs k).map fun xs=>(xs.drop lo).take n else none|_=>none
 |.dd o w=>bif k.flat then (match Qc own o with
  |.deep _ _ _ xs _ h=>(match w with
   |.out=>(match h with|none=>UM xs k|some _=>none)
   |.inn _ l=>UM l k
   |.row _ l _=>UM l k
   |_=>none)
  |_=>none) else none
 |_=>none
def Z1n (own:Own):SV→Option Nat
 |.nilS=>some 0
 |.val (.list _) l=>some l.length
 |.lst o=>match Qc own o with|.lst _ _ xs _=>some xs.length|_=>none
 |.sub _ _ n _=>some n
 |.dd o w=>(match Qc own o with
  |.deep _ _ _ xs _ h=>(match w with
   |.out=>(match h with|none=>some xs.length|some _=>none)
   |.inn _ l=>some l.length
   |.row _ l _=>some l.length
   |_=>none)
  |_=>none)
 |_=>none
def SV.solid:SV→Bool
 |.agg _|.tup _|.any|.grd _ _=>false
 |_=>true
def Gp:SV→Option (List SV)
 |.agg l=>bif l.all SV.solid then some l else none
 |.tup _=>none
 |.any=>none
 |.grd _ _=>none
 |v=>some [v]
def S_:(k:Kind)→List SV→Option k.T
 |.i ik,[v]=>match v with|.val (.i sF) x=>if ik=sF then some x else none|_=>none
 |.bo,[v]=>asB v
 |.st,[v]=>asS v
 |.list k,[v]=>match v with|.nilS=>some []|.val (.list _k') l=>UM l k|_=>none
 |.pair a b,l=>match S_ a (l.take a.size),S_ b (l.drop a.size) with
  |some x,some y=>some (x,y)
  |_,_=>none
 |_,_=>none
def dkV (k:Kind) (v:SV):Option k.T:=bif k.one then S_ k [v] else match v with|.agg l=>S_ k l|_=>none
def Iv (k:Kind) (z:Value):List Value:=bif k.one then [z] else match z with|.agg a=>a.toList|_=>[]
def Q8l:(k:Kind)→Nat→SV→k.T→Option k.T
 |.pair a b,off,v,x=>bif Nat.blt off a.size then (Q8l a off v x.1).map fun y=>(y,x.2) else (Q8l b (off-a.size) v x.2).map fun y=>(x.1,y)
 |.i ik,_,v,_=>S_ (.i ik) [v]
 |.bo,_,v,_=>S_ .bo [v]
 |.st,_,v,_=>S_ .st [v]
 |.list k,_,v,_=>S_ (.list k) [v]
def Vb:Kind→List Value→Bool
 |.i ik,[.int k x]=>decide (ik=k)&&(x==0)
 |.bo,[.bool b]=>!b
 |.st,[.string s]=>s.data.toList.isEmpty
 |.list _,[.slice none 0 0]=>true
 |.pair a b,l=>Vb a (l.take a.size)&&Vb b (l.drop a.size)
 |_,_=>false
def InK (k:IntKind) (x:Int):Prop:=k.min≤x∧x≤k.max
def Q7d:List Gd→Prop→Prop
 |[],p=>p
 |g::gs,p=>g.c=g.want→Q7d gs p
def Lq (gs:List Gd):List Prop→Prop→Prop
 |[],q=>q
 |c::cs,q=>Q7d gs c∧Lq gs cs q
abbrev CSp:=(SV→List SV→Option (Prop×SV))→List SV→Option (Prop×SV×List OB)
abbrev XSp:=Nat→List SV→St→(SV→St→Prop)→Prop
abbrev ISp:=List SV→Option (Prop×Nat×Nat×(Nat→List SV))
abbrev YSp:=List SV→St→(SV→St→Prop)→Prop
abbrev Q7a:=Nat→List SV→Nat×YSp→St→(St→Prop)→Prop
structure Cx where
 kt:List (Nat×Kind)
 cs:List (Nat×CSp)
 nt:Nat
 raw:List Nat
 off:Nat
 xs:List (Nat×XSp)
 it:List (Nat×ISp)
 el:List (Nat×Nat):=[]
 jn:List Nat:=[]
 nm:Bool:=false
 yl:List (Nat×YSp):=[]
 iy:List (Nat×Q7a):=[]
 spl:List Nat:=[]
 xf:List (Nat×Nat):=[]
def QE {α:Type _}:List (Nat×α)→Nat→Option α
 |[],_=>none
 |(k,x)::r,d=>bif Nat.beq k d then some x else QE r d
mutual
def Rt (own:Own) (bx:List SV→Nat→SV):SV→SV
 |.lst o=>match Qc own o with|.lst _ k xs _=>.val (.list k) xs|_=>.any
 |.sub o lo n sz=>match Qc own o with|.lst _ k xs _=>if sz=k.size then .val (.list k) ((xs.drop lo).take n) else .any|_=>.any
 |.box o off=>match Qc own o with|.cells l _=>bx l off|_=>.any
 |.agg l=>.agg (Rj own bx l)
 |.fn f a b=>.fn f (Rj own bx a) (Rj own bx b)
 |.bid _ c=>.val .bo c
 |.val k x=>.val k x
 |.nilS=>.nilS
 |.nilP=>.nilP
 |.nilM=>.nilM
 |.nilF=>.nilF
 |.rop k l i off=>.rop k l i off
 |.cp l off=>.cp (Rj own bx l) off
 |.pf ks r cX p=>.pf ks r cX p
 |.any=>.any
 |.grd _ _=>.any
 |.elp _ _ _ _=>.any
 |.dd o w=>(match Qc own o with
  |.deep _ _ k xs _ h=>(match w with
   |.out=>(match h with|none=>.val (.list k) xs|some _=>.any)
   |.inn k x=>.val (.list k) x
   |.row k x _=>.val (.list k) x
   |_=>.any)
  |_=>.any)
 |.map _=>.any
 |.tup _=>.any
def Rj (own:Own) (bx:List SV→Nat→SV):List SV→List SV
 |[]=>[]
 |s::ss=>Rt own bx s::Rj own bx ss
end
def Z3p (own:Own) (l:List SV):List SV:=Rj own (fun _ _=>.any) l
def Z39 (own:Own) (l:List SV):List SV:=Rj own (fun c off=>.cp (Z3p own c) off) l
def Z44 (own:Own) (l:List SV):List SV:=Rj own (fun c off=>.cp (Z39 own c) off) l
def Sw (own:Own) (l:List SV):List SV:=Z44 own l
def Ta:BinOp→Int→Int→Int
 |.add,a,b=>a+b
 |.sub,a,b=>a-b
 |_,a,b=>a*b
def Q5p (a b:Int):Int:=if b > a then b else a
def Z36 (a b:Int):Int:=if b<a then b else a
def JC (k:IntKind) (x y:Int):Int:=x*2 ^ (Nat.min y.toNat k.bits)
def Qy (k:IntKind) (x y:Int):Int:=x.fdiv (2 ^ (Nat.min y.toNat k.bits))
def gfill (c:List SV):List (Nat×Nat×SV)→Option (List SV)
 |[]=>some c
 |(o,sz,v)::rest=>match Gp v with
  |some vs=>if vs.length=sz∧o+sz≤c.length then gfill (setS c o vs) rest else none
  |none=>none
 where setS (c:List SV) (o:Nat):List SV→List SV
 |[]=>c
 |v::vs=>setS (c.set o v) (o+1) vs
def P9 (agg:Bool) (size:Nat) (l:List SV) (off:Nat):Option SV :=
 bif agg then (if off+size≤l.length then some (.agg ((l.drop off).take size)) else none) else l[off]?
def GA (o:Nat):(k:Kind)→k.T→List SV
 |.pair a b,x=>GA o a x.1++GA o b x.2
 |.list k,x=>[.dd o (.inn k x)]
 |.i k,x=>[.val (.i k) x]
 |.bo,x=>[.val .bo x]
 |.st,x=>[.val .st x]
def Z2a (o:Nat) (i:Int):(k:Kind)→k.T→List SV
 |.list k,x=>[.dd o (.row k x i)]
 |.pair a b,x=>GA o (.pair a b) x
 |.i k,x=>[.val (.i k) x]
 |.bo,x=>[.val .bo x]
 |.st,x=>[.val .st x]
def Q31 (own:Own) (agg:Bool) (size:Nat):SV→Option SV
 |.box o off=>match Qc own o with|.cells l _=>P9 agg size l off|_=>none
 |.cp l off=>P9 agg size l off
 |.elp o i off sz=>match Qc own o with|.lst _ k xs _=>if sz=k.size∧off+size≤sz then P9 agg size (U_ k (xs.getD i.toNat k.dflt)) off else none|_=>none
 |.rop k l i off=>if off+size≤k.size then P9 agg size (U_ k (l.getD i.toNat k.dflt)) off else none
 |.dd o w=>(match Qc own o with
  |.deep _ _ k xs _ h=>(match h with
   |none=>(match w with
    |.el i off sz=>if sz=k.size∧off+size≤sz then P9 agg size (Z2a o i k (xs.getD i.toNat k.dflt)) off else none
    |.rowp k' x _ j off=>if off+size≤k'.size then P9 agg size (GA o k' (x.getD j.toNat k'.dflt)) off else none
    |.inp k' l j off=>if off+size≤k'.size then P9 agg size (GA o k' (l.getD j.toNat k'.dflt)) off else none
    |_=>none)
   |some _=>none)
  |_=>none)
 |_=>none
def WU (ev:Operand→SV):Option Operand→Int→Option Int
 |none,d=>some d
 |some x,_=>(asI (ev x)).map (·.2)
def O_ (k:MK) (a b:SV):Option Bool:=match k with
 |.int q=>(match asI a,asI b with|some (q1,x),some (q2,y)=>if q1=q∧q2=q then some (x==y) else none|_,_=>none)
 |.bool=>(match asB a,asB b with|some x,some y=>some (x==y)|_,_=>none)
 |.string=>(match asS a,asS b with|some x,some y=>some (x==y)|_,_=>none)
 |.agg _=>none
def Tn:List MK→List SV→List SV→Option Bool
 |[],_,_=>none
 |k::ks,a::l,b::m=>(match ks with
  |[]=>(match l,m with|[],[]=>O_ k a b|_,_=>none)
  |k'::ks=>(match O_ k a b,Tn (k'::ks) l m with|some x,some y=>some (x&&y)|_,_=>none))
 |_::_,_,_=>none
def Kj (xs:List Int):List UInt8:=xs.map fun x=>x.toNat.toUInt8
def gq (_kt:List (Nat×Kind)) (raw:Bool) (o:VOp) (ev:Operand→SV) (own:Own):Option (List Prop×SV) :=
 match o with
 |.move x=>some ([],ev x)
 |.arith op x y=>match asI (ev x),asI (ev y) with
  |some (k,a),some (k',b)=>if k=k' then (bif raw then some ([],.val (.i k) (k.wrap (Ta op a b))) else some ([InK k (Ta op a b)],.val (.i k) (Ta op a b))) else none
  |_,_=>none
 |.div op x y=>match asI (ev x),asI (ev y) with
  |some (k,a),some (k',b)=>if k=k' then (match op with
   |.quo=>some ([b≠0,InK k (a.tdiv b)],.val (.i k) (a.tdiv b))
   |_=>some ([b≠0],.val (.i k) (a.tmod b))) else none
  |_,_=>none
 |.bits op x y=>match asI (ev x),asI (ev y) with
  |some (k,a),some (k',b)=>if k=k' then some ([],.val (.i k) (Q9 op k a b)) else none
  |_,_=>none
 |.shift op x y=>match asI (ev x),asI (ev y) with
  |some (k,a),some (_,b)=>(match op with
   |.shl=>bif raw then some ([0≤b],.val (.i k) (k.wrap (JC k a b))) else some ([0≤b,InK k (JC k a b)],.val (.i k) (JC k a b))
   |_=>some ([0≤b],.val (.i k) (Qy k a b)))
  |_,_=>none
 |.cmp op x y=>match asI (ev x),asI (ev y) with
  |some (k,a),some (k',b)=>if k=k' then some ([],.val .bo (Z12 op a b)) else none
  |_,_=>none
 |.str op x y=>match asS (ev x),asS (ev y) with
  |some a,some b=>(match op with
   |.add=>some ([a.length+b.length≤4611686018427387904],.val .st (a++b))
   |.eql=>some ([],.val .bo (a==b))
   |.neq=>some ([],.val .bo (!(a==b)))
   |.lss=>some ([],.val .bo (Op.bytesLess a b))
   |_=>none)
  |_,_=>none
 |.eqB neg x y=>match asB (ev x),asB (ev y) with
  |some a,some b=>some ([],.val .bo (if neg then !(a==b) else (a==b)))
  |_,_=>none
 |.un op x=>match op with
  |.not=>match asB (ev x) with|some b=>some ([],.val .bo (!b))|none=>none
  |.neg=>match asI (ev x) with|some (k,n)=>some ([InK k (0-n)],.val (.i k) (0-n))|none=>none
  |.xor=>match asI (ev x) with|some (k,n)=>some ([],.val (.i k) (Q9 .xor k (if k.signed then -1 else k.max) n))|none=>none
  |_=>none
 |.convI k x=>match asI (ev x) with
  |some (_,n)=>bif raw then some ([],.val (.i k) (k.wrap n)) else some ([InK k n],.val (.i k) n)
  |none=>none
 |.convS x=>match asS (ev x) with|some s=>some ([],.val .st s)|none=>none
 |.build z parts=>match gfill (z.map cvp) (parts.map fun p=>(p.1,p.2.1,ev p.2.2)) with|some l=>some ([],.agg l)|none=>none
 |.load agg size a=>bif Nat.blt 0 size then (Q31 own agg size (ev a)).map fun v=>([],v) else none
 |.fieldAddr off a=>match ev a with
  |.box o f=>some ([],.box o (f+off))
  |.cp l f=>some ([],.cp l (f+off))
  |.elp o i f sz=>some ([],.elp o i (f+off) sz)
  |.dd o w=>(match w with
   |.el i f sz=>some ([],.dd o (.el i (f+off) sz))
   |.rowp k x i j f=>some ([],.dd o (.rowp k x i j (f+off)))
   |.inp k l j f=>some ([],.dd o (.inp k l j (f+off)))
   |_=>none)
  |.rop k l i f=>some ([],.rop k l i (f+off))
  |_=>none
 |.field agg off size x=>match ev x with|.agg l=>(P9 agg size l off).map fun v=>([],v)|_=>none
 |.indexAddr size x i=>match ev x,asI (ev i) with
  |.lst o,some (_,j)=>(match Qc own o with|.lst _ k xs _=>if k.size=size then some ([0≤j,j<xs.length],.elp o j 0 size) else none|_=>none)
  |.dd o w,some (_,j)=>(match Qc own o with
   |.deep _ _ k xs _ h=>(match w with
    |.out=>(match h with|none=>(if k.size=size then some ([0≤j,j<xs.length],.dd o (.el j 0 size)) else none)|some _=>(if k.size=size then some ([0≤j,j<xs.length],.dd o (.el j 0 size)) else none))
    |.row k x i=>if k.size=size then some ([0≤j,j<x.length],.dd o (.rowp k x i j 0)) else none
    |.inn k l=>if k.size=size then some ([0≤j,j<l.length],.dd o (.inp k l j 0)) else none
    |_=>none)
   |_=>none)
  |.sub o lo n sz,some (_,j)=>(match Qc own o with|.lst _ k _ _=>if k.size=size∧sz=size then some ([0≤j,j<n],.elp o (lo+j) 0 size) else none|_=>none)
  |.val (.list k) l,some (_,j)=>if k.size=size then some ([0≤j,j<l.length],.rop k l j 0) else none
  |_,_=>none
 |.indexStr x i=>match asS (ev x),asI (ev i) with
  |some s,some (_,j)=>some ([0≤j,j<s.length],.val (.i .u8) ((s.getD j.toNat 0).toNat:Int))
  |_,_=>none
 |.indexArr len agg size x i=>match ev x,i with
  |.agg l,.const (.int _ (Int.ofNat j))=>if j<len then (P9 agg size l (j*size)).map fun v=>([],v) else none
  |_,_=>none
 |.indexAddrArr len size x i=>match ev x,i with
  |.box o f,.const (.int _ (Int.ofNat j))=>if j<len then some ([],.box o (f+j*size)) else none
  |.cp l f,.const (.int _ (Int.ofNat j))=>if j<len then some ([],.cp l (f+j*size)) else none
  |_,_=>none
 |.slice size x lo hi none=>match ev x with
  |.lst o=>(match Qc own o with
   |.lst _ k xs _=>if k.size=size then (match WU ev lo 0,WU ev hi xs.length with
    |some a,some b=>some ([0≤a,a≤b,b≤xs.length],.sub o a.toNat (b-a).toNat size)
    |_,_=>none) else none
   |_=>none)
  |.sub o l0 n sz=>(match Qc own o with
   |.lst _ k _ _=>if k.size=size∧sz=size then (match WU ev lo 0,WU ev hi n with
    |some a,some b=>some ([0≤a,a≤b,b≤n],.sub o (l0+a.toNat) (b-a).toNat size)
    |_,_=>none) else none
   |_=>none)
  |.val (.list k) l=>if k.size=size then (match WU ev lo 0,WU ev hi l.length with
   |some a,some b=>some ([0≤a,a≤b,b≤l.length],.val (.list k) ((l.drop a.toNat).take (b-a).toNat))
   |_,_=>none) else none
  |.dd o w=>(match Qc own o with
   |.deep _ _ _ _ _ _=>(match w with
    |.inn k l=>if k.size=size then (match WU ev lo 0,WU ev hi l.length with
     |some a,some b=>some ([0≤a,a≤b,b≤l.length],.dd o (.inn k ((l.drop a.toNat).take (b-a).toNat)))
     |_,_=>none) else none
    |.row k l _=>if k.size=size then (match WU ev lo 0,WU ev hi l.length with
     |some a,some b=>some ([0≤a,a≤b,b≤l.length],.dd o (.inn k ((l.drop a.toNat).take (b-a).toNat)))
     |_,_=>none) else none
    |_=>none)
   |_=>none)
  |.nilS=>(match WU ev lo 0,WU ev hi 0 with
   |some a,some b=>some ([a=0,b=0],.nilS)
   |_,_=>none)
  |_=>none
 |.sliceStr x lo hi=>match asS (ev x) with
  |some s=>(match WU ev lo 0,WU ev hi s.length with
   |some a,some b=>some ([0≤a,a≤b,b≤s.length],.val .st ((s.drop a.toNat).take (b-a).toNat))
   |_,_=>none)
  |none=>none
 |.len x=>match Z1n own (ev x) with|some n=>some ([],.val (.i .i64) (n:Nat))|none=>none
 |.lenStr x=>match asS (ev x) with|some s=>some ([],.val (.i .i64) (s.length:Nat))|none=>none
 |.max4 x y z w=>match asI (ev x),asI (ev y),asI (ev z),asI (ev w) with
  |some (k,a),some (k2,b),some (k3,c),some (k4,d)=>if k=k2∧k=k3∧k=k4 then some ([],.val (.i k) (Q5p (Q5p (Q5p a b) c) d)) else none
  |_,_,_,_=>none
 |.max x y=>match asI (ev x),asI (ev y) with
  |some (k,a),some (k',b)=>if k=k' then some ([],.val (.i k) (Q5p a b)) else none
  |_,_=>none
 |.min x y=>match asI (ev x),asI (ev y) with
  |some (k,a),some (k',b)=>if k=k' then some ([],.val (.i k) (Z36 a b)) else none
  |_,_=>none
 |.makeFunc (.func f) first cap=>some ([],.fn f (first.map ev) (cap.map ev))
 |.extract x i=>match ev x with|.tup l=>(l[i]?).map fun v=>([],v)|_=>none
 |.nilCheck x=>match ev x with
  |.box o f=>some ([],.box o f)
  |.cp l f=>some ([],.cp l f)
  |.fn f a b=>some ([],.fn f a b)
  |_=>none
 |.ext (.eqNil 1 neg x y)=>match ev x,ev y with
  |.nilS,.nilS=>some ([],.val .bo (!neg))
  |.lst o,.nilS=>(match Qc own o with|.lst _ _ _ nl=>some ([],.val .bo (bif neg then !nl else nl))|_=>none)
  |.dd o .out,.nilS=>(match Qc own o with|.deep _ _ _ _ nl _=>some ([],.val .bo (bif neg then !nl else nl))|_=>none)
  |.val (.list _) l,.nilS=>some ([l≠[]],.val .bo neg)
  |_,_=>none
 |.ext (.eqNil 0 neg x y)=>match ev x,ev y with
  |.nilP,.nilP=>some ([],.val .bo (!neg))
  |.box _ _,.nilP=>some ([],.val .bo neg)
  |.cp _ _,.nilP=>some ([],.val .bo neg)
  |.dd _ (.obx c),.nilP=>some ([],.val .bo (bif neg then c else !c))
  |.dd o (.obx c),.box o' f=>(match Qc own o with
   |.cells _ _=>if o=o'∧f=0 then some ([c=true],.val .bo (!neg)) else none
   |_=>none)
  |_,_=>none
 |.ext (.eqAgg neg s x y)=>match ev x,ev y with
  |.agg l,.agg m=>(Tn s l m).map fun b=>([],.val .bo (bif neg then !b else b))
  |_,_=>none
 |.ext (.toUnsafe x)=>match ev x with
  |.box o f=>(match Qc own o with|.cells l _=>if f<l.length then some ([],.box o f) else none|_=>none)
  |_=>none
 |.ext (.fromUnsafe u size x)=>match ev x with
  |.box o f=>(match Qc own o with
   |.cells l (some t)=>if f=0∧t=u∧size≤l.length then some ([],.box o 0) else none
   |_=>none)
  |_=>none
 |.ext (.bytesStr x)=>match view own (.i .u8) (ev x) with
  |some xs=>some ([],.val .st (Kj xs))
  |none=>none
 |.ext (.sliceData x)=>match ev x with
  |.nilS=>some ([],.nilP)
  |.lst o=>(match Qc own o with|.lst _ _ xs nl=>some ([nl=false→xs≠[]],.dd o .dat)|_=>none)
  |_=>none
 |.ext (.lookup mk z ok x i)=>match ev x with
  |.map o=>(match Qc own o with
   |.map kk vk m=>if mkOk mk kk=true∧Vb vk (Iv vk z)=true then (match dkV kk (ev i) with
    |some key=>(if ok then some ([],.tup [EK vk (aget kk m key vk.dflt),.val .bo (ahas kk m key)]) else some ([],EK vk (aget kk m key vk.dflt)))
    |none=>none) else none
   |_=>none)
  |_=>none
 |.ext (.entry x)=>match ev x with
  |.box o f=>(match Qc own o with
   |.iter kk vk m dn=>if f=0∧kk.keyk=true∧vk.one=true then some ([dn≠[]],.tup [EK kk (m.getD (dn.getLastD 0) (kk.dflt,vk.dflt)).1,.val vk (m.getD (dn.getLastD 0) (kk.dflt,vk.dflt)).2]) else none
   |_=>none)
  |_=>none
 |.ext (.lenMap x)=>match ev x with
  |.map o=>(match Qc own o with|.map _ _ m=>some ([],.val (.i .i64) m.length)|_=>none)
  |_=>none
 |_=>none
 where
 mkP:MK→Kind→Bool
  |.int k,.i k'=>decide (k=k')
  |.string,.st=>true
  |.bool,.bo=>true
  |_,_=>false
 mkAt:Kind→List MK→Option (List MK)
  |.pair a b,l=>(match mkAt a l with|some r=>mkAt b r|none=>none)
  |k,m::r=>bif mkP m k then some r else none
  |_,[]=>none
 mkOk (m:MK) (k:Kind):Bool:=bif k.one then mkP m k else match m with
  |.agg l=>(match mkAt k l with|some []=>true|_=>false)
  |_=>false
 keq:(k:Kind)→k.T→k.T→Bool
  |.i _,(a:Int),b=>a==b
  |.bo,(a:Bool),b=>a==b
  |.st,(a:List UInt8),b=>a==b
  |.pair k l,x,y=>keq k x.1 y.1&&keq l x.2 y.2
  |_,_,_=>false
 aget (kk:Kind) {V:Type}:List (kk.T×V)→kk.T→V→V
  |[],_,d=>d
  |(k,v)::r,key,d=>if keq kk key k then v else aget kk r key d
 ahas (kk:Kind) {V:Type}:List (kk.T×V)→kk.T→Bool
  |[],_=>false
  |(k,_)::r,key=>keq kk key k||ahas kk r key
end Go.V
namespace Go.V
open Go
def CM (kk:Kind) {V:Type}:List (kk.T×V)→kk.T→V→List (kk.T×V)
 |[],key,v=>[(key,v)]
 |(k,x)::r,key,v=>if gq.keq kk key k then (key,v)::r else (k,x)::CM kk r key v
mutual
def SV.ret (n:Nat):SV→Bool
 |.val k _=>k.flat
 |.nilS|.nilP|.nilM|.nilF=>true
 |.lst j=>Nat.blt j n
 |.box j _=>Nat.blt j n
 |.map j=>Nat.blt j n
 |.dd j w=>(match w with|.out=>Nat.blt j n|_=>false)
 |.agg l=>SVs.ret n l
 |.tup l=>SVs.ret n l
 |_=>false
def SVs.ret (n:Nat):List SV→Bool
 |[]=>true
 |s::ss=>SV.ret n s&&SVs.ret n ss
end
mutual
def Vx:SV→Bool
 |.val k _=>k.one
 |.box _ _=>false
 |.map _=>false
 |.dd _ _=>false
 |.agg l=>Ma l
 |.tup l=>Ma l
 |_=>true
def Ma:List SV→Bool
 |[]=>true
 |s::ss=>Vx s&&Ma ss
end
def OB.isL:OB→Bool
 |.lst _ _ _ _=>true
 |_=>false
def OB.ret:OB→Bool
 |.lst _ k _ _=>k.flat
 |.cells l _=>SVs.ret 0 l
 |.map kk vk _=>kk.flat&&vk.flat
 |.dead=>false
 |.stk _ _=>false
 |.deep _ _ _ _ _ h=>h.isNone
 |.iter _ _ _ _=>false
 |.mapE _ _ _ _ _=>false
 |.lpf _ _ _=>false
def gap (cs:List (Nat×CSp)):Nat→SV→List SV→Option (Prop×SV)
 |0,_,_=>none
 |n+1,f,args=>match f with
  |.fn g a b=>(match QE cs g with
   |some sp=>(match sp (gap cs n) (a++args++b) with
    |some (c,v,[])=>bif v.ret 0 then some (c,v) else none
    |_=>none)
   |none=>none)
  |.pf ks r cX p=>(match deca ks args with
   |some x=>bif r.flat then some (cX x,EK r (p x)) else none
   |none=>none)
  |_=>none
 where
 deca:(ks:List Kind)→List SV→Option (AT ks)
  |[],[]=>some ()
  |[k],[v]=>asV k v
  |k::k'::ks,v::vs=>match asV k v,deca (k'::ks) vs with|some x,some y=>some (x,y)|_,_=>none
  |_,_=>none
 asV (k:Kind) (v:SV):Option k.T:=bif k.one then S_ k [v] else match v with|.agg l=>S_ k l|_=>none
def VO (cs:List (Nat×CSp)) (f:SV) (args:List SV):Option (Prop×SV×List OB) :=
 match f with
 |.fn g a b=>(match QE cs g with|some sp=>sp (gap cs 3) (a++args++b)|none=>none)
 |f=>(gap cs 3 f args).map fun (c,v)=>(c,v,[])
mutual
def SV.ren (d nt:Nat):SV→SV
 |.lst j=>.lst (d+j*nt)
 |.box j off=>.box (d+j*nt) off
 |.map j=>.map (d+j*nt)
 |.dd j w=>(match w with|.out=>.dd (d+j*nt) .out|_=>.any)
 |.agg l=>.agg (SVs.ren d nt l)
 |.tup l=>.tup (SVs.ren d nt l)
 |.any=>.any
 |.val k x=>.val k x
 |.bid _ c=>.val .bo c
 |.nilS=>.nilS
 |.nilP=>.nilP
 |.nilM=>.nilM
 |.nilF=>.nilF
 |.sub _ _ _ _|.elp _ _ _ _|.grd _ _|.cp _ _|.fn _ _ _|.rop _ _ _ _|.pf _ _ _ _=>.any
def SVs.ren (d nt:Nat):List SV→List SV
 |[]=>[]
 |s::ss=>SV.ren d nt s::SVs.ren d nt ss
end
def St.makes (s:St) (d nt:Nat):Nat→List OB→St
 |_,[]=>s
 |j,b::bs=>(s.make (d+j*nt) b).makes d nt (j+1) bs
def AV (k:Kind) (ev:Operand→SV):List (Nat×Operand)→List k.T→Option (List k.T)
 |[],xs=>some xs
 |(j,x)::r,xs=>match Gp (ev x) with
  |some l=>(match S_ k l with
   |some y=>if j<xs.length then AV k ev r (xs.set j y) else none
   |none=>none)
  |none=>none
mutual
def nmV:SV→(SV→Prop)→Prop
 |.val k x,K=>∀ y:k.T,y=x→K (.val k y)
 |.agg l,K=>Q7c l fun l'=>K (.agg l')
 |.tup l,K=>Q7c l fun l'=>K (.tup l')
 |.any,K=>K .any
 |.dd o w,K=>K (.dd o w)
 |.bid n c,K=>K (.bid n c)
 |.grd gs v,K=>K (.grd gs v)
 |.nilS,K=>K .nilS
 |.nilP,K=>K .nilP
 |.nilM,K=>K .nilM
 |.nilF,K=>K .nilF
 |.lst o,K=>K (.lst o)
 |.sub o lo n sz,K=>K (.sub o lo n sz)
 |.elp o i off sz,K=>K (.elp o i off sz)
 |.rop k l i off,K=>K (.rop k l i off)
 |.box o off,K=>K (.box o off)
 |.cp l off,K=>K (.cp l off)
 |.map o,K=>K (.map o)
 |.fn f a b,K=>K (.fn f a b)
 |.pf ks r cX p,K=>K (.pf ks r cX p)
def Q7c:List SV→(List SV→Prop)→Prop
 |[],K=>K []
 |v::r,K=>nmV v fun v'=>Q7c r fun r'=>K (v'::r')
end
def Z3l (o:VOp) (ev:Operand→SV):Bool:=match o with
 |.load _ _ a=>(match ev a with|.elp _ _ _ _=>true|.rop _ _ _ _=>true|.dd _ _=>true|_=>false)
 |.cmp ..|.str ..|.eqB ..|.un ..|.pick ..|.indexStr ..|.bits ..|.shift ..|.div ..|.sliceStr ..|.max ..|.max4 ..|.min ..=>true
 |.ext (.lookup ..)|.ext (.eqNil ..)|.ext (.eqAgg ..)|.ext (.entry ..)=>true
 |_=>false
def gnm (C:Cx) (o:VOp) (ev:Operand→SV) (v:SV) (K:SV→Prop):Prop:=bif C.nm&&Z3l o ev then nmV v K else K v
def I2 (C:Cx) (d:Nat) (f:SV) (args:List SV) (s:St) (K:SV→St→Prop):Prop :=
 match VO C.cs ((Sw s.own [f]).getD 0 .any) (Sw s.own args) with
 |some (c,v,bs)=>bif v.ret bs.length&&(bs.all OB.ret&&Nat.blt 0 C.nt) then c∧K (v.ren d C.nt) (s.makes d C.nt 0 bs) else False
 |none=>False
def SD (C:Cx) (d:Nat) (f:SV) (args:List SV) (s:St) (K:SV→St→Prop):Prop :=
 match f with
 |.fn g a b=>(match QE C.xs g with
  |some x=>x d (a++(args++b)) s K
  |none=>I2 C d (.fn g a b) args s K)
 |.dd o .yv=>(match QE C.yl o with
  |some y=>y args s K
  |none=>False)
 |f=>I2 C d f args s K
def gn (C:Cx) (d:Nat) (o:VOp) (ev:Operand→SV) (s:St) (K:SV→St→Prop):Prop :=
 match o with
 |.alloc t z=>K (.box d 0) (s.make d (.cells (z.map cvp) (some t)))
 |.box t x=>match Gp (ev x) with
  |some l=>K (.box d 0) (s.make d (.cells (SVs.kill d l) (some t)))
  |none=>False
 |.buildSlice e z n parts=>match QE C.kt e.ty with
  |some k=>if k.size=e.sz∧Vb k z=true then (match AV k ev parts (List.replicate n k.dflt) with
   |some xs=>K (.lst d) (s.make d (.lst e.ty k xs false))
   |none=>False) else False
  |none=>False
 |.makeSlice e bytes z l c=>match QE C.kt e.ty,asI (ev l),asI (ev c) with
  |some k,some (_,a),some (_,b)=>if k.size=e.sz∧Vb k z=true then
    Lq [] [0≤a,a≤b,b*bytes≤70368744177664,b≤70368744177664] (K (.lst d) (s.make d (.lst e.ty k (List.replicate a.toNat k.dflt) false))) else False
  |_,_,_=>False
 |.append e bytes x y=>match QE C.kt e.ty with
  |some k=>(match view s.own k (ev y) with
   |some ys=>(match ev x with
    |.nilS=>if k.size=e.sz then Lq [] [ys.length*bytes≤70368744177664] (K (.lst d) (s.make d (.lst e.ty k ys ys.isEmpty))) else False
    |.lst o=>(match Qc s.own o with
     |.lst ty _k' xs nl=>if ty=e.ty∧k.size=e.sz then (match UM xs k with
      |some xs=>Lq [] [(xs.length+ys.length)*bytes≤70368744177664] (K (.lst o) (s.make o (.lst ty k (xs++ys) (ys.isEmpty&&nl))))
      |none=>False) else False
     |_=>False)
    |_=>False)
   |none=>False)
  |none=>False
 |.store size a v=>match ev a,Gp (ev v) with
  |.box o off,some vs=>(match Qc s.own o with
   |.cells l u=>if vs.length=size∧off+size≤l.length then K .any ⟨s.env,oset s.own o (.cells (gfill.setS l off vs) u),s.nx⟩ else False
   |_=>False)
  |.elp o i off sz,some vs=>(match Qc s.own o with
   |.lst ty k xs nl=>(if off=0∧size=k.size∧sz=k.size then (match S_ k vs with
     |some x=>K .any ⟨s.env,oset s.own o (.lst ty k (xs.set i.toNat x) nl),s.nx⟩
     |none=>False)
    else if size=1∧vs.length=1∧sz=k.size∧off<k.size then (match Q8l k off (vs.getD 0 .any) (xs.getD i.toNat k.dflt) with
     |some x=>K .any ⟨s.env,oset s.own o (.lst ty k (xs.set i.toNat x) nl),s.nx⟩
     |none=>False) else False)
   |_=>False)
  |_,_=>False
 |.callF f args=>SD C d (.fn f [] []) (args.map ev) s K
 |.callV f args=>SD C d (ev f) (args.map ev) s K
 |.ext (.mapUpdate mk m k v)=>match ev m with
  |.map o=>(match Qc s.own o with
   |.map kk vk l=>if gq.mkOk mk kk=true then (match dkV kk (ev k),dkV vk (ev v) with
    |some key,some x=>K .any ⟨s.env,oset s.own o (.map kk vk (CM kk l key x)),s.nx⟩
    |_,_=>False) else False
   |_=>False)
  |_=>False
 |.ext (.mapEntry mk z m k)=>match ev m with
  |.map o=>(match Qc s.own o with
   |.map kk vk l=>if gq.mkOk mk kk=true∧Vb vk (Iv vk z)=true then (match dkV kk (ev k) with
    |some key=>∀ n:Int,K (.tup [EK vk (gq.aget kk l key vk.dflt),.val (.i .i64) n]) ⟨s.env,oset s.own o (.mapE kk vk (CM kk l key (gq.aget kk l key vk.dflt)) key n),s.nx⟩
    |none=>False) else False
   |_=>False)
  |_=>False
 |.ext (.entryStore m st v)=>match ev m with
  |.map o=>(match Qc s.own o with
   |.mapE kk vk l key n=>(match asI (ev st),dkV vk (ev v) with
    |some (.i64,n'),some x=>n'=n∧K .any ⟨s.env,oset s.own o (.map kk vk (CM kk l key x)),s.nx⟩
    |_,_=>False)
   |_=>False)
  |_=>False
 |.ext (.rangeMap x)=>match ev x with
  |.map o=>(match Qc s.own o with
   |.map kk vk m=>if kk.keyk=true∧vk.one=true then K (.box d 0) (St.make ⟨s.env,oset s.own o .dead,s.nx⟩ d (.iter kk vk m [])) else False
   |_=>False)
  |_=>False
 |.ext (.nextMap x)=>match ev x with
  |.box o f=>(match Qc s.own o with
   |.iter kk vk m dn=>if f=0∧kk.keyk=true then ((∀ r:Nat,r<m.length→r∈dn)→K (.tup [.val .bo false]) s)∧∀ r:Nat,r<m.length→r∉dn→K (.tup [.val .bo true,.any,.any]) ⟨s.env,oset s.own o (.iter kk vk m (dn++[r])),s.nx⟩ else False
   |_=>False)
  |_=>False
 |.ext (.unsafeStr e x n)=>match ev x,asI (ev n) with
  |.nilP,some (.i64,k)=>Lq [] [k=0] (K (.val .st []) s)
  |.dd o .dat,some (.i64,k)=>(match Qc s.own o with
   |.lst ty (.i .u8) xs _=>if ty=e then Lq [] [k=xs.length,xs.length≤4611686018427387904] (K (.val .st (Kj xs)) (s.make o .dead)) else False
   |_=>False)
  |_,_=>False
 |.ext (.strBytes e x)=>match asS (ev x) with
  |some xs=>Lq [] [xs.length≤4611686018427387904] (K (.lst d) (s.make d (.lst e (.i .u8) (xs.map fun b=>(b.toNat:Int)) false)))
  |none=>False
 |.ext (.copy size a b)=>match ev a with
  |.lst o=>(match Qc s.own o with
   |.lst ty k xs nl=>if k.size=size then (match view s.own k (ev b) with
    |some ys=>K (.val (.i .i64) (Nat.min ys.length xs.length:Nat)) ⟨s.env,oset s.own o (.lst ty k (ys.take xs.length++xs.drop ys.length) nl),s.nx⟩
    |none=>False) else False
   |_=>False)
  |.sub o lo n sz=>(match Qc s.own o with
   |.lst ty k xs nl=>if k.size=size∧sz=size then (match view s.own k (ev b) with
    |some ys=>K (.val (.i .i64) (Nat.min ys.length n:Nat)) ⟨s.env,oset s.own o (.lst ty k (xs.take lo++(ys.take n++xs.drop (lo+Nat.min ys.length n))) nl),s.nx⟩
    |none=>False) else False
   |_=>False)
  |_=>False
 |_=>False
def gnd (_:Cx) (_:Nat) (_:VOp) (_:Operand→SV) (_:St) (_:SV→St→Prop):Prop:=False
def SV.thing:SV→List Nat
 |.lst o=>[o]
 |.dd o _=>[o]
 |_=>[]
def Q8u (l:List SV):List Nat:=l.flatMap SV.thing
def Aq (d:Nat) (o:VOp) (ev:Operand→SV):List Nat:=d::(match o with
 |.buildSlice _ _ _ parts=>parts.flatMap fun p=>(match Gp (ev p.2) with|some l=>Q8u l|none=>[])
 |.append _ _ x y=>SV.thing (ev x)++SV.thing (ev y)
 |.store _ a v=>SV.thing (ev a)++(match Gp (ev v) with|some l=>Q8u l|none=>[])
 |_=>[])
def Af (C:Cx) (d:Nat) (o:VOp) (ev:Operand→SV):Bool :=
 match o with
 |.buildSlice e _ _ _=>(match QE C.kt e.ty with|some k=>!k.flat&&!(C.raw.contains d)|none=>false)
 |.makeSlice e _ _ _ _=>(match QE C.kt e.ty with|some k=>!k.flat&&!(C.raw.contains d)|none=>false)
 |.append _ _ x y=>(match ev x with
  |.dd _ _=>true
  |_=>(match ev y with|.dd _ .out=>true|_=>false))
 |.store _ a _=>(match ev a with|.dd _ _=>true|_=>false)
 |_=>false
mutual
def SV.frz (o:Nat) (k:Kind) (xs:List k.T):SV→SV
 |.lst o'=>bif Nat.beq o' o then .val (.list k) xs else .lst o'
 |.sub o' lo n sz=>bif Nat.beq o' o then .any else .sub o' lo n sz
 |.elp o' i off sz=>bif Nat.beq o' o then .any else .elp o' i off sz
 |.dd o' w=>bif Nat.beq o' o then .any else .dd o' w
 |.box o' off=>bif Nat.beq o' o then .any else .box o' off
 |.map o'=>bif Nat.beq o' o then .any else .map o'
 |.grd gs v=>.grd gs (SV.frz o k xs v)
 |.agg l=>.agg (SVs.frz o k xs l)
 |.tup l=>.tup (SVs.frz o k xs l)
 |.cp l off=>.cp (SVs.frz o k xs l) off
 |.fn f a b=>.fn f (SVs.frz o k xs a) (SVs.frz o k xs b)
 |.any=>.any
 |.val k x=>.val k x
 |.bid n c=>.bid n c
 |.nilS=>.nilS
 |.nilP=>.nilP
 |.nilM=>.nilM
 |.nilF=>.nilF
 |.rop k l i off=>.rop k l i off
 |.pf ks r cX p=>.pf ks r cX p
def SVs.frz (o:Nat) (k:Kind) (xs:List k.T):List SV→List SV
 |[]=>[]
 |s::ss=>SV.frz o k xs s::SVs.frz o k xs ss
end
def OB.frz (o:Nat) (k:Kind) (xs:List k.T):OB→OB
 |.cells l u=>.cells (SVs.frz o k xs l) u
 |.dead=>.dead
 |.lst ty k xs nl=>.lst ty k xs nl
 |.map kk vk m=>.map kk vk m
 |.stk l vals=>.stk (SVs.frz o k xs l) vals
 |.lpf l q s=>.lpf (SVs.frz o k xs l) q s
 |.deep ty q k xs nl h=>.deep ty q k xs nl h
 |.iter kk vk m dn=>.iter kk vk m dn
 |.mapE kk vk m key n=>.mapE kk vk m key n
def Q48 (o:Nat) (k:Kind) (xs:List k.T):Own→Own
 |[]=>[]
 |(j,b)::r=>bif Nat.beq j o then Q48 o k xs r else (j,b.frz o k xs)::Q48 o k xs r
def St.frz (s:St) (o:Nat):St:=match Qc s.own o with
 |.lst _ k xs _=>⟨SVs.frz o k xs s.env,Q48 o k xs s.own,s.nx⟩
 |_=>s
def St.frzs (s:St):List Nat→St
 |[]=>s
 |o::r=>(s.frz o).frzs r
def H2:List SV→List Nat
 |[]=>[]
 |s::r=>(match s with|.lst o=>o::H2 r|_=>H2 r)
def Q71 (C:Cx) (d:Nat) (o:VOp) (ev:Operand→SV) (own:Own):List Nat:=match o with
 |.store _ a v=>(match ev a with
  |.elp q _ _ _=>(match Qc own q with
   |.lst _ k _ _=>bif k.flat then [] else (match Gp (ev v) with|some l=>H2 l|none=>[])
   |_=>[])
  |_=>[])
 |.buildSlice e _ _ parts=>(match QE C.kt e.ty with
  |some k=>bif k.flat||!(C.raw.contains d) then [] else parts.flatMap fun p=>(match Gp (ev p.2) with|some l=>H2 l|none=>[])
  |none=>[])
 |.move x=>bif C.raw.contains (2000000+d) then H2 [ev x] else []
 |_=>[]
def Hw (s:St) (j:Nat) (want:Bool):Option (List Gd×St) :=
 match s.env.getD j .any with
 |.val .bo c=>some ([⟨s.nx,want,c⟩],⟨s.env.set j (.bid s.nx c),s.own,s.nx+1⟩)
 |.bid n c=>some ([⟨n,want,c⟩],s)
 |.grd gs (.val .bo c)=>some (gs++[⟨s.nx,want,c⟩],⟨s.env.set j (.grd gs (.bid s.nx c)),s.own,s.nx+1⟩)
 |.grd gs (.bid n c)=>some (gs++[⟨n,want,c⟩],s)
 |_=>none
def gqc (C:Cx) (raw:Bool) (o:VOp) (ev:Operand→SV) (own:Own):Option (List Prop×SV) :=
 match o with
 |.callF f args=>match VO C.cs (.fn f [] []) (Sw own (args.map ev)) with
  |some (c,v,[])=>bif v.ret 0 then some ([c],v) else none
  |_=>none
 |.callV f args=>match VO C.cs ((Sw own [ev f]).getD 0 .any) (Sw own (args.map ev)) with
  |some (c,v,[])=>bif v.ret 0 then some ([c],v) else none
  |_=>none
 |o=>gq C.kt raw o ev own
def Il (nt:Nat):Option (Prop×SV×List OB)→Option (Prop×SV)
 |some (c,v,bs)=>(match v,bs with
  |.lst 0,[.lst _ k xs _]=>bif k.flat&&Nat.blt 0 nt then some (c,.val (.list k) xs) else none
  |_,_=>none)
 |none=>none
def Co (C:Cx) (o:VOp) (ev:Operand→SV) (own:Own):Option (Prop×SV) :=
 match o with
 |.callF f args=>Il C.nt (VO C.cs (.fn f [] []) (Sw own (args.map ev)))
 |.callV f args=>Il C.nt (VO C.cs ((Sw own [ev f]).getD 0 .any) (Sw own (args.map ev)))
 |.buildSlice e z n parts=>(match QE C.kt e.ty with
  |some k=>if k.size=e.sz∧Vb k z=true∧k.flat=true then (match AV k ev parts (List.replicate n k.dflt) with
   |some xs=>some (True,.val (.list k) xs)
   |none=>none) else none
  |none=>none)
 |_=>none
def Ew (env:List SV) (x:Operand):Option Bool:=match x with
 |.tmp j=>(match env.getD j .any with
  |.grd gs v=>(match gs with
   |[]=>(match v with
    |.val k x=>(match k,x with|.bo,b=>some b|_,_=>none)
    |_=>none)
   |_=>none)
  |_=>none)
 |_=>none
def Q2m (env:List SV) (g:Option (Nat×Bool)):Option Bool:=match g with
 |none=>none
 |some (j,want)=>(match Ew env (.tmp j) with
  |some b=>some (b==want)
  |none=>none)
def Q5o (gs:List Gd) (env:List SV) (c a b:Operand):Option SV :=
 match gev gs env c with
 |.bid n t =>
  match a,b with
  |.const (.bool true),b=>(asB (gev (gs++[⟨n,false,t⟩]) env b)).map fun y=>.val .bo (t||y)
  |a,.const (.bool false)=>(asB (gev (gs++[⟨n,true,t⟩]) env a)).map fun x=>.val .bo (t&&x)
  |a,b=>match gev (gs++[⟨n,true,t⟩]) env a,gev (gs++[⟨n,false,t⟩]) env b with
   |.val (.i k) x,.val (.i k') y=>if k=k' then some (.val (.i k) (if t then x else y)) else none
   |.val .bo x,.val .bo y=>some (.val .bo (if t then x else y))
   |_,_=>none
 |_=>none
def OQ (gs:List Gd) (env:List SV) (c a b:Operand):Option SV:=match Ew env c with
 |some t=>some (bif t then gev gs env a else gev gs env b)
 |none=>Q5o gs env c a b
def Q0a:VOp→Bool
 |.alloc ..|.box ..|.buildSlice ..|.makeSlice ..|.append ..|.store ..|.callF ..|.callV ..=>false
 |.ext (.makeMap)|.ext (.mapUpdate ..)|.ext (.mapEntry ..)|.ext (.entryStore ..)|.ext (.copy ..)|.ext (.unsafeStr ..)|.ext (.strBytes ..)|.ext (.rangeMap _)|.ext (.nextMap _)=>false
 |_=>true
def DZ:SV→SV
 |.bid _ c=>.val .bo c
 |v=>v
def Q8y (o:VOp):Option (Nat×Nat×(Nat→VOp)):=match o with
 |.indexAddrArr len size x (.tmp t)=>some (len,t,fun n=>.indexAddrArr len size x (.const (.int .i64 (Int.ofNat n))))
 |.indexArr len agg size x (.tmp t)=>some (len,t,fun n=>.indexArr len agg size x (.const (.int .i64 (Int.ofNat n))))
 |_=>none
def Q0c (j:Int) (f:Nat→Prop):Nat→Nat→Prop
 |0,_=>True
 |n+1,i=>(j=(i:Int)→f i)∧Q0c j f n (i+1)
def Z3b (C:Cx) (o:VOper) (s:St) (K:St→Prop):Prop :=
 (match o.op with
 |.pick c a b=>match OQ [] s.env c a b with
  |some v=>gnm C (.pick c a b) (gev [] s.env) v fun v=>K (s.put o.dst v)
  |none=>False
 |op=>bif Q0a op then (match gq C.kt (C.raw.contains (o.dst.getD 0)) op (gev [] s.env) s.own with
   |some (cs,v)=>Lq [] cs (gnm C op (gev [] s.env) v fun v=>K (s.put o.dst v))
   |none=>False)
  else (match op with
   |.ext .makeMap=>(match QE C.kt (1000000+o.dst.getD 0) with
    |some (.pair kk vk)=>K ((s.make (C.off+o.dst.getD 0) (.map kk vk [])).put o.dst (.map (C.off+o.dst.getD 0)))
    |_=>False)
   |op=>bif Af C (o.dst.getD 0) op (gev [] s.env) then gnd C (C.off+o.dst.getD 0) op (gev [] s.env) s fun v s'=>K (s'.put o.dst v) else gn C (C.off+o.dst.getD 0) op (gev [] s.env) s fun v s'=>K (s'.put o.dst v)))
def Z3o (C:Cx) (o:VOper) (s:St) (K:St→Prop):Prop :=
 match Q8y o.op with
 |some (len,i,f)=>(match asI (gev [] s.env (.tmp i)) with
  |some (_,j)=>0≤j∧j<(len:Int)∧Q0c j (fun n=>match gq C.kt (C.raw.contains (o.dst.getD 0)) (f n) (gev [] s.env) s.own with
   |some (cs,v)=>Lq [] cs (gnm C (f n) (gev [] s.env) v fun v=>K (s.put o.dst v))
   |none=>False) len 0
  |none=>False)
 |none=>Z3b C o s K
def Z16 (C:Cx) (o:VOper) (s:St) (K:St→Prop):Prop :=
 match o.guard with
 |none=>Z3o C o (s.frzs (Q71 C (o.dst.getD 0) o.op (gev [] s.env) s.own)) K
 |some (j,want)=>match Hw s j want with
  |none=>False
  |some (gs,s)=>(match o.op with
   |.pick c a b=>match OQ gs s.env c a b with
    |some v=>gnm C (.pick c a b) (gev gs s.env) v fun v=>K (s.put o.dst (.grd gs (DZ v)))
    |none=>False
   |op=>(match gqc C (C.raw.contains (o.dst.getD 0)) op (gev gs s.env) s.own with
    |some (cs,v)=>Lq gs cs (gnm C op (gev gs s.env) v fun v=>K (s.put o.dst (.grd gs (DZ v))))
    |none=>(match Co C op (gev gs s.env) s.own with
     |some (c,v)=>Lq gs [c] (gnm C op (gev gs s.env) v fun v=>K ((s.make (C.off+o.dst.getD 0) .dead).put o.dst (.grd gs v)))
     |none=>False)))
def gop (C:Cx) (o:VOper) (s:St) (K:St→Prop):Prop:=match Q2m s.env o.guard with
 |some t=>bif t then Z16 C ⟨o.dst,o.op,none⟩ s K else K (s.put o.dst .any)
 |none=>Z16 C o s K
def Z10 (C:Cx) (d:Option Nat) (K:St→Prop) (s:St):Prop:=match d with
 |none=>K s
 |some d=>bif C.spl.contains d then (match asB (s.env.getD d .any) with
   |some t=>(t=true→K (s.put (some d) (.grd [] (.val .bo true))))∧(t=false→K (s.put (some d) (.grd [] (.val .bo false))))
   |none=>False)
  else K s
def Z1a (C:Cx):List VOper→St→(St→Prop)→Prop
 |[],s,K=>K s
 |o::r,s,K=>gop C o s (Z10 C o.dst fun s'=>Z1a C r s' K)
def dv (o:DOper):VOper:=⟨o.dst,o.op,o.guard⟩
def Q5n (l:List DOper):Bool:=l.all fun o=>!(o.kind==2)&&!(o.op.kind==2)
def gd1 (C:Cx) (o:DOper) (s:St) (K:St→Prop):Prop :=
 match o.guard with
 |none=>(match o.op with
  |.pick c a b=>(match OQ [] s.env c a b with
   |some v=>gnm C (.pick c a b) (gev [] s.env) v fun v=>K (s.put o.dst v)
   |none=>False)
  |op=>(match gq C.kt (C.raw.contains (o.dst.getD 0)) op (gev [] s.env) s.own with
   |some (cs,v)=>Lq [] cs (gnm C op (gev [] s.env) v fun v=>K (s.put o.dst v))
   |none=>False))
 |some (j,want)=>(match Hw s j want with
  |none=>False
  |some (gs,s)=>(match o.op with
   |.pick c a b=>(match OQ gs s.env c a b with
    |some v=>gnm C (.pick c a b) (gev gs s.env) v fun v=>K (s.put o.dst (.grd gs (DZ v)))
    |none=>False)
   |op=>(match gq C.kt (C.raw.contains (o.dst.getD 0)) op (gev gs s.env) s.own with
    |some (cs,v)=>Lq gs cs (gnm C op (gev gs s.env) v fun v=>K (s.put o.dst (.grd gs (DZ v))))
    |none=>False)))
def OB.wf:OB→Prop
 |.lst _ _ xs nl=>nl=true→xs=[]
 |_=>True
def Q0o:List OB→Prop→Prop
 |[],q=>q
 |b::r,q=>b.wf∧Q0o r q
def GP (C:Cx) (d:Nat) (f:SV) (args:List SV) (s:St) (K:List Nat→SV→St→Prop):Prop :=
 match VO C.cs f args with
 |some (c,v,bs)=>bif v.ret bs.length&&(bs.all OB.ret&&(Nat.blt 0 C.nt&&(bs.all OB.isL&&Vx v))) then c∧Q0o bs (K ((List.range bs.length).map fun j=>d+j*C.nt) (v.ren d C.nt) (s.makes d C.nt 0 bs)) else False
 |none=>False
def Tt:VOp→Bool
 |.alloc ..|.box ..|.buildSlice ..|.makeSlice ..=>true
 |_=>false
def QF (d:Nat) (o:VOp) (ev:Operand→SV):Nat:=match o with
 |.append _ _ x _=>(match ev x with|.lst q=>q|_=>d)
 |.store _ a _=>(match ev a with|.box q _=>q|.elp q _ _ _=>q|_=>d)
 |.ext (.mapUpdate _ m _ _)=>(match ev m with|.map q=>q|_=>d)
 |.ext (.mapEntry _ _ m _)=>(match ev m with|.map q=>q|_=>d)
 |.ext (.entryStore m _ _)=>(match ev m with|.map q=>q|_=>d)
 |.ext (.copy _ a _)=>(match ev a with|.lst q=>q|.sub q _ _ _=>q|_=>d)
 |.ext (.unsafeStr _ a _)=>(match ev a with|.dd q _=>q|_=>d)
 |_=>d
def OB.here:OB→Bool
 |.dead=>false
 |.stk _ _=>false
 |.deep _ _ _ _ _ _=>false
 |.iter _ _ _ _=>false
 |.mapE _ _ _ _ _=>false
 |.lpf _ _ _=>false
 |_=>true
def stP:MK→Value→Bool
 |.agg [.int .i64,.int .i64],.int .i64 n=>n==0
 |_,_=>false
def Mo (o:VOp) (ev:Operand→SV) (own:Own):Option Nat:=match o with
 |.load _ _ a=>(match ev a with
  |.box q _=>bif (Qc own q).here then some (2*q) else none
  |.elp q _ _ _=>bif (Qc own q).here then some (2*q) else none
  |_=>none)
 |.ext (.lookup mk z false x _)=>bif stP mk z then (match ev x with
  |.map q=>(match Qc own q with|.map _ _ _=>some (2*q+1)|_=>none)
  |_=>none) else none
 |_=>none
def L1:VOp→Bool
 |.ext (.mapEntry mk z _ _)=>stP mk z
 |_=>false
def Zs (A:List (Nat×Option Nat)) (j q:Nat):Bool:=A.all fun a=>Nat.blt a.1 j||(match a.2 with|some t=>!(Nat.beq t q)|none=>false)
def TX (A:List (Nat×Option Nat)) (j:Nat) (q:Option Nat):Bool:=match q with|some q=>Zs A j (q / 2)|none=>false
def Lc (R:List (Nat×Option Nat)) (hl t:Nat):Bool:=R.all fun r=>Nat.blt r.1 hl||(match r.2 with|some q=>!(Nat.beq (q / 2) t)|none=>false)
def AK (R:List (Nat×Option Nat)) (hl t:Nat):Bool:=R.all fun r=>Nat.blt r.1 hl||(match r.2 with|some q=>!(Nat.beq (q / 2) t)|none=>true)
def Q7e (R:List (Nat×Option Nat)) (hl t:Nat):Bool:=R.all fun r=>Nat.blt r.1 hl||(match r.2 with|some q=>!(Nat.beq (q / 2) t)||Nat.beq (q % 2) 1|none=>false)
def O5 (mk:Bool) (R:List (Nat×Option Nat)) (hl:Nat) (ts:List Nat):Bool:=R.all fun r=>Nat.blt r.1 hl||(match r.2 with|some q=>ts.all (fun t=>!(Nat.beq (q / 2) t))|none=>mk)
def Q7k (o:VOp) (ev:Operand→SV):Bool:=match o with
 |.load _ _ a=>(match ev a with|.rop _ _ _ _=>true|.cp _ _=>true|_=>false)
 |_=>false
def Q25 (s:St) (j:Nat) (want:Bool) (o:VOp):Bool:=match Hw s j want with
 |some (gs,s1)=>Q7k o (gev gs s1.env)
 |none=>false
def DI (A:List (Nat×Option Nat)) (j:Nat):Bool:=A.all fun a=>Nat.blt a.1 j||a.2.isSome
def Q1n (C:Cx) (f:SV) (args:List SV):Option (List Prop×SV):=match VO C.cs f args with
 |some (c,v,bs)=>(match v,bs with
  |.lst 0,[.lst _ k xs nl]=>bif k.flat&&Nat.blt 0 C.nt then some ([c,nl=true→xs=[]],.val (.list k) xs) else none
  |_,_=>none)
 |none=>none
def IS (env:List SV) (o:DOper):DOper:=match Q2m env o.guard with
 |some true=>{o with guard:=none}
 |_=>o
def Q97 (own:Own):SV→Option (List SV)
 |.box o off=>bif Nat.beq off 0 then (match Qc own o with|.cells l _=>some l|_=>none) else none
 |.cp l off=>bif Nat.beq off 0 then some l else none
 |_=>none
def Q53 (own:Own) (j:Nat):List SV→Option Nat
 |a::_=>(match Q97 own a with
  |some l=>(match l[j]? with
   |some (.map o)=>some o
   |_=>none)
  |none=>(match a with|.map o=>some o|_=>none))
 |[]=>none
def Cx.nx (C:Cx):Cx:={C with xs:=[]}
def XJ (C:Cx):List DOper→St→Nat→Nat→List (Nat×Option Nat)→List (Nat×Option Nat)→(St→Prop)→Prop
 |[],s,_,_,_,_,K=>K s
 |o0::r,s,hl,chg,A,R,K=>match Q2m s.env o0.guard with
  |some false=>if o0.kind=2 then XJ C r (s.put o0.dst .any) (hl+1) chg A R K else XJ C r (s.put o0.dst .any) hl chg A R K
  |_=>(fun o:DOper =>
  if o.kind=2 then
   (match o.op with
   |.callF f args=>(match o.guard with
    |none=>(match QE C.xs f with
     |some x=>(match QE C.xf f with
      |some j=>(match Q53 s.own j (args.map (gev [] s.env)) with
       |some t=>bif waits o.dst.toList r&&O5 false R hl [t] then
         x (C.off+o.dst.getD 0) (args.map (gev [] s.env)) s fun v s'=>XJ C r (s'.put o.dst v) (hl+1) hl ((hl-1,some t)::A) R K else False
       |none=>False)
      |none=>bif waits o.dst.toList r&&R.all (fun q=>Nat.blt q.1 hl) then
       x (C.off+o.dst.getD 0) (args.map (gev [] s.env)) s fun v s'=>XJ C r (s'.put o.dst v) (hl+1) hl ((hl-1,none)::A) [] K
      else GP C (C.off+o.dst.getD 0) (.fn f [] []) (Sw s.own (args.map (gev [] s.env))) s fun ts v s'=>XJ C r (s'.put o.dst v) (hl+1) (bif ts.isEmpty then chg else hl) (ts.map (fun t=>(hl-1,some t))++A) (bif ts.isEmpty then R else R.map fun r=>(r.1,none)) K)
     |none=>GP C (C.off+o.dst.getD 0) (.fn f [] []) (Sw s.own (args.map (gev [] s.env))) s fun ts v s'=>XJ C r (s'.put o.dst v) (hl+1) (bif ts.isEmpty then chg else hl) (ts.map (fun t=>(hl-1,some t))++A) (bif ts.isEmpty then R else R.map fun r=>(r.1,none)) K)
    |some (j,want)=>(match Hw s j want with
     |none=>False
     |some (gs,s)=>(match gqc C false (.callF f args) (gev gs s.env) s.own with
      |some (cs,v)=>bif Vx v then Lq gs cs (gnm C (.callF f args) (gev gs s.env) v fun v=>XJ C r (s.put o.dst (.grd gs (DZ v))) (hl+1) chg A R K) else False
      |none=>(match Q1n C (.fn f [] []) (Sw s.own (args.map (gev gs s.env))) with
       |some (cs,v)=>Lq gs cs (XJ C r ((s.make (C.off+o.dst.getD 0) .dead).put o.dst (.grd gs v)) (hl+1) hl ((hl-1,none)::A) (R.map fun r=>(r.1,none)) K)
       |none=>False))))
   |.callV f args=>(match o.guard with
    |none=>GP C (C.off+o.dst.getD 0) ((Sw s.own [gev [] s.env f]).getD 0 .any) (Sw s.own (args.map (gev [] s.env))) s fun ts v s'=>XJ C r (s'.put o.dst v) (hl+1) (bif ts.isEmpty then chg else hl) (ts.map (fun t=>(hl-1,some t))++A) (bif ts.isEmpty then R else R.map fun r=>(r.1,none)) K
    |some _=>False)
   |.ext (.rangeMap _)=>False
   |.ext (.nextMap _)=>False
   |op=>(match o.guard with
    |none=>bif Af C (o.dst.getD 0) op (gev [] s.env) then
      (bif O5 (Tt op) R hl (Aq (C.off+o.dst.getD 0) op (gev [] s.env)) then
       gnd C (C.off+o.dst.getD 0) op (gev [] s.env) s fun v s'=>XJ C r (s'.put o.dst v) (hl+1) hl ((Aq (C.off+o.dst.getD 0) op (gev [] s.env)).map (fun t=>(hl-1,some t))++A) R K else False)
     else bif (Tt op&&AK R hl (QF (C.off+o.dst.getD 0) op (gev [] s.env)))||Lc R hl (QF (C.off+o.dst.getD 0) op (gev [] s.env))||(L1 op&&Q7e R hl (QF (C.off+o.dst.getD 0) op (gev [] s.env))) then
      gn C (C.off+o.dst.getD 0) op (gev [] s.env) s fun v s'=>XJ C r (s'.put o.dst v) (hl+1) hl ((hl-1,some (QF (C.off+o.dst.getD 0) op (gev [] s.env)))::A) R K else False
    |some _=>False))
  else if o.kind=1 then
   (match o.guard with
   |none=>bif Q7k o.op (gev [] s.env)&&DI A o.kmin then gd1 C o s fun s'=>XJ C r s' hl chg A R K
    else bif Nat.ble chg o.kmin||TX A o.kmin (Mo o.op (gev [] s.env) s.own) then gd1 C o s fun s'=>XJ C r s' hl chg A ((o.kmax,Mo o.op (gev [] s.env) s.own)::R) K else False
   |some (j,want)=>bif Q25 s j want o.op&&DI A o.kmin then gd1 C o s fun s'=>XJ C r s' hl chg A R K
    else bif Nat.ble chg o.kmin then gd1 C o s fun s'=>XJ C r s' hl chg A ((o.kmax,none)::R) K else False)
  else gd1 C o s fun s'=>XJ C r s' hl chg A R K) (IS s.env o0)
inductive Src where
 |slot (j:Nat)
 |cell (t off:Nat)
 |key (k:Nat)
structure LoopAnn where
 E:Type
 D:Type
 sl:List Nat
 vs:E→D→List SV
 own:E→D→List (Nat×Src×OB)
def Q7i:List Nat→List SV→List (Nat×SV)
 |[],_=>[]
 |j::js,[]=>(j,.any)::Q7i js []
 |j::js,v::vs=>(j,v)::Q7i js vs
def LoopAnn.st (A:LoopAnn) (p:A.E) (d:A.D):List (Nat×SV):=Q7i A.sl (A.vs p d)
def LoopP {D:Type}(F:D→(D→Prop)→Prop) (d0:D):Prop :=
 ∃ (I:D→Prop) (μ:D→Nat),I d0∧∀ d,I d→F d fun d'=>I d'∧μ d'<μ d
def Z4d (s:St) (mp:List (Nat×Option Nat)):Src→Option (Option Nat)
 |.slot j=>match s.env.getD j .any with
  |.lst a=>some (some a)
  |.sub a _ _ _=>some (some a)
  |.dd a _=>some (some a)
  |.box a _=>some (some a)
  |.map a=>some (some a)
  |.nilS=>some none
  |_=>none
 |.cell t off=>match QE mp t with
  |some (some a)=>(match Qc s.own a with
   |.cells l _=>(match l.getD off .any with
    |.lst a=>some (some a)
    |.box a _=>some (some a)
    |.map a=>some (some a)
    |.nilS=>some none
    |_=>none)
   |_=>none)
  |_=>none
 |.key k=>some (some k)
def Z00 (s:St):List (Nat×Src)→List (Nat×Option Nat)→Option (List (Nat×Option Nat))
 |[],mp=>some mp
 |(t,src)::r,mp=>match Z4d s mp src with
  |some (some a)=>if (mp.any fun p=>p.2==some a)||(QE mp t).isSome then none else Z00 s r (mp++[(t,some a)])
  |some none=>if (QE mp t).isSome then none else Z00 s r (mp++[(t,none)])
  |none=>none
def GX {k:Kind}(x:k.T) {k':Kind}(y:k'.T):Prop:=match Q0i y k with|some y=>y=x|none=>False
mutual
def SV.pure:SV→Bool
 |.lst _|.sub _ _ _ _|.elp _ _ _ _|.box _ _|.map _|.grd _ _|.bid _ _|.dd _ _=>false
 |.agg l=>SVs.pure l
 |.tup l=>SVs.pure l
 |.cp l _=>SVs.pure l
 |.fn _ a b=>SVs.pure a&&SVs.pure b
 |.any|.val _ _|.nilS|.nilP|.nilM|.nilF|.rop _ _ _ _|.pf _ _ _ _=>true
def SVs.pure:List SV→Bool
 |[]=>true
 |s::ss=>SV.pure s&&SVs.pure ss
end
mutual
def TC (mp:List (Nat×Option Nat)):SV→SV→Prop
 |.any,_=>True
 |.val k x,v=>match v with
  |.val _k' y=>GX x y
  |.bid _ c=>GX (k:=k) x (k':=.bo) c
  |.nilS=>match k,x with|.list _,x=>x=[]|_,_=>False
  |_=>False
 |.lst t,v=>match v with
  |.lst a=>if QE mp t=some (some a) then True else False
  |.nilS=>if QE mp t=some none then True else False
  |_=>False
 |.box t off,v=>match v with
  |.box a dF=>if QE mp t=some (some a)∧off=dF then True else False
  |_=>False
 |.map t,v=>match v with
  |.map a=>if QE mp t=some (some a) then True else False
  |_=>False
 |.dd t w,v=>(match w with
  |.obx c=>(match v with
   |.nilP=>c=false
   |.box a f=>if QE mp t=some (some a)∧f=0 then c=true else False
   |.dd a w'=>(match w' with|.obx c'=>if QE mp t=some (some a) then c'=c else False|_=>False)
   |_=>False)
  |.yv=>(match v with
   |.dd a w'=>(match w' with|.yv=>if QE mp t=some (some a) then True else False|_=>False)
   |_=>False)
  |.out=>(match v with
   |.dd a w'=>(match w' with|.out=>if QE mp t=some (some a) then True else False|_=>False)
   |.nilS=>if QE mp t=some none then True else False
   |_=>False)
  |_=>False)
 |.agg l,v=>match v with|.agg l'=>Gb mp l l'|_=>False
 |.tup l,v=>match v with|.tup l'=>Gb mp l l'|_=>False
 |.fn f a b,v=>match v with|.fn f' a' b'=>if f=f' then Gb mp a a'∧Gb mp b b' else False|_=>False
 |.nilS,v=>match v with|.nilS=>True|_=>False
 |.nilP,v=>match v with|.nilP=>True|_=>False
 |.nilM,v=>match v with|.nilM=>True|_=>False
 |.nilF,v=>match v with|.nilF=>True|_=>False
 |.cp l off,v=>bif SVs.pure l then .cp l off=v∧SVs.pure l=true else match v with|.cp l' dF=>if off=dF then Gb mp l l' else False|_=>False
 |.pf ks r cX p,v=>.pf ks r cX p=v
 |.sub t lo n sz,v=>match v with
  |.sub a uy n' uz=>if QE mp t=some (some a) then uy=lo∧n'=n∧uz=sz else False
  |_=>False
 |.elp _ _ _ _,_|.grd _ _,_|.bid _ _,_|.rop _ _ _ _,_=>False
def Gb (mp:List (Nat×Option Nat)):List SV→List SV→Prop
 |[],l=>l=[]
 |s::ss,l=>match l with|v::vs=>TC mp s v∧Gb mp ss vs|[]=>False
end
def Q29 (s:St) (mp:List (Nat×Option Nat)) (t:Nat) (b:OB):Prop :=
 match QE mp t with
 |some (some a)=>(match b,Qc s.own a with
  |.dead,_=>True
  |.lst ty k xs nl,.lst jq k' cK kE=>if ty=jq then GX (k:=.list k) xs (k':=.list k') cK∧kE=nl else False
  |.cells l u,.cells l' u'=>if u=u' then Gb mp l l' else False
  |.map kk vk m,.map lG nS m'=>if kk=lG then GX (k:=.list (.pair kk vk)) m (k':=.list (.pair lG nS)) m' else False
  |.stk l vals,.stk l' kF=>vals=kF∧Gb mp l l'
  |.lpf l q u,.lpf l' q' u'=>(match u,u' with|.rdy,.rdy=>q=q'∧Gb mp l l'|.busy,.busy=>q=q'∧Gb mp l l'|_,_=>False)
  |.iter kk vk m dn,.iter lG nS m' sG=>if kk=lG then GX (k:=.list (.pair kk vk)) m (k':=.list (.pair lG nS)) m'∧sG=dn else False
  |.deep ty q k xs nl h,.deep jq q' k' cK kE h'=>if ty=jq∧q=q' then (match h,h' with|none,none=>GX (k:=.list k) xs (k':=.list k') cK∧kE=nl|_,_=>False) else False
  |_,_=>False)
 |some none=>(match b with
  |.lst _ _ xs nl=>xs=[]∧nl=true
  |.deep _ _ _ xs nl h=>(match h with|none=>xs=[]∧nl=true|some _=>False)
  |_=>False)
 |none=>False
def gmatch (s:St) (st:List (Nat×SV)) (ow:List (Nat×Src×OB)):Prop :=
 match Z00 s (ow.map fun p=>(p.1,p.2.1)) [] with
 |some mp=>slots mp st∧obs mp ow
 |none=>False
 where
 slots (mp:List (Nat×Option Nat)):List (Nat×SV)→Prop
  |[]=>True
  |(j,v)::r=>TC mp v (s.env.getD j .any)∧slots mp r
 obs (mp:List (Nat×Option Nat)):List (Nat×Src×OB)→Prop
  |[]=>True
  |(t,_,b)::r=>Q29 s mp t b∧obs mp r
def Zp (len:Nat) (st:List (Nat×SV)) (ow:List (Nat×Src×OB)):St :=
 ⟨st.foldl (fun e p=>e.set p.1 p.2) (List.replicate len .any),ow.foldl (fun o p=>oset o p.1 p.2.2) [],0⟩
def Z4f:SV→SV
 |.bid _ c=>.val .bo c
 |.grd _ _=>.any
 |.elp _ _ _ _=>.any
 |.rop _ _ _ _=>.any
 |.dd o w=>(match w with|.out=>.dd o .out|.obx c=>.dd o (.obx c)|.yv=>.dd o .yv|_=>.any)
 |v=>v
def Z1h (jn:List Nat) (s:St):List (Nat×SV):=jn.map fun j=>(j,Z4f (s.env.getD j .any))
def Q7p:Own→List (Nat×Src×OB)
 |[]=>[]
 |(t,b)::r=>(match b with|.dead=>Q7p r|b=>(t,.key t,b)::Q7p r)
def Hn (n:Nat) (s:St) (st:List (Nat×SV)) (ow:List (Nat×Src×OB)):Prop:=bif Nat.beq s.env.length n then gmatch s st ow else False
def Q72 (C:Cx):List (List DOper)→St→List (Nat×SV)→List (Nat×Src×OB)→Prop→Prop
 |[],_,_,_,Q=>Q
 |l::ls,s,st,ow,Q=>(XJ C.nx l s 1 0 [] [] fun s'=>Hn s.env.length s' st ow)∧Q72 C ls s st ow Q
def Cy (C:Cx):List DSeg→St→(St→Prop)→Prop
 |[],s,K=>K s
 |.one o::r,s,K=>gop C o s (Z10 C o.dst fun s'=>Cy C r s' K)
 |.alts [l]::r,s,K=>bif Q5n l then Z1a C (l.map dv) s fun s'=>Cy C r s' K else bif l.all (fun o=>o.kind==o.op.kind) then XJ C l s 1 0 [] [] fun s'=>Cy C r s' K else False
 |.alts (l::l2::ls)::r,s,K=>bif (l::l2::ls).all (fun l=>l.all fun o=>o.kind==o.op.kind) then
   XJ C.nx l s 1 0 [] [] fun s0=>Hn s.env.length s0 (Z1h C.jn s0) (Q7p s0.own)∧Q72 C (l2::ls) s (Z1h C.jn s0) (Q7p s0.own) (Cy C r (Zp s.env.length (Z1h C.jn s0) (Q7p s0.own)) K) else False
 |.alts []::_,_,_=>False
def Q3o (R:St→Prop) (K:Exit→St→Prop):Exit→St→Prop
 |.normal,s=>R s
 |e,s=>K e s
def Q2t (id:Nat) (K:Exit→St→Prop):Exit→St→Prop
 |.exit h_,s=>if h_=id then K .normal s else K (.exit h_) s
 |e,s=>K e s
def Z1e:Own→Bool
 |[]=>true
 |(_,b)::r=>(match b with|.lpf _ _ .ret=>false|.lpf _ _ (.exit _)=>false|_=>true)&&Z1e r
def Q5r (A:LoopAnn) (p:A.E) (next:A.D→Prop) (K:Exit→St→Prop):Exit→St→Prop
 |.normal,s=>bif Z1e s.own then ∃ d,gmatch s (A.st p d) (A.own p d)∧next d else False
 |e,s=>K e s
def Z48 {D:Type}(F:(D→Prop)→Prop) (iI:D→Prop):Prop:=∃ I:D→Prop,F I∧∀ d,I d→iI d
def Z2h (L:List (Nat×LoopAnn)) (c:Operand):Option LoopAnn:=match c with
 |.tmp j=>QE L (3000000+j)
 |_=>none
def Q5x (n:Nat) (A:LoopAnn) (p:A.E) (next:A.D→Prop) (K:Exit→St→Prop):Exit→St→Prop
 |.normal,s=>∃ d,Hn n s (A.st p d) (A.own p d)∧next d
 |e,s=>K e s
def Q5b {D:Type}(m:Nat) (F:Nat→D→(D→Prop)→Prop) (iI:D→Prop) (d0:D):Prop :=
 ∃ I:Nat→D→Prop,I 0 d0∧(∀ k d,k<m→I k d→F k d fun d'=>I (k+1) d')∧∀ d,I m d→iI d
def Q6p:St→List SV→Option (St×List SV)
 |s,[]=>some (s,[])
 |s,v::vs=>match v with
  |.box o 0=>(match Qc s.own o with
   |.cells l _=>bif SVs.pure l then (match Q6p ⟨s.env,oset s.own o .dead,s.nx⟩ vs with|some (s',r)=>some (s',.cp l 0::r)|none=>none) else none
   |_=>none)
  |v=>bif v.pure then (match Q6p s vs with|some (s',r)=>some (s',v::r)|none=>none) else none
def EF (key:Nat) (vals:List Value) (s:St):St:=s.make key (.stk (SVs.kill key s.env) vals)
def BN:List SV→List Nat→List SV→List SV
 |env,p::ps,v::vs=>BN (env.set p v) ps vs
 |env,_,_=>env
def Q0b (key:Nat) (A:LoopAnn) (p:A.E) (vals:List Value) (next:A.D→Prop) (K:Exit→St→Prop) (e:Exit) (s:St):Prop :=
 match Qc s.own key with
 |.stk l vs=>vs=vals∧(match e with
  |.normal=>∃ d,gmatch ⟨l,s.own,s.nx⟩ (A.st p d) (A.own p d)∧next d
  |.ret=>K .ret ⟨l,s.own,s.nx⟩
  |.exit id=>K (.exit id) ⟨l,s.own,s.nx⟩
  |_=>False)
 |_=>False
def Z3i (o:Nat) (q:LpD) (s:St):St:=s.make o (.lpf (SVs.kill o s.env) q .rdy)
def gyK (o aL:Nat) (gF:List Value) (q:LpD) (K:SV→St→Prop) (e:Exit) (s:St):Prop :=
 match Qc s.own aL,Qc s.own o with
 |.stk l2 kG,.lpf l q' u=>(match u with
  |.busy=>kG=gF∧q'=q∧(match e with
   |.normal=>K (.val .bo true) ⟨l2,oset (oset s.own aL .dead) o (.lpf l q' .rdy),s.nx⟩
   |.ret=>K (.val .bo false) ⟨l2,oset (oset s.own aL .dead) o (.lpf l q' .ret),s.nx⟩
   |.exit id=>K (.val .bo false) ⟨l2,oset (oset s.own aL .dead) o (.lpf l q' (.exit id)),s.nx⟩
   |_=>False)
  |_=>False)
 |_,_=>False
def Q6a (o:Nat) (q:LpD) (K:Exit→St→Prop) (s:St):Prop :=
 match Qc s.own o with
 |.lpf l q' u=>(match u with
  |.busy=>False
  |.rdy=>q'=q∧K .normal ⟨l,oset s.own o .dead,s.nx⟩
  |.ret=>q'=q∧K .ret ⟨l,oset s.own o .dead,s.nx⟩
  |.exit id=>q'=q∧K (.exit id) ⟨l,oset s.own o .dead,s.nx⟩)
 |_=>False
def Q0y (o aL np:Nat) (q:LpD) (W:(Exit→St→Prop)→St→Prop) (ps:List Nat):YSp:=fun args s K =>
 match Qc s.own o with
 |.lpf l q' u=>(match u with
  |.rdy=>bif Nat.beq args.length np then q'=q∧∀ gF,W (gyK o aL gF q K) ⟨BN (SVs.kill aL l) ps (SVs.kill aL args),oset (EF aL gF s).own o (.lpf (SVs.kill aL l) q' .busy),s.nx⟩ else False
  |_=>False)
 |_=>False
def gwp (C:Cx) (L:List (Nat×LoopAnn)):VCode→Nat→(Exit→St→Prop)→St→Prop
 |.skip,_,K,s=>K .normal s
 |.region ops,_,K,s=>Z1a C ops s fun s'=>K .normal s'
 |.regionD aQ,_,K,s=>Cy C aQ s fun s'=>K .normal s'
 |.seq a b,n,K,s=>gwp C L a n (Q3o (fun s'=>gwp C L b n K s') K) s
 |.cond c a b,n,K,s=>match Ew s.env c with
  |some t=>bif t then gwp C L a n K s else gwp C L b n K s
  |none=>(match asB (gev [] s.env c) with
   |some t=>(match Z2h L c with
    |some A=>∃ p:A.E,Z48 (fun next=>(t=true→gwp C L a n (Q5x s.env.length A p next K) s)∧(t=false→gwp C L b n (Q5x s.env.length A p next K) s)) (fun d=>K .normal (Zp s.env.length (A.st p d) (A.own p d)))
    |none=>(t=true→gwp C L a n K s)∧(t=false→gwp C L b n K s))
   |none=>False)
 |.block id b,_,K,s=>gwp C L b id (Q2t id K) s
 |.loop b,n,K,s=>match QE L n with
  |some A=>∃ (p:A.E) (d0:A.D),gmatch s (A.st p d0) (A.own p d0)∧LoopP (fun d next=>gwp C L b n (Q5r A p next K) (Zp s.env.length (A.st p d) (A.own p d))) d0
  |none=>False
 |.rangeF g ps a b,n,K,s=>match gev [] s.env g with
  |.fn f first dE=>(match QE C.iy f with
   |some x=>∀ q:LpD,x (C.off+2000000+n) (SVs.kill (C.off+2000000+n) first++(.dd (C.off+2000000+n) .yv::SVs.kill (C.off+2000000+n) dE))
     (C.off+2000000+n,Q0y (C.off+2000000+n) (100000*(C.off+2000000+n+1)-1) ps.length q (fun K' s'=>gwp C L a n (Q3o (fun s3=>gwp C L b n K' s3) fun _ _=>False) s') ps)
     (Z3i (C.off+2000000+n) q s) (Q6a (C.off+2000000+n) q K)
   |none=>(match first with
   |[]=>(match QE C.it f,Q6p s dE,QE L n with
    |some it,some (s1,cN),some A=>(match it cN with
     |some (c,m,ar,xs)=>(bif Nat.beq ps.length ar then c∧∃ (p:A.E) (d0:A.D),gmatch s1 (A.st p d0) (A.own p d0) ∧
      Q5b m (fun k d next=>∀ vals,gwp C L a n (Q3o (fun s3=>gwp C L b n (Q0b (2000000+n) A p vals next K) s3) fun _ _=>False)
       ⟨BN (EF (2000000+n) vals (Zp s.env.length (A.st p d) (A.own p d))).env ps (xs k),(EF (2000000+n) vals (Zp s.env.length (A.st p d) (A.own p d))).own,0⟩)
       (fun d=>K .normal (Zp s.env.length (A.st p d) (A.own p d))) d0 else False)
     |none=>False)
    |_,_,_=>False)
   |_=>False))
  |_=>False
 |.exit id,_,K,s=>K (.exit id) s
 |.ret,_,K,s=>K .ret s
 |.bad,_,_,_=>False
end Go.V
namespace Go.V
open Go
section
variable {P:Program}
theorem JL {a b:Nat}(h:¬ a=b):Nat.beq a b=false:=by
 cases e:Nat.beq a b with
 |false=>rfl
 |true=>exact absurd (Nat.eq_of_beq_eq_true e) h
theorem PfRel.mono {B B':Heap}(hB:B.Le B') {ks:List Kind}{r:Kind}{cX:AT ks→Prop}{p:AT ks→r.T}{v:Value}(h:PfRel P B ks r cX p v):PfRel P B' ks r cX p v:=by obtain⟨g,first,cap,hv,hx⟩:=h;exact⟨g,first,cap,hv,fun x hd σ vs hs ha=>hx x hd σ vs (hB.trans hs) ha⟩
theorem Q41 {tb tb':Nat→Option Bool}(ht:∀ n c,tb n=some c→tb' n=some c) {v:SV}(h:gtb tb v):gtb tb' v:=by cases v<;>first|trivial|exact ht _ _ h
theorem Q3i {tb tb':Nat→Option Bool}{o:Nat}(ht:∀ n c,tb n=some c→tb' n=some c) {v:SV}(h:gtb tb v):gtb tb' (v.kill o):=by
 cases v
 case bid n c=>exact ht _ _ h
 all_goals (simp only[SV.kill];first|trivial|(split<;>trivial)|(cases Nat.beq _ _<;>trivial))
mutual
theorem SR.upd {B B':Heap}{pl pl':Nat→Value}{tb tb':Nat→Option Bool}{o:Nat}(hB:B.Le B') (ht:∀ n c,tb n=some c→tb' n=some c) (hp:∀ d,d≠o→pl' d=pl d) :
  ∀ (s:SV) (v:Value),SR P B pl tb s v→SR P B' pl' tb' (s.kill o) v
 |.any,_,_=>trivial
 |.val k x,v,h=>by simp only[SV.kill,SR] at h ⊢;exact KC.mono hB h
 |.bid n c,v,h=>by simp only[SV.kill,SR] at h ⊢;exact⟨h.1,ht _ _ h.2⟩
 |.grd gs s,v,h=>by simp only[SV.kill,SR] at h ⊢;exact⟨⟨fun g hg=>ht _ _ (h.1.1 g hg),Q3i ht h.1.2⟩,fun hg=>SR.upd hB ht hp s v (h.2.1 hg),h.2.2⟩
 |.nilS,v,h=>h
 |.nilP,v,h=>h
 |.nilM,v,h=>h
 |.nilF,v,h=>h
 |.lst o',v,h=>by
  by_cases e:o'=o
  ·subst e;simp[SV.kill,SR]
  ·simp only[SV.kill,JL e,cond_false];simp only[SR] at h ⊢;rw[hp _ e];exact h
 |.sub o' lo n sz,v,h=>by
  by_cases e:o'=o
  ·subst e;simp[SV.kill,SR]
  ·simp only[SV.kill,JL e,cond_false];simp only[SR] at h ⊢;rw[hp _ e];exact h
 |.elp o' i off sz,v,h=>by
  by_cases e:o'=o
  ·subst e;simp[SV.kill,SR]
  ·simp only[SV.kill,JL e,cond_false];simp only[SR] at h ⊢;rw[hp _ e];exact h
 |.box o' off,v,h=>by
  by_cases e:o'=o
  ·subst e;simp[SV.kill,SR]
  ·simp only[SV.kill,JL e,cond_false];simp only[SR] at h ⊢;rw[hp _ e];exact h
 |.map o',v,h=>by
  by_cases e:o'=o
  ·subst e;simp[SV.kill,SR]
  ·simp only[SV.kill,JL e,cond_false];simp only[SR] at h ⊢;rw[hp _ e];exact h
 |.dd o' w,v,h=>by
  by_cases e:o'=o
  ·subst e;simp[SV.kill,SR]
  ·simp only[SV.kill,JL e,cond_false];simp only[SR] at h ⊢;rw[hp _ e];exact h
 |.rop k l i off,v,h=>by simp only[SV.kill,SR] at h ⊢;obtain⟨b,o,c,e,wr,t,h1,h2,h3,h4,h5,h6⟩:=h;exact⟨b,o,c,e,wr,t,h1,h2,hB.2 _ _ h3,h4,h5,h6.mono fun _ _=>KC.mono hB⟩
 |.cp l off,v,h=>by simp only[SV.kill,SR] at h ⊢;obtain⟨b,c,e,wr,t,h1,h2,h3⟩:=h;exact⟨b,c,e,wr,t,hB.2 _ _ h1,h2,SRs.upd hB ht hp l c h3⟩
 |.agg l,v,h=>by simp only[SV.kill,SR] at h ⊢;obtain⟨cs,h1,h2⟩:=h;exact⟨cs,h1,SRs.upd hB ht hp l cs h2⟩
 |.tup l,v,h=>by simp only[SV.kill,SR] at h ⊢;obtain⟨cs,h1,h2⟩:=h;exact⟨cs,h1,SRs.upd hB ht hp l cs h2⟩
 |.fn f a b,v,h=>by simp only[SV.kill,SR] at h ⊢;obtain⟨x,y,h1,h2,h3⟩:=h;exact⟨x,y,h1,SRs.upd hB ht hp a x h2,SRs.upd hB ht hp b y h3⟩
 |.pf ks r cX p,v,h=>by simp only[SV.kill,SR] at h ⊢;exact h.mono hB
theorem SRs.upd {B B':Heap}{pl pl':Nat→Value}{tb tb':Nat→Option Bool}{o:Nat}(hB:B.Le B') (ht:∀ n c,tb n=some c→tb' n=some c) (hp:∀ d,d≠o→pl' d=pl d) :
  ∀ (s:List SV) (v:List Value),SRs P B pl tb s v→SRs P B' pl' tb' (SVs.kill o s) v
 |[],v,h=>h
 |s::ss,v,h=>by simp only[SVs.kill,SRs] at h ⊢;obtain⟨x,y,h1,h2,h3⟩:=h;exact⟨x,y,h1,SR.upd hB ht hp s x h2,SRs.upd hB ht hp ss y h3⟩
end
mutual
theorem SR.mono {B B':Heap}{pl:Nat→Value}{tb tb':Nat→Option Bool}(hB:B.Le B') (ht:∀ n c,tb n=some c→tb' n=some c) :
  ∀ (s:SV) (v:Value),SR P B pl tb s v→SR P B' pl tb' s v
 |.any,_,_=>trivial
 |.val k x,v,h=>by simp only[SR] at h ⊢;exact KC.mono hB h
 |.bid n c,v,h=>by simp only[SR] at h ⊢;exact⟨h.1,ht _ _ h.2⟩
 |.grd gs s,v,h=>by simp only[SR] at h ⊢;exact⟨⟨fun g hg=>ht _ _ (h.1.1 g hg),Q41 ht h.1.2⟩,fun hg=>SR.mono hB ht s v (h.2.1 hg),h.2.2⟩
 |.nilS,v,h|.nilP,v,h|.nilM,v,h|.nilF,v,h=>by simp only[SR] at h ⊢;exact h
 |.lst _,v,h|.sub _ _ _ _,v,h|.elp _ _ _ _,v,h|.box _ _,v,h|.map _,v,h|.dd _ _,v,h=>by simp only[SR] at h ⊢;exact h
 |.rop k l i off,v,h=>by simp only[SR] at h ⊢;obtain⟨b,o,c,e,wr,t,h1,h2,h3,h4,h5,h6⟩:=h;exact⟨b,o,c,e,wr,t,h1,h2,hB.2 _ _ h3,h4,h5,h6.mono fun _ _=>KC.mono hB⟩
 |.cp l off,v,h=>by simp only[SR] at h ⊢;obtain⟨b,c,e,wr,t,h1,h2,h3⟩:=h;exact⟨b,c,e,wr,t,hB.2 _ _ h1,h2,SRs.mono hB ht l c h3⟩
 |.agg l,v,h=>by simp only[SR] at h ⊢;obtain⟨cs,h1,h2⟩:=h;exact⟨cs,h1,SRs.mono hB ht l cs h2⟩
 |.tup l,v,h=>by simp only[SR] at h ⊢;obtain⟨cs,h1,h2⟩:=h;exact⟨cs,h1,SRs.mono hB ht l cs h2⟩
 |.fn f a b,v,h=>by simp only[SR] at h ⊢;obtain⟨x,y,h1,h2,h3⟩:=h;exact⟨x,y,h1,SRs.mono hB ht a x h2,SRs.mono hB ht b y h3⟩
 |.pf ks r cX p,v,h=>by simp only[SR] at h ⊢;exact h.mono hB
theorem SRs.mono {B B':Heap}{pl:Nat→Value}{tb tb':Nat→Option Bool}(hB:B.Le B') (ht:∀ n c,tb n=some c→tb' n=some c) :
  ∀ (s:List SV) (v:List Value),SRs P B pl tb s v→SRs P B' pl tb' s v
 |[],v,h=>h
 |s::ss,v,h=>by simp only[SRs] at h ⊢;obtain⟨x,y,h1,h2,h3⟩:=h;exact⟨x,y,h1,SR.mono hB ht s x h2,SRs.mono hB ht ss y h3⟩
end
mutual
theorem SR.frz {B:Heap}{pl:Nat→Value}{tb:Nat→Option Bool}{o:Nat}{k:Kind}{xs:List k.T}(hk:KC B (.list k) xs [pl o]) :
  ∀ (s:SV) (v:Value),SR P B pl tb s v→SR P B pl tb (s.frz o k xs) v
 |.any,_,_=>trivial
 |.val k' x,v,h=>by simp only[SV.frz];exact h
 |.bid n c,v,h=>by simp only[SV.frz];exact h
 |.grd gs s,v,h=>by simp only[SV.frz,SR] at h ⊢;refine⟨⟨h.1.1,?_⟩,fun hg=>SR.frz hk s v (h.2.1 hg),h.2.2⟩;have h2:=h.1.2;cases s<;>first|exact h2|trivial|(simp only[SV.frz];cases Nat.beq _ _<;>trivial)
 |.nilS,v,h|.nilP,v,h|.nilM,v,h|.nilF,v,h=>h
 |.lst o',v,h=>by
  by_cases e:o'=o
  ·subst e;simp only[SV.frz,Nat.beq_refl,_root_.cond_true];simp only[SR] at h ⊢;rw[h.1];exact hk
  ·simp only[SV.frz,JL e,cond_false];exact h
 |.sub o' lo n sz,v,h=>by
  simp only[SV.frz];cases Nat.beq o' o with
  |true=>trivial
  |false=>exact h
 |.elp o' i off sz,v,h=>by
  simp only[SV.frz];cases Nat.beq o' o with
  |true=>trivial
  |false=>exact h
 |.box o' off,v,h=>by
  simp only[SV.frz];cases Nat.beq o' o with
  |true=>trivial
  |false=>exact h
 |.map o',v,h=>by
  simp only[SV.frz];cases Nat.beq o' o with
  |true=>trivial
  |false=>exact h
 |.dd o' w,v,h=>by
  simp only[SV.frz];cases Nat.beq o' o with
  |true=>trivial
  |false=>exact h
 |.rop k l i off,v,h=>by simp only[SV.frz];exact h
 |.cp l off,v,h=>by simp only[SV.frz,SR] at h ⊢;obtain⟨b,c,e,wr,t,h1,h2,h3⟩:=h;exact⟨b,c,e,wr,t,h1,h2,SRs.frz hk l c h3⟩
 |.agg l,v,h=>by simp only[SV.frz,SR] at h ⊢;obtain⟨cs,h1,h2⟩:=h;exact⟨cs,h1,SRs.frz hk l cs h2⟩
 |.tup l,v,h=>by simp only[SV.frz,SR] at h ⊢;obtain⟨cs,h1,h2⟩:=h;exact⟨cs,h1,SRs.frz hk l cs h2⟩
 |.fn f a b,v,h=>by simp only[SV.frz,SR] at h ⊢;obtain⟨x,y,h1,h2,h3⟩:=h;exact⟨x,y,h1,SRs.frz hk a x h2,SRs.frz hk b y h3⟩
 |.pf ks r cX p,v,h=>by simp only[SV.frz];exact h
theorem SRs.frz {B:Heap}{pl:Nat→Value}{tb:Nat→Option Bool}{o:Nat}{k:Kind}{xs:List k.T}(hk:KC B (.list k) xs [pl o]) :
  ∀ (s:List SV) (v:List Value),SRs P B pl tb s v→SRs P B pl tb (SVs.frz o k xs s) v
 |[],v,h=>h
 |s::ss,v,h=>by simp only[SVs.frz,SRs] at h ⊢;obtain⟨x,y,h1,h2,h3⟩:=h;exact⟨x,y,h1,SR.frz hk s x h2,SRs.frz hk ss y h3⟩
end
theorem SRs.length {B:Heap}{pl:Nat→Value}{tb:Nat→Option Bool}:∀ {s:List SV}{v:List Value},SRs P B pl tb s v→s.length=v.length
 |[],v,h=>by simp only[SRs] at h;subst h;rfl
 |s::ss,v,h=>by simp only[SRs] at h;obtain⟨x,y,rfl,_,h3⟩:=h;simp[SRs.length h3]
theorem SRs.get {B:Heap}{pl:Nat→Value}{tb:Nat→Option Bool}:∀ {s:List SV}{v:List Value},SRs P B pl tb s v→∀ {i:Nat}{a:SV},s[i]?=some a→∃ c,v[i]?=some c∧SR P B pl tb a c
 |[],v,h,i,a,hi=>by simp at hi
 |s::ss,v,h,i,a,hi=>by
  simp only[SRs] at h;obtain⟨x,y,rfl,h2,h3⟩:=h;cases i with
  |zero=>simp at hi;subst hi;exact⟨x,rfl,h2⟩
  |succ i=>simp at hi;simpa using SRs.get h3 hi
theorem SRs.of {B:Heap}{pl:Nat→Value}{tb:Nat→Option Bool}:∀ {s:List SV}{v:List Value},s.length=v.length→(∀ (i:Nat) (a:SV) (c:Value),s[i]?=some a→v[i]?=some c→SR P B pl tb a c)→SRs P B pl tb s v
 |[],v,hl,_=>by simp only[SRs];exact List.length_eq_zero_iff.1 (by simpa using hl.symm)
 |s::ss,[],hl,_=>by simp at hl
 |s::ss,x::y,hl,h=>by simp only[SRs];exact⟨x,y,rfl,h 0 s x rfl rfl,SRs.of (by simpa using hl) fun i a c ha hc=>h (i+1) a c (by simpa using ha) (by simpa using hc)⟩
theorem SRs.getD {B:Heap}{pl:Nat→Value}{tb:Nat→Option Bool}{s:List SV}{v:List Value}(h:SRs P B pl tb s v) (i:Nat) (d:Value):SR P B pl tb (s.getD i .any) (v.getD i d):=by
 by_cases hi:i<s.length
 ·obtain⟨c,h1,h2⟩:=h.get (List.getElem?_eq_getElem hi);rw[List.getD_eq_getElem?_getD,List.getD_eq_getElem?_getD,h1,List.getElem?_eq_getElem hi];exact h2
 ·rw[List.getD_eq_getElem?_getD,List.getElem?_eq_none (by omega)];simp[SR]
theorem SRs.set {B:Heap}{pl:Nat→Value}{tb:Nat→Option Bool}{s:List SV}{v:List Value}(h:SRs P B pl tb s v) (i:Nat) {a:SV}{c:Value}(ha:SR P B pl tb a c):SRs P B pl tb (s.set i a) (v.set i c):=by
 refine SRs.of (by simp[h.length]) fun j a' c' h1 h2=>?_;rw[List.getElem?_set] at h1 h2;by_cases bR:i=j
 ·subst bR;simp only[if_true] at h1 h2;split at h1<;>split at h2<;>simp at h1 h2;subst h1;subst h2;exact ha
 ·simp only[bR,if_false] at h1 h2;obtain⟨c,h3,h4⟩:=h.get h1;rw[h3] at h2;obtain rfl:=osj h2;exact h4
theorem SRs.append {B:Heap}{pl:Nat→Value}{tb:Nat→Option Bool}:∀ {s:List SV}{v:List Value}{s':List SV}{v':List Value},SRs P B pl tb s v→SRs P B pl tb s' v'→SRs P B pl tb (s++s') (v++v')
 |[],v,s',v',h,h'=>by simp only[SRs] at h;subst h;exact h'
 |s::ss,v,s',v',h,h'=>by simp only[SRs,List.cons_append] at h ⊢;obtain⟨x,y,rfl,h2,h3⟩:=h;exact⟨x,y++v',rfl,h2,SRs.append h3 h'⟩
theorem SRs.take {B:Heap}{pl:Nat→Value}{tb:Nat→Option Bool}:∀ {s:List SV}{v:List Value},SRs P B pl tb s v→∀ n,SRs P B pl tb (s.take n) (v.take n)
 |[],v,h,n=>by simp only[SRs] at h;subst h;simp[SRs]
 |s::ss,v,h,0=>by simp[SRs]
 |s::ss,v,h,n+1=>by simp only[SRs] at h;obtain⟨x,y,rfl,h2,h3⟩:=h;simp only[List.take_succ_cons,SRs];exact⟨x,_,rfl,h2,SRs.take h3 n⟩
theorem SRs.drop {B:Heap}{pl:Nat→Value}{tb:Nat→Option Bool}:∀ {s:List SV}{v:List Value},SRs P B pl tb s v→∀ n,SRs P B pl tb (s.drop n) (v.drop n)
 |[],v,h,n=>by simp only[SRs] at h;subst h;simp[SRs]
 |s::ss,v,h,0=>by simpa using h
 |s::ss,v,h,n+1=>by simp only[SRs] at h;obtain⟨x,y,rfl,h2,h3⟩:=h;simpa using SRs.drop h3 n
theorem SRs.map {B:Heap}{pl:Nat→Value}{tb:Nat→Option Bool}{α:Type}{f:α→SV}{g:α→Value}:∀ {l:List α},(∀ x∈l,SR P B pl tb (f x) (g x))→SRs P B pl tb (l.map f) (l.map g)
 |[],_=>by simp[SRs]
 |x::l,h=>by simp only[List.map_cons,SRs];exact⟨_,_,rfl,h x (by simp),SRs.map fun y hy=>h y (by simp[hy])⟩
def OB.live:OB→Bool
 |.dead=>false
 |.stk _ _=>false
 |.lpf _ _ s=>s.live
 |_=>true
def oid:Value→Option Nat
 |.slice (some a) _ _=>some a.block
 |.pointer (some a)=>some a.block
 |.map m=>m
 |_=>none
def Oid (p:Value) (i:Nat):Prop:=match p with
 |.tuple l=>∃ b,(XI (.tuple l)).get i=some b
 |v=>oid v=some i
theorem Hd {p:Value}{i:Nat}(h:oid p=some i):Oid p i:=by cases p<;>first|exact h|cases h
theorem Q09 {p:Value}{n i:Nat}(hp:oid p=some n) (hi:Oid p i):i=n:=by cases p<;>first|exact osj (hi.symm.trans hp)|cases hp
def RowsH {α:Type}(R:α→List Value→List Nat→Prop) (sz:Nat) (h:Option Nat):Nat→List α→List Value→List Nat→Prop
 |_,[],cs,is=>cs=[]∧is=[]
 |j,x::xs,cs,is=>∃ c cs' i1 i2,cs=c++cs'∧is=i1++i2∧(if h=some j then c.length=sz∧i1=[] else R x c i1)∧RowsH R sz h (j+1) xs cs' i2
def DO (H:Heap) (ty:Nat) (q:Option Nat) (k:Kind) (xs:List k.T) (h:Option Nat) (v:Value) (is:List Nat):Prop :=
 (xs=[]∧v=.slice none 0 0∧is=[])∨∃ i cap c t js,v=.slice (some ⟨i,0,none⟩) xs.length cap∧is=i::js∧xs.length≤cap∧H.get i=some (.cells c ⟨k.size,ty⟩ true t)∧cap*k.size≤c.length ∧
  RowsH (KO H q k) k.size h 0 xs (c.take (xs.length*k.size)) js
def DP (σ:Heap) (p:Value) (ty:Nat) (q:Option Nat) (k:Kind) (xs:List k.T) (nl:Bool) (h:Option Nat):Prop :=
 ∃ is,(∀ i,Oid p i↔∃ b,(XI p).get i=some b)∧is.Nodup∧DO (XI p) ty q k xs h (phd p) is∧(∀ i,(∃ b,(XI p).get i=some b)↔i∈is)∧(∀ i b,(XI p).get i=some b→σ.get i=some b)∧(nl=true↔phd p=.slice none 0 0)
theorem DP.mono {σ σ':Heap}{p:Value}{ty:Nat}{q:Option Nat}{k:Kind}{xs:List k.T}{nl:Bool}{h:Option Nat}(hd:DP σ p ty q k xs nl h) (hg:∀ i,Oid p i→σ'.get i=σ.get i):DP σ' p ty q k xs nl h:=by obtain⟨is,hO,h1,h2,h3,h4,h5⟩:=hd;exact⟨is,hO,h1,h2,h3,fun i b hb=>by rw[hg i ((hO i).2 ⟨b,hb⟩)];exact h4 i b hb,h5⟩
def MR (B:Heap) (kk vk:Kind):List (kk.T×vk.T)→List JP→Prop
 |[],es=>es=[]
 |m::ms,es=>∃ e bV,es=e::bV∧KV B kk m.1 e.1∧KV B vk m.2 e.2.1∧MR B kk vk ms bV
def SOk (es:List JP) (clock:Nat):Prop:=(es.map fun e=>e.2.2).Nodup∧∀ e∈es,e.2.2<clock
def MC (B:Heap) (kk vk:Kind) (m:List (kk.T×vk.T)) (es:List JP) (clock:Nat):Prop:=MR B kk vk m es∧SOk es clock
def DN (es:List JP) (dn seen:List Nat):Prop:=seen.length=dn.length∧∀ (t r:Nat),dn[t]?=some r→∃ e,es[r]?=some e∧seen[t]?=some e.2.2
def OR (P:Program) (B:Heap) (pl:Nat→Value) (tb:Nat→Option Bool) (σ:Heap) (p:Value):OB→Prop
 |.dead=>True
 |.lst ty k xs nl=>(nl=true∧xs=[]∧p=.slice none 0 0)∨(nl=false∧∃ i cap c t,p=.slice (some ⟨i,0,none⟩) xs.length cap∧xs.length≤cap∧σ.get i=some (.cells c ⟨k.size,ty⟩ true t)∧cap*k.size≤c.length∧Rows (KC B k) xs (c.take (xs.length*k.size)))
 |.cells l u=>∃ i c e t,p=.pointer (some ⟨i,0,none⟩)∧σ.get i=some (.cells c e true t)∧SRs P B pl tb l c∧(∀ y,u=some y→e.ty=y∧t=true)
 |.map kk vk m=>∃ i es clock,p=.map (some i)∧σ.get i=some (.obj (.map es clock) true)∧MC B kk vk m es clock
 |.iter kk vk m dn=>∃ j i es clock wr seen,p=.pointer (some ⟨j,0,none⟩)∧σ.get j=some (.obj (.iter i clock seen clock) true)∧B.get i=some (.obj (.map es clock) wr)∧MC B kk vk m es clock∧DN es dn seen
 |.mapE kk vk m key n=>∃ i es clock,∃ r:Nat,∃ e:JP,p=.map (some i)∧σ.get i=some (.obj (.map es clock) true)∧MC B kk vk m es clock∧es[r]?=some e∧KV B kk key e.1∧Qi e.1 es=some e∧(e.2.2:Int)=n∧∃ mk,gq.mkOk mk kk=true
 |.stk l vals=>SRs P B pl tb l vals
 |.deep ty q k xs nl h=>DP σ p ty q k xs nl h
 |.lpf l q s=>p=.pointer (some ⟨q.i,0,none⟩)∧SRs P B pl tb l q.vals∧(s.live=true→σ.get q.i=some (.obj (.lp q.vals q.r s.st s.pend) true))
theorem MR.mono {B B':Heap}(hB:B.Le B') {kk vk:Kind}:∀ {m:List (kk.T×vk.T)}{es:List JP},MR B kk vk m es→MR B' kk vk m es
 |[],es,h=>h
 |m::ms,es,h=>by obtain⟨e,bV,h1,h2,h3,h4⟩:=h;exact⟨e,bV,h1,h2.mono hB,h3.mono hB,h4.mono hB⟩
theorem MC.mono {B B':Heap}(hB:B.Le B') {kk vk:Kind}{m:List (kk.T×vk.T)}{es:List JP}{clock:Nat}(h:MC B kk vk m es clock):MC B' kk vk m es clock:=⟨h.1.mono hB,h.2⟩
theorem OR.upd {B B':Heap}{pl pl':Nat→Value}{tb tb':Nat→Option Bool}{o:Nat}(hB:B.Le B') (ht:∀ n c,tb n=some c→tb' n=some c) (hp:∀ d,d≠o→pl' d=pl d) {σ σ':Heap}{p:Value}{b:OB}
  (h:OR P B pl tb σ p b) (hg:b.live=true→∀ i,Oid p i→σ'.get i=σ.get i):OR P B' pl' tb' σ' p (b.kill o):=by
 cases b with
 |dead=>trivial
 |lst ty k xs nl =>
  rcases h with h|⟨h0,i,cap,c,t,h1,h2,h3,h4,h5⟩
  ·exact .inl h
  ·exact .inr ⟨h0,i,cap,c,t,h1,h2,by rw[hg rfl i (by rw[h1];rfl)];exact h3,h4,h5.mono fun _ _=>KC.mono hB⟩
 |cells l u =>obtain⟨i,c,e,t,h1,h2,h3,h4⟩:=h;exact⟨i,c,e,t,h1,by rw[hg rfl i (by rw[h1];rfl)];exact h2,SRs.upd hB ht hp l c h3,h4⟩
 |map kk vk m =>obtain⟨i,es,clock,h1,h2,h3⟩:=h;exact⟨i,es,clock,h1,by rw[hg rfl i (by rw[h1];rfl)];exact h2,h3.mono hB⟩
 |mapE kk vk m key n =>obtain⟨i,es,clock,r,e,h1,h2,h3,h4,h5,h6⟩:=h;exact⟨i,es,clock,r,e,h1,by rw[hg rfl i (by rw[h1];rfl)];exact h2,h3.mono hB,h4,h5.mono hB,h6⟩
 |stk l vals=>exact SRs.upd hB ht hp l vals h
 |deep ty q k xs nl hh=>exact DP.mono h (hg rfl)
 |iter kk vk m dn =>obtain⟨j,i,es,clock,wr,seen,h1,h2,h3,h4,h5⟩:=h;exact⟨j,i,es,clock,wr,seen,h1,by rw[hg rfl j (by rw[h1];rfl)];exact h2,hB.2 _ _ h3,h4.mono hB,h5⟩
 |lpf l q s=>exact⟨h.1,SRs.upd hB ht hp l q.vals h.2.1,fun hl=>by rw[hg hl q.i (by rw[h.1];rfl)];exact h.2.2 hl⟩
theorem OR.mono {B B':Heap}{pl:Nat→Value}{tb tb':Nat→Option Bool}(hB:B.Le B') (ht:∀ n c,tb n=some c→tb' n=some c) {σ σ':Heap}{p:Value}{b:OB}
  (h:OR P B pl tb σ p b) (hg:b.live=true→∀ i,Oid p i→σ'.get i=σ.get i):OR P B' pl tb' σ' p b:=by
 cases b with
 |dead=>trivial
 |lst ty k xs nl =>
  rcases h with h|⟨h0,i,cap,c,t,h1,h2,h3,h4,h5⟩
  ·exact .inl h
  ·exact .inr ⟨h0,i,cap,c,t,h1,h2,by rw[hg rfl i (by rw[h1];rfl)];exact h3,h4,h5.mono fun _ _=>KC.mono hB⟩
 |cells l u =>obtain⟨i,c,e,t,h1,h2,h3,h4⟩:=h;exact⟨i,c,e,t,h1,by rw[hg rfl i (by rw[h1];rfl)];exact h2,SRs.mono hB ht l c h3,h4⟩
 |map kk vk m =>obtain⟨i,es,clock,h1,h2,h3⟩:=h;exact⟨i,es,clock,h1,by rw[hg rfl i (by rw[h1];rfl)];exact h2,h3.mono hB⟩
 |mapE kk vk m key n =>obtain⟨i,es,clock,r,e,h1,h2,h3,h4,h5,h6⟩:=h;exact⟨i,es,clock,r,e,h1,by rw[hg rfl i (by rw[h1];rfl)];exact h2,h3.mono hB,h4,h5.mono hB,h6⟩
 |stk l vals=>exact SRs.mono hB ht l vals h
 |deep ty q k xs nl hh=>exact DP.mono h (hg rfl)
 |iter kk vk m dn =>obtain⟨j,i,es,clock,wr,seen,h1,h2,h3,h4,h5⟩:=h;exact⟨j,i,es,clock,wr,seen,h1,by rw[hg rfl j (by rw[h1];rfl)];exact h2,hB.2 _ _ h3,h4.mono hB,h5⟩
 |lpf l q s=>exact⟨h.1,SRs.mono hB ht l q.vals h.2.1,fun hl=>by rw[hg hl q.i (by rw[h.1];rfl)];exact h.2.2 hl⟩
theorem Qs (own:Own) (d:Nat) (b:OB) (d':Nat):Qc (oset own d b) d'=if d'=d then b else Qc own d':=by
 induction own with
 |nil =>
  simp only[oset,Qc];by_cases h:d'=d
  ·subst h;simp
  ·rw[if_neg h,JL fun e=>h e.symm];rfl
 |cons p r ih =>
  obtain⟨k,c⟩:=p;simp only[oset];by_cases h1:k=d
  ·subst h1;simp only[Nat.beq_refl,_root_.cond_true,Qc];by_cases h:d'=k
   ·subst h;simp
   ·rw[if_neg h,JL fun e=>h e.symm];rfl
  ·rw[JL h1,cond_false];cases Nat.blt d k with
   |true =>
    simp only[_root_.cond_true,Qc];by_cases h:d'=d
    ·subst h;simp
    ·rw[if_neg h,JL fun e=>h e.symm];rfl
   |false =>
    simp only[cond_false,Qc,ih];by_cases h:k=d'
    ·subst h;simp[h1]
    ·rw[JL h];rfl
theorem U5 (own:Own) (o d:Nat):Qc (Om o own) d=if d=o then .dead else (Qc own d).kill o:=by
 induction own with
 |nil=>simp[Om,Qc,OB.kill]
 |cons p r ih =>
  obtain⟨k,c⟩:=p;simp only[Om];by_cases h1:k=o
  ·subst h1;simp only[Nat.beq_refl,_root_.cond_true,ih,Qc];by_cases h:d=k
   ·simp[h]
   ·rw[if_neg h,if_neg h,JL fun e=>h e.symm];rfl
  ·rw[JL h1,cond_false];simp only[Qc,ih];by_cases h:k=d
   ·subst h;simp[h1]
   ·rw[JL h];simp
theorem OR.frz {B:Heap}{pl:Nat→Value}{tb:Nat→Option Bool}{o:Nat}{k:Kind}{xs:List k.T}(hk:KC B (.list k) xs [pl o]) {σ:Heap}{p:Value}{b:OB}
  (h:OR P B pl tb σ p b):OR P B pl tb σ p (b.frz o k xs):=by
 cases b with
 |cells l u =>obtain⟨i,c,e,t,h1,h2,h3,h4⟩:=h;exact⟨i,c,e,t,h1,h2,SRs.frz hk l c h3,h4⟩
 |stk l vals=>exact SRs.frz hk l vals h
 |lpf l q s=>exact⟨h.1,SRs.frz hk l q.vals h.2.1,h.2.2⟩
 |_=>exact h
theorem Q05 (own:Own) (o:Nat) (k:Kind) (xs:List k.T) (d:Nat):Qc (Q48 o k xs own) d=if d=o then .dead else (Qc own d).frz o k xs:=by
 induction own with
 |nil=>simp[Q48,Qc,OB.frz]
 |cons p r ih =>
  obtain⟨j,c⟩:=p;simp only[Q48];by_cases h1:j=o
  ·subst h1;simp only[Nat.beq_refl,_root_.cond_true,ih,Qc];by_cases h:d=j
   ·simp[h]
   ·rw[if_neg h,if_neg h,JL fun e=>h e.symm];rfl
  ·rw[JL h1,cond_false];simp only[Qc,ih];by_cases h:j=d
   ·subst h;simp[h1]
   ·rw[JL h];simp
theorem OB.live_frz (b:OB) (o:Nat) (k:Kind) (xs:List k.T):(b.frz o k xs).live=b.live:=by cases b<;>rfl
structure Gam (P:Program) (B F:Heap) (pl:Nat→Value) (tb:Nat→Option Bool) (s:St) (env:Env) (σ:Heap):Prop where
 bf:B.Le F
 le:F.Le σ
 env:SRs P B pl tb s.env env
 obj:∀ d,OR P B pl tb σ (pl d) (Qc s.own d)
 fresh:∀ d i,(Qc s.own d).live=true→Oid (pl d) i→F.get i=none
 sep:∀ d d' i,d≠d'→(Qc s.own d).live=true→(Qc s.own d').live=true→Oid (pl d) i→Oid (pl d') i→False
 free:∀ n,s.nx≤n→tb n=none
theorem Gam.leB {B F:Heap}{pl:Nat→Value}{tb:Nat→Option Bool}{s:St}{env:Env}{σ:Heap}(h:Gam P B F pl tb s env σ):B.Le σ:=h.bf.trans h.le
def X5 (pl:Nat→Value) (d:Nat) (p:Value):Nat→Value:=fun j=>if j=d then p else pl j
theorem OB.live_kill (b:OB) (o:Nat):(b.kill o).live=b.live:=by cases b<;>rfl
theorem Gam.make {B F:Heap}{pl:Nat→Value}{tb:Nat→Option Bool}{s:St}{env:Env}{σ σ':Heap}(h:Gam P B F pl tb s env σ) (d:Nat) (b:OB) (p:Value) (hle:F.Le σ')
  (cU:∀ j i,j≠d→(Qc s.own j).live=true→Oid (pl j) i→σ'.get i=σ.get i) (hb:OR P B (X5 pl d p) tb σ' p b)
  (bk:∀ i,b.live=true→Oid p i→F.get i=none∧∀ j,j≠d→(Qc s.own j).live=true→¬ Oid (pl j) i):Gam P B F (X5 pl d p) tb (s.make d b) env σ':=by
 have hp:∀ j,j≠d→X5 pl d p j=pl j:=fun j hj=>by simp[X5,hj]
 have hg:∀ j,Qc (s.make d b).own j=if j=d then b else (Qc s.own j).kill d:=fun j=>by simp only[St.make,St.kill,Qs,U5];split<;>rfl
 refine⟨h.bf,hle,SRs.upd (Heap.Le.refl B) (fun _ _ h=>h) hp _ _ h.env,fun j=>?_,fun j i hl hi=>?_,fun j j' i aA hl cA hi cI=>?_,h.free⟩
 ·rw[hg];by_cases hj:j=d
  ·subst hj;rw[if_pos rfl];simpa [X5] using hb
  ·rw[if_neg hj,hp j hj];exact(h.obj j).upd (Heap.Le.refl B) (fun _ _ h=>h) hp fun hl i hi=>cU j i hj hl hi
 ·rw[hg] at hl;by_cases hj:j=d
  ·subst hj;rw[if_pos rfl] at hl;simp only[X5,if_true] at hi;exact(bk i hl hi).1
  ·rw[if_neg hj,OB.live_kill] at hl;rw[hp j hj] at hi;exact h.fresh j i hl hi
 ·rw[hg] at hl cA;by_cases hj:j=d
  ·subst hj;rw[if_pos rfl] at hl;have dx:j'≠j:=fun e=>aA e.symm;rw[if_neg dx,OB.live_kill] at cA;rw[hp j' dx] at cI;simp only[X5,if_true] at hi;exact(bk i hl hi).2 j' dx cA cI
  ·rw[if_neg hj,OB.live_kill] at hl;rw[hp j hj] at hi;by_cases dx:j'=d
   ·subst dx;rw[if_pos rfl] at cA;simp only[X5,if_true] at cI;exact(bk i cA cI).2 j hj hl hi
   ·rw[if_neg dx,OB.live_kill] at cA;rw[hp j' dx] at cI;exact h.sep j j' i aA hl cA hi cI
theorem Gam.write {B F:Heap}{pl:Nat→Value}{tb:Nat→Option Bool}{s:St}{env:Env}{σ σ':Heap}(h:Gam P B F pl tb s env σ) (d:Nat) (b:OB) (hle:F.Le σ') (av:(Qc s.own d).live=true)
  (cU:∀ j i,j≠d→(Qc s.own j).live=true→Oid (pl j) i→σ'.get i=σ.get i) (hb:OR P B pl tb σ' (pl d) b):Gam P B F pl tb ⟨s.env,oset s.own d b,s.nx⟩ env σ':=by
 refine⟨h.bf,hle,h.env,fun j=>?_,fun j i hl hi=>?_,fun j j' i aA hl cA hi cI=>?_,h.free⟩
 ·simp only[Qs];by_cases hj:j=d
  ·subst hj;rw[if_pos rfl];exact hb
  ·rw[if_neg hj];exact(h.obj j).mono (Heap.Le.refl B) (fun _ _ h=>h) fun hl i hi=>cU j i hj hl hi
 ·simp only[Qs] at hl;by_cases hj:j=d
  ·subst hj;exact h.fresh j i av hi
  ·rw[if_neg hj] at hl;exact h.fresh j i hl hi
 ·simp only[Qs] at hl cA;have k1:(Qc s.own j).live=true:=by
   by_cases hj:j=d
   ·subst hj;exact av
   ·rwa [if_neg hj] at hl
  have k2:(Qc s.own j').live=true:=by
   by_cases hj:j'=d
   ·subst hj;exact av
   ·rwa [if_neg hj] at cA
  exact h.sep j j' i aA k1 k2 hi cI
theorem Gam.put {B F:Heap}{pl:Nat→Value}{tb:Nat→Option Bool}{s:St}{env:Env}{σ:Heap}(h:Gam P B F pl tb s env σ) (d:Option Nat) {v:SV}{u:Value}(hv:SR P B pl tb v u):Gam P B F pl tb (s.put d v) (Xt env d u) σ:=by
 cases d with
 |none=>exact h
 |some d=>exact⟨h.bf,h.le,h.env.set d hv,h.obj,h.fresh,h.sep,h.free⟩
end
end Go.V
namespace Go.V
open Go
section
variable {P:Program}{B:Heap}{pl:Nat→Value}{tb:Nat→Option Bool}{own:Own}{σ:Heap}
theorem ZW {s:SV}{v:Value}{k:IntKind}{x:Int}(h:asI s=some (k,x)) (hs:SR P B pl tb s v):v=.int k x:=by
 unfold asI at h;split at h
 ·obtain⟨rfl,rfl⟩:=(by simpa using h:_=k∧_=x);simp only[SR,KC] at hs;simpa using hs
 ·cases h
theorem XR {s:SV}{v:Value}{x:Bool}(h:asB s=some x) (hs:SR P B pl tb s v):v=.bool x:=by
 unfold asB at h;split at h
 ·obtain rfl:=osj h;simp only[SR,KC] at hs;simpa using hs
 ·obtain rfl:=osj h;simp only[SR] at hs;exact hs.1
 ·cases h
theorem VM {s:SV}{v:Value}{x:List UInt8}(h:asS s=some x) (hs:SR P B pl tb s v):v=.string ⟨x.toArray⟩:=by
 unfold asS at h;split at h
 ·obtain rfl:=osj h;simp only[SR,KC] at hs;simpa using hs
 ·cases h
theorem W1 {k k':Kind}{l:List k.T}{l':List k'.T}(h:UM l k'=some l'):k=k':=by
 unfold UM at h;split at h
 ·assumption
 ·cases h
theorem W5 {k:Kind}{l l':List k.T}(h:UM l k=some l'):l'=l:=by unfold UM at h;rw[dif_pos rfl] at h;exact(osj h).symm
theorem SY {k k':Kind}{x:k.T}{x':k'.T}(h:Q0i x k'=some x'):k=k':=by
 unfold Q0i at h;split at h
 ·assumption
 ·cases h
theorem Lh {k:Kind}{x x':k.T}(h:Q0i x k=some x'):x'=x:=by unfold Q0i at h;rw[dif_pos rfl] at h;exact(osj h).symm
theorem DQ (v:Value):SR P B pl tb (cvp v) v:=by unfold cvp;split<;>simp[SR,KC]
theorem Q47 (v:Value):SR P B pl tb (cv v) v:=by
 unfold cv;split
 ·rename_i cs;simp only[SR];refine⟨cs.toList,by simp,?_⟩;have:SRs P B pl tb (cs.toList.map cvp) (cs.toList.map id):=SRs.map fun x _=>DQ x;simpa using this
 ·exact DQ v
def Gds (tb:Nat→Option Bool) (gs:List Gd):Prop:=∀ g∈gs,g.c=g.want∧tb g.id=some g.c
theorem Oc {a b:List Gd}(h:Q73 a b=true) (hb:Gds tb b) (ha:∀ g∈a,tb g.id=some g.c):∀ g∈a,g.c=g.want:=by
 induction b generalizing a with
 |nil=>cases a with
  |nil=>intro g hg;cases hg
  |cons x a=>simp[Q73] at h
 |cons y b ih =>
  cases a with
  |nil=>intro g hg;cases hg
  |cons x a =>
   have b8:Gds tb b:=fun g hg=>hb g (List.mem_cons_of_mem _ hg);simp only[Q73] at h;cases hc:(Nat.beq x.id y.id&&(x.want==y.want)) with
   |true =>
    rw[hc] at h;simp only[_root_.cond_true] at h;simp only[Bool.and_eq_true,beq_iff_eq] at hc;have e1:=Nat.eq_of_beq_eq_true hc.1;intro g hg;rcases List.mem_cons.1 hg with rfl|hg
    ·have h1:=ha g (by simp);have h2:=hb y (by simp);rw[e1] at h1;rw[h2.2] at h1;obtain e:=osj h1;rw[←e,h2.1,hc.2]
    ·exact ih h b8 (fun g hg=>ha g (List.mem_cons_of_mem _ hg)) g hg
   |false =>rw[hc] at h;exact ih h b8 ha
theorem C_ {gs:List Gd}(hg:Gds tb gs) {s:SV}{v:Value}(h:SR P B pl tb s v):SR P B pl tb (Q1i gs s) v:=by
 unfold Q1i;split
 ·rename_i g s;simp only[SR] at h;cases hs:Q73 g gs with
  |true=>exact h.2.1 (Oc hs hg h.1.1)
  |false=>trivial
 ·exact h
theorem Q1v {gs:List Gd}(hg:Gds tb gs) {env:List SV}{nT:Env}(h:SRs P B pl tb env nT) (x:Operand):SR P B pl tb (gev gs env x) (Q4 nT x):=by
 cases x with
 |tmp t=>exact C_ hg (h.getD t undef)
 |const v=>exact Q47 v
 |global g=>trivial
 |func f=>simp only[gev,Q4,SR,SRs];exact⟨[],[],rfl,rfl,rfl⟩
theorem Yo {h:Heap}:∀ {k:Kind}{x:k.T}{cs:List Value},KC h k x cs→SRs P h pl tb (U_ k x) cs
 |.i ik,x,cs,e=>by simp only[KC] at e;subst e;simp[U_,SRs,SR,KC]
 |.bo,x,cs,e=>by simp only[KC] at e;subst e;simp[U_,SRs,SR,KC]
 |.st,x,cs,e=>by simp only[KC] at e;subst e;simp[U_,SRs,SR,KC]
 |.list k,l,cs,e=>by obtain⟨v,rfl,hs⟩:=e;simp only[U_,SRs,SR];exact⟨v,[],rfl,⟨v,rfl,hs⟩,rfl⟩
 |.pair a b,x,cs,e=>by obtain⟨c1,c2,rfl,h1,h2⟩:=e;exact(Yo h1).append (Yo h2)
theorem JO {h:Heap}{k:Kind}{x:k.T}{v:Value}(e:KV h k x v):SR P h pl tb (EK k x) v:=by
 cases k with
 |pair a b =>
  rcases e with⟨h1,_⟩|⟨_,cs,rfl,e⟩
  ·cases h1
  ·simp only[EK,SR];exact⟨cs,rfl,Yo e⟩
 |i k|bo|st|list k =>
  rcases e with⟨_,e⟩|⟨h1,_⟩
  ·simpa only [EK,SR] using e
  ·cases h1
theorem JD {l:List SV}{c:List Value}(h:SRs P B pl tb l c) {agg:Bool}{size off:Nat}{v:SV}(hv:P9 agg size l off=some v):∃ u,Xy agg size c off=some u∧SR P B pl tb v u:=by
 cases agg with
 |true =>
  simp only[P9,_root_.cond_true] at hv;split at hv
  ·rename_i hle;obtain rfl:=osj hv;rw[h.length] at hle;refine⟨.agg ((c.drop off).take size).toArray,by simp only[Xy,if_true,hle],?_⟩;simp only[SR];exact⟨_,rfl,(h.drop off).take size⟩
  ·cases hv
 |false =>simp only[P9,_root_.cond_false] at hv;obtain⟨u,h1,h2⟩:=h.get hv;exact⟨u,by simpa [Xy] using h1,h2⟩
theorem NL {agg:Bool}{size off n m i:Nat}{c:List Value}{u:Value}(bq:off+size≤n) (hs:0<size) (h:Xy agg size (((c.take m).drop (i*n)).take n) off=some u) (hl:i*n+n≤m):Xy agg size c (i*n+off)=some u:=by
 cases agg with
 |true =>
  simp only[Xy,if_true] at h ⊢;split at h
  ·rename_i hle;simp only[List.length_take,List.length_drop] at hle;rw[if_pos (by omega)];obtain rfl:=osj h;congr 3;apply List.ext_getElem?;intro j;simp only[List.getElem?_take,List.getElem?_drop];split
   ·rw[if_pos (by omega),if_pos (by omega),Nat.add_assoc]
   ·rfl
  ·cases h
 |false =>simp only[Xy,Bool.false_eq_true,if_false] at h ⊢;simp only[List.getElem?_take,List.getElem?_drop] at h;rw[if_pos (by omega),if_pos (by omega)] at h;exact h
theorem KC.rows_len {h:Heap}{k:Kind}:∀ (x:k.T) (c:List Value),KC h k x c→c.length=k.size:=fun _ _ e=>KC.length e
theorem KC.flat {h h':Heap}:∀ {k:Kind}{x:k.T}{cs:List Value},k.flat=true→KC h k x cs→KC h' k x cs
 |.i _,_,_,_,e|.bo,_,_,_,e|.st,_,_,_,e=>e
 |.list _,_,_,f,_=>by cases f
 |.pair a b,x,cs,f,e=>by simp only[Kind.flat,Bool.and_eq_true] at f;obtain⟨c1,c2,hc,h1,h2⟩:=e;exact⟨c1,c2,hc,KC.flat f.1 h1,KC.flat f.2 h2⟩
theorem KV.flat {h h':Heap}{k:Kind}{x:k.T}{v:Value}(e:KV h k x v) (f:k.flat=true):KV h' k x v:=by
 rcases e with⟨ho,e⟩|⟨ho,cs,hv,e⟩
 ·exact .inl ⟨ho,KC.flat f e⟩
 ·exact .inr ⟨ho,cs,hv,KC.flat f e⟩
theorem KO.kc {H:Heap}:∀ {k:Kind}{q:Option Nat}{x:k.T}{cs:List Value}{is:List Nat},KO H q k x cs is→KC H k x cs
 |.i _,_,_,_,_,h=>by simp only[KO] at h;exact h.1
 |.bo,_,_,_,_,h=>by simp only[KO] at h;exact h.1
 |.st,_,_,_,_,h=>by simp only[KO] at h;exact h.1
 |.list k,q,l,cs,is,h=>by
  simp only[KO] at h;rcases h with⟨rfl,rfl,_⟩|⟨i,cap,c,e,t,js,rfl,rfl,h1,h2,h3,_,h4,h5⟩
  ·exact⟨_,rfl,.inl ⟨rfl,rfl⟩⟩
  ·refine⟨_,rfl,.inr ⟨i,0,cap,c,e,true,t,rfl,h1,h2,h3,by have:=Nat.mul_le_mul_right k.size h1;omega,?_⟩⟩;rw[List.drop_zero];have key:∀ {xs:List k.T}{cs:List Value}{js:List Nat},RowsO (fun x c is=>KO H none k x c is) xs cs js→Rows (fun x c=>KC H k x c) xs cs:=fun h=>by
    induction h with
    |nil=>exact .nil
    |cons h _ ih=>exact .cons (KO.kc (k:=k) h) ih
   exact key h5
 |.pair a b,_,x,cs,is,h=>by simp only[KO] at h;obtain⟨c1,c2,i1,i2,rfl,rfl,h1,h2⟩:=h;exact⟨c1,c2,rfl,h1.kc,h2.kc⟩
def Z1k:Kind→List Value→Prop
 |.list _,cs=>∀ v,cs=[v]→∀ a n c,v=.slice (some a) n c→a.off=0
 |_,_=>True
theorem KO.koff {H:Heap}:∀ {k:Kind}{q:Option Nat}{x:k.T}{cs:List Value}{is:List Nat},KO H q k x cs is→Z1k k cs
 |.i _,_,_,_,_,_|.bo,_,_,_,_,_|.st,_,_,_,_,_|.pair _ _,_,_,_,_,_=>trivial
 |.list k,q,l,cs,is,h=>by
  simp only[KO] at h;intro v hv a n c' hs;rcases h with⟨_,rfl,_⟩|⟨i,cap,c,e,t,js,rfl,_⟩
  ·obtain rfl:=(List.cons.inj hv).1;cases hs
  ·obtain rfl:=(List.cons.inj hv).1;cases hs;rfl
theorem RowsH.rows {α:Type}{R:α→List Value→List Nat→Prop}{R':α→List Value→Prop}(hR:∀ x c is,R x c is→R' x c) {sz:Nat}:∀ {xs:List α}{j:Nat}{cs:List Value}{is:List Nat},RowsH R sz none j xs cs is→Rows R' xs cs
 |[],j,cs,is,h=>by obtain⟨rfl,_⟩:=h;exact .nil
 |x::xs,j,cs,is,h=>by obtain⟨c,cs',i1,i2,rfl,rfl,h1,h2⟩:=h;rw[if_neg (by simp)] at h1;exact .cons (hR _ _ _ h1) (RowsH.rows hR h2)
theorem SA:∀ {l:List (Nat×Blk)}{p:Nat×Blk},p∈l→∃ b,CP l p.1=some b
 |(j,b)::r,p,h=>by
  by_cases e:p.1=j
  ·exact⟨b,by simp only[CP,if_pos e]⟩
  ·rcases List.mem_cons.1 h with rfl|h
   ·exact absurd rfl e
   ·obtain⟨b',h'⟩:=SA h;exact⟨b',by simp only[CP,if_neg e];exact h'⟩
theorem Q1u:∀ {l:List (Nat×Blk)}{n:Nat},(∀ p∈l,p.1<n)→Q7m l≤n
 |[],n,_=>Nat.zero_le _
 |(j,b)::r,n,h=>by have h1:=h (j,b) List.mem_cons_self;have h2:=Q1u (l:=r) (n:=n) fun p hp=>h p (List.mem_cons_of_mem _ hp);simp only[Q7m];simp only at h1;omega
theorem IN (p:Value):∃ l,XI p=Q6l l:=by
 unfold XI;split
 ·exact⟨_,rfl⟩
 ·exact⟨_,rfl⟩
theorem Q32 {p:Value}{σ:Heap}(h:∀ i b,(XI p).get i=some b→σ.get i=some b):(XI p).Le σ:=by obtain⟨l,e⟩:=IN p;rw[e] at h ⊢;refine⟨Q1u fun x hx=>?_,h⟩;obtain⟨b,hb⟩:=SA hx;exact σ.lt (h x.1 b hb)
theorem ER:∀ (l:List Value) {i:Nat}{c:List Value}{e:El}{wr t:Bool},CP (Q8z l) i=some (.cells c e wr t)→wr=true
 |[],i,c,e,wr,t,h=>by cases h
 |v::vs,i,c,e,wr,t,h=>by
  unfold Q8z at h;split at h
  ·rename_i q hq;obtain⟨j,b⟩:=q;simp only[CP] at h;split at h
   ·obtain rfl:=osj h;unfold Z3w at hq;split at hq
    ·cases hq;rfl
    ·cases hq
   ·exact ER vs h
  ·exact ER vs h
theorem Q46 {p:Value}{i:Nat}{c:List Value}{e:El}{wr t:Bool}(h:(XI p).get i=some (.cells c e wr t)):wr=true:=by
 unfold XI at h;split at h
 ·exact ER _ h
 ·cases h
theorem DP.le {σ:Heap}{p:Value}{ty:Nat}{q:Option Nat}{k:Kind}{xs:List k.T}{nl:Bool}{h:Option Nat}(hd:DP σ p ty q k xs nl h):(XI p).Le σ:=by obtain⟨is,_,_,_,_,h4,_⟩:=hd;exact Q32 h4
theorem DP.sl {σ:Heap}{p:Value}{ty:Nat}{q:Option Nat}{k:Kind}{xs:List k.T}{nl:Bool}(hd:DP σ p ty q k xs nl none):SlRel (XI p) k.size (KC (XI p) k) xs (phd p):=by
 obtain⟨is,_,_,h2,_,_,_⟩:=hd;rcases h2 with⟨rfl,h,_⟩|⟨i,cap,c,t,js,h,_,h1,h3,h4,h5⟩
 ·exact .inl ⟨rfl,h⟩
 ·refine .inr ⟨i,0,cap,c,_,true,t,h,h1,h3,rfl,by have:=Nat.mul_le_mul_right k.size h1;omega,?_⟩;rw[List.drop_zero];exact h5.rows fun _ _ _ h=>h.kc
theorem DP.hd {σ:Heap}{p:Value}{ty:Nat}{q:Option Nat}{k:Kind}{xs:List k.T}{nl:Bool}{h:Option Nat}(hd:DP σ p ty q k xs nl h):∃ a cap,phd p=.slice a xs.length cap:=by
 obtain⟨is,_,_,h2,_,_,_⟩:=hd;rcases h2 with⟨rfl,h,_⟩|⟨i,cap,c,t,js,h,_⟩
 ·exact⟨_,_,h⟩
 ·exact⟨_,_,h⟩
theorem FQ {H:Heap}{k:Kind}{l:List k.T}{v:Value}(h:KC H (.list k) l [v]) {j:Nat}(hj:j<l.length):∃ b o cap c e wr t,v=.slice (some ⟨b,o,none⟩) l.length cap∧H.get b=some (.cells c e wr t)∧o+l.length*k.size≤c.length∧Rows (KC H k) l ((c.drop o).take (l.length*k.size)):=by
 obtain⟨v',e,hs⟩:=h;obtain rfl:=(List.cons.inj e).1;rcases hs with⟨rfl,_⟩|⟨b,o,cap,c,e',wr,t,h2,h3,h4,h5,h6,h7⟩
 ·simp at hj
 ·exact⟨b,o,cap,c,e',wr,t,h2,h4,h6,h7⟩
theorem Tp {p:Value}{k:Kind}{l:List k.T}{v:Value}(h:KC (XI p) (.list k) l [v]):SlRel (XI p) k.size (fun x c=>KC (XI p) k x c) l v:=by obtain⟨v',e,hs⟩:=h;obtain rfl:=(List.cons.inj e).1;exact hs
theorem WZ (hle:B.Le σ) (az:∀ d,OR P B pl tb σ (pl d) (Qc own d)) {k:Kind}{s:SV}{l:List k.T}{v:Value}(h:view own k s=some l) (hs:SR P B pl tb s v):SlRel σ k.size (KC B k) l v:=by
 unfold view at h;split at h
 ·obtain rfl:=osj h;simp only[SR] at hs;exact .inl ⟨rfl,hs⟩
 ·rename_i k' l0;obtain rfl:=W1 h;obtain rfl:=W5 h;simp only[SR,KC] at hs;obtain⟨v',e,hs⟩:=hs;obtain rfl:=(List.cons.inj e).1;exact hs.mono hle fun _ _ h=>h
 ·rename_i o;have ho:=az o;simp only[SR] at hs
  replace hs:=hs.1
  split at h
  ·rename_i ty k' xs nl heq;obtain rfl:=W1 h;obtain rfl:=W5 h;rw[heq] at ho;rcases ho with⟨_,rfl,h2⟩|⟨_,i,cap,c,t,h1,h2,h3,h4,h5⟩
   ·exact .inl ⟨rfl,by rw[hs,h2]⟩
   ·refine .inr ⟨i,0,cap,c,_,true,t,by rw[hs,h1],h2,h3,rfl,?_,by simpa using h5⟩;have:=Nat.mul_le_mul_right k'.size h2;omega
  ·cases h
 ·rename_i o lo n sz;have ho:=az o;split at h
  ·rename_i ty k' xs nl heq;split at h
   ·rename_i aE;subst aE;cases hc:UM xs k with
    |none=>rw[hc] at h;cases h
    |some cK =>
     obtain rfl:=W1 hc;obtain rfl:=W5 hc;rw[hc] at h;obtain rfl:=osj h;simp only[SR] at hs;rw[heq] at ho;rcases hs with⟨rfl,rfl,rfl,_⟩|⟨i,len,cap,au,h1,h2,h3,rfl⟩
     ·exact .inl ⟨by simp,rfl⟩
     ·rcases ho with⟨_,_,h4⟩|⟨_,i',eY,c,t,h4,h5,h6,h7,h8⟩
      ·rw[h1] at h4;cases h4
      ·rw[h1] at h4;obtain⟨rfl,rfl,rfl⟩:=(by simpa using h4:i=i'∧len=cK.length∧cap=eY);have hlen:((cK.drop lo).take n).length=n:=by simp;omega
       have k1:lo*k'.size+n*k'.size≤cK.length*k'.size:=by rw[←Nat.add_mul];exact Nat.mul_le_mul_right _ h2
       have k2:=Nat.mul_le_mul_right k'.size h5;refine .inr ⟨i,lo*k'.size,au,c,_,true,t,by rw[hlen],by rw[hlen];exact h3,h6,rfl,by rw[hlen];omega,?_⟩;rw[hlen];have:=(h8.drop KC.rows_len lo).take KC.rows_len n;have e:((c.take (cK.length*k'.size)).drop (lo*k'.size)).take (n*k'.size)=(c.drop (lo*k'.size)).take (n*k'.size):=by
        apply List.ext_getElem?;intro j;simp only[List.getElem?_take,List.getElem?_drop];split
        ·rw[if_pos (by omega)]
        ·rfl
       rw[e] at this;exact this
   ·cases h
  ·cases h
 ·rename_i o w;have ho:=az o;simp only[SR] at hs;cases hf:k.flat with
  |false=>rw[hf] at h;cases h
  |true =>
   rw[hf] at h;simp only[_root_.cond_true] at h;split at h
   ·rename_i ty q k' xs nl hole heq;rw[heq] at ho;have dw:=DP.le ho;split at h
    ·split at h
     ·obtain rfl:=W1 h;obtain rfl:=W5 h;obtain⟨hs,_⟩:=hs;rw[hs];exact(DP.sl ho).mono dw fun _ _ e=>KC.flat hf e
     ·cases h
    ·rename_i k' l';obtain rfl:=W1 h;obtain rfl:=W5 h;exact(Tp hs).mono dw fun _ _ e=>KC.flat hf e
    ·rename_i k' l' i;obtain rfl:=W1 h;obtain rfl:=W5 h;exact(Tp hs.1).mono dw fun _ _ e=>KC.flat hf e
    ·cases h
   ·cases h
 ·cases h
theorem SlRel.len {h:Heap}{sz:Nat}{α:Type}{R:α→List Value→Prop}{l:List α}{v:Value}(hs:SlRel h sz R l v):∃ a cap,v=.slice a l.length cap:=by
 rcases hs with⟨rfl,rfl⟩|⟨i,o,cap,c,e,wr,t,rfl,_⟩
 ·exact⟨_,_,rfl⟩
 ·exact⟨_,_,rfl⟩
theorem OA (az:∀ d,OR P B pl tb σ (pl d) (Qc own d)) {s:SV}{n:Nat}{v:Value}(h:Z1n own s=some n) (hs:SR P B pl tb s v):∃ a cap,v=.slice a n cap:=by
 unfold Z1n at h;split at h
 ·obtain rfl:=osj h;simp only[SR] at hs;exact⟨_,_,hs⟩
 ·obtain rfl:=osj h;simp only[SR,KC] at hs;obtain⟨v',e,hs⟩:=hs;obtain rfl:=(List.cons.inj e).1;exact hs.len
 ·rename_i o;have ho:=az o;simp only[SR] at hs
  replace hs:=hs.1
  split at h
  ·rename_i ty k' xs nl heq;obtain rfl:=osj h;rw[heq] at ho;rcases ho with⟨_,rfl,h2⟩|⟨_,i,cap,c,t,h1,h2,h3,h4,h5⟩
   ·exact⟨_,_,by rw[hs,h2];rfl⟩
   ·exact⟨_,_,by rw[hs,h1]⟩
  ·cases h
 ·obtain rfl:=osj h;simp only[SR] at hs;rcases hs with⟨rfl,rfl,rfl,_⟩|⟨i,len,cap,au,h1,h2,h3,rfl⟩
  ·exact⟨_,_,rfl⟩
  ·exact⟨_,_,rfl⟩
 ·rename_i o w;have ho:=az o;simp only[SR] at hs;split at h
  ·rename_i ty q k' xs nl hole heq;rw[heq] at ho;split at h
   ·split at h
    ·obtain rfl:=osj h;obtain⟨hs,_⟩:=hs;rw[hs];exact DP.hd ho
    ·cases h
   ·obtain rfl:=osj h;exact(Tp hs).len
   ·obtain rfl:=osj h;exact(Tp hs.1).len
   ·cases h
  ·cases h
 ·cases h
theorem JA {o:Nat}:∀ {k:Kind}{x:k.T}{cs:List Value},KC (XI (pl o)) k x cs→SRs P B pl tb (GA o k x) cs
 |.i ik,x,cs,h=>by simp only[KC] at h;subst h;simp[GA,SRs,SR,KC]
 |.bo,x,cs,h=>by simp only[KC] at h;subst h;simp[GA,SRs,SR,KC]
 |.st,x,cs,h=>by simp only[KC] at h;subst h;simp[GA,SRs,SR,KC]
 |.list k,x,cs,h=>by have hl:=KC.length h;obtain⟨v,rfl⟩:=List.length_eq_one_iff.1 (show cs.length=1 from hl);simp only[GA,SRs,SR,DR];exact⟨v,[],rfl,h,rfl⟩
 |.pair a b,x,cs,h=>by obtain⟨c1,c2,rfl,h1,h2⟩:=h;exact SRs.append (JA h1) (JA h2)
theorem OM {o:Nat}{i:Int}:∀ {k:Kind}{x:k.T}{cs:List Value},KC (XI (pl o)) k x cs→Z1k k cs→(k.one=true→∀ v,cs=[v]→∃ b len cap c e t,phd (pl o)=.slice (some ⟨b,0,none⟩) len cap∧0≤i∧i<len∧(XI (pl o)).get b=some (.cells c e true t)∧c[i.toNat]?=some v)→SRs P B pl tb (Z2a o i k x) cs
 |.i ik,x,cs,h,_,_=>JA (o:=o) h
 |.bo,x,cs,h,_,_=>JA (o:=o) h
 |.st,x,cs,h,_,_=>JA (o:=o) h
 |.list k,x,cs,h,ho,hr=>by have hl:=KC.length h;obtain⟨v,rfl⟩:=List.length_eq_one_iff.1 (show cs.length=1 from hl);simp only[Z2a,SRs,SR,DR];exact⟨v,[],rfl,⟨h,ho v rfl,hr rfl v rfl⟩,rfl⟩
 |.pair a b,x,cs,h,_,_=>JA (o:=o) h
theorem DP.elem {σ:Heap}{p:Value}{ty:Nat}{q:Option Nat}{k:Kind}{xs:List k.T}{nl:Bool}(hd:DP σ p ty q k xs nl none) {b len cap:Nat}(hp:phd p=.slice (some ⟨b,0,none⟩) len cap) :
  ∃ c t,(XI p).get b=some (.cells c ⟨k.size,ty⟩ true t)∧len=xs.length∧xs.length≤cap∧cap*k.size≤c.length∧Rows (fun x c=>KC (XI p) k x c∧Z1k k c) xs (c.take (xs.length*k.size)):=by
 obtain⟨is,_,_,h2,_,_,_⟩:=hd;rcases h2 with⟨rfl,h,_⟩|⟨i,au,c,t,js,h,_,h1,h3,h4,h5⟩
 ·rw[hp] at h;cases h
 ·rw[hp] at h;obtain⟨rfl,rfl,rfl⟩:=(by simpa using h:b=i∧len=xs.length∧cap=au);exact⟨c,t,h3,rfl,h1,h4,h5.rows fun _ _ _ h=>⟨h.kc,h.koff⟩⟩
theorem TW (hle:B.Le σ) (az:∀ d,OR P B pl tb σ (pl d) (Qc own d)) {agg:Bool}{size:Nat}(aE:0<size) {s v:SV}{p:Value}(h:Q31 own agg size s=some v) (hs:SR P B pl tb s p) :
  ∃ i o c e wr t u,p=.pointer (some ⟨i,o,none⟩)∧σ.get i=some (.cells c e wr t)∧Xy agg size c o=some u∧SR P B pl tb v u:=by
 unfold Q31 at h;split at h
 ·rename_i o off;have ho:=az o;simp only[SR] at hs;obtain⟨b,h1,rfl⟩:=hs;split at h
  ·rename_i l _ heq;rw[heq] at ho;obtain⟨i,c,e,t,h2,h3,h4,_⟩:=ho;rw[h1] at h2;obtain rfl:=(by simpa using h2:b=i);obtain⟨u,h5,h6⟩:=JD h4 h;exact⟨b,off,c,e,true,t,u,rfl,h3,h5,h6⟩
  ·cases h
 ·rename_i l off;simp only[SR] at hs;obtain⟨b,c,e,wr,t,h1,rfl,h3⟩:=hs;obtain⟨u,h5,h6⟩:=JD h3 h;exact⟨b,off,c,e,wr,t,u,rfl,hle.2 _ _ h1,h5,h6⟩
 ·rename_i o i off sz;have ho:=az o;simp only[SR] at hs;obtain⟨b,len,cap,h1,h2,h3,rfl⟩:=hs;split at h
  ·rename_i ty k xs nl heq;rw[heq] at ho;split at h
   ·rename_i ak;obtain⟨rfl,bq⟩:=ak;rcases ho with⟨_,_,h4⟩|⟨_,i',eY,c,t,h4,h5,h6,h7,h8⟩
    ·rw[h1] at h4;cases h4
    ·rw[h1] at h4;obtain⟨rfl,rfl,rfl⟩:=(by simpa using h4:b=i'∧len=xs.length∧cap=eY);have hi:i.toNat<xs.length:=by omega
     have hr:=h8.at KC.rows_len hi;have hx:xs.getD i.toNat k.dflt=xs[i.toNat]:=by simp[List.getD_eq_getElem?_getD,List.getElem?_eq_getElem hi]
     rw[hx] at h;obtain⟨u,h9,bX⟩:=JD (Yo (P:=P) (pl:=pl) (tb:=tb) hr) h;refine⟨b,_,c,_,true,t,u,rfl,h6,NL bq aE h9 ?_,bX⟩;have:(i.toNat+1)*k.size≤xs.length*k.size:=Nat.mul_le_mul_right _ hi
     rwa [Nat.add_mul,Nat.one_mul] at this
   ·cases h
  ·cases h
 ·rename_i k l i off;simp only[SR] at hs;obtain⟨b,o,c,e,wr,t,h1,h2,h3,rfl,h5,h6⟩:=hs;split at h
  ·rename_i bq;have hi:i.toNat<l.length:=by omega
   have hr:=h6.at KC.rows_len hi;have hx:l.getD i.toNat k.dflt=l[i.toNat]:=by simp[List.getD_eq_getElem?_getD,List.getElem?_eq_getElem hi]
   rw[hx] at h;obtain⟨u,h9,bX⟩:=JD (Yo (P:=P) (pl:=pl) (tb:=tb) hr) h;have eP:(i.toNat+1)*k.size≤l.length*k.size:=Nat.mul_le_mul_right _ hi;rw[Nat.add_mul,Nat.one_mul] at eP;refine⟨b,_,c,e,wr,t,u,rfl,hle.2 _ _ h3,?_,bX⟩;have:=NL bq aE h9 eP;clear h9;cases agg with
   |true =>
    simp only[Xy,if_true,List.length_drop] at this ⊢;split at this
    ·rename_i dw;rw[if_pos (by omega)];rw[←this,List.drop_drop,Nat.add_assoc]
    ·cases this
   |false =>simp only[Xy,Bool.false_eq_true,if_false,List.getElem?_drop] at this ⊢;rw[←this,Nat.add_assoc]
  ·cases h
 ·rename_i o w;have ho:=az o;simp only[SR] at hs;split at h
  ·rename_i ty q k xs nl hole heq;rw[heq] at ho;split at h
   ·have dw:=DP.le ho;split at h
    ·rename_i i off sz;obtain⟨b,len,cap,h1,h2,h3,rfl⟩:=hs;split at h
     ·rename_i ak;obtain⟨rfl,bq⟩:=ak;obtain⟨c,t,h4,rfl,h5,h6,h7⟩:=DP.elem ho h1;have hi:i.toNat<xs.length:=by omega
      have hr:=h7.at (fun x c h=>KC.rows_len x c h.1) hi;have hx:xs.getD i.toNat k.dflt=xs[i.toNat]:=by simp[List.getD_eq_getElem?_getD,List.getElem?_eq_getElem hi]
      rw[hx] at h;have iJ:(i.toNat+1)*k.size≤xs.length*k.size:=Nat.mul_le_mul_right _ hi;rw[Nat.add_mul,Nat.one_mul] at iJ;obtain⟨u,h9,bX⟩:=JD (OM (P:=P) (B:=B) (tb:=tb) hr.1 hr.2 fun bz v hv=>by
       refine⟨b,_,cap,c,_,t,h1,h2,h3,h4,?_⟩;have uA:=Kind.one_size bz;have:(((c.take (xs.length*k.size)).drop (i.toNat*k.size)).take k.size)[0]?=some v:=by rw[hv];rfl
       rw[uA] at this;simp only[Nat.mul_one,List.getElem?_take,List.getElem?_drop,Nat.add_zero] at this;rw[if_pos (by omega),if_pos (by omega)] at this;exact this) h
      exact⟨b,_,c,_,true,t,u,rfl,dw.2 _ _ h4,NL bq aE h9 iJ,bX⟩
     ·cases h
    ·rename_i k' x i j off;obtain⟨b,len,cap,c,e,t,r,rl,rc,bL,re,rt,h1,h2,h3,h4,h5,h6,h7,h8,h9,bX,fP,rfl⟩:=hs;split at h
     ·rename_i bq;subst h8;have hj:j.toNat<x.length:=by omega
      have hr:=fP.at KC.rows_len hj;have hx:x.getD j.toNat k'.dflt=x[j.toNat]:=by simp[List.getD_eq_getElem?_getD,List.getElem?_eq_getElem hj]
      rw[hx] at h;have iJ:(j.toNat+1)*k'.size≤x.length*k'.size:=Nat.mul_le_mul_right _ hj;rw[Nat.add_mul,Nat.one_mul] at iJ;obtain⟨u,k9,qP⟩:=JD (JA (P:=P) (B:=B) (tb:=tb) hr) h;exact⟨r,_,bL,_,true,rt,u,rfl,dw.2 _ _ h9,NL bq aE k9 iJ,qP⟩
     ·cases h
    ·rename_i k' l j off;obtain⟨b,o',c,e,wr,t,h1,h2,h3,rfl,h5,h6⟩:=hs;split at h
     ·rename_i bq;have hj:j.toNat<l.length:=by omega
      have hr:=h6.at KC.rows_len hj;have hx:l.getD j.toNat k'.dflt=l[j.toNat]:=by simp[List.getD_eq_getElem?_getD,List.getElem?_eq_getElem hj]
      rw[hx] at h;obtain⟨u,k9,qP⟩:=JD (JA (P:=P) (B:=B) (tb:=tb) hr) h;have eP:(j.toNat+1)*k'.size≤l.length*k'.size:=Nat.mul_le_mul_right _ hj;rw[Nat.add_mul,Nat.one_mul] at eP;refine⟨b,_,c,e,wr,t,u,rfl,dw.2 _ _ h3,?_,qP⟩;have:=NL bq aE k9 eP;clear k9;cases agg with
      |true =>
       simp only[Xy,if_true,List.length_drop] at this ⊢;split at this
       ·rename_i uB;rw[if_pos (by omega)];rw[←this,List.drop_drop,Nat.add_assoc]
       ·cases this
      |false =>simp only[Xy,Bool.false_eq_true,if_false,List.getElem?_drop] at this ⊢;rw[←this,Nat.add_assoc]
     ·cases h
    ·cases h
   ·cases h
  ·cases h
 ·cases h
end
end Go.V
namespace Go.V
open Go
section
variable {P:Program}{B:Heap}{pl:Nat→Value}{tb:Nat→Option Bool}{own:Own}{σ:Heap}
theorem SS {s:SV}{v:Value}(h:s.solid=true) (hs:SR P B pl tb s v):Kn v=some [v]∧cellOk v=true:=by
 cases s with
 |any=>cases h
 |grd gs s=>cases h
 |agg l=>cases h
 |tup l=>cases h
 |val k x =>
  simp only[SR] at hs;cases k with
  |i ik=>simp only[KC] at hs;obtain rfl:=(List.cons.inj hs).1;exact⟨rfl,rfl⟩
  |bo=>simp only[KC] at hs;obtain rfl:=(List.cons.inj hs).1;exact⟨rfl,rfl⟩
  |st=>simp only[KC] at hs;obtain rfl:=(List.cons.inj hs).1;exact⟨rfl,rfl⟩
  |list k =>obtain⟨v',e,hs⟩:=hs;obtain rfl:=(List.cons.inj e).1;obtain⟨a,c,rfl⟩:=hs.len;exact⟨rfl,rfl⟩
  |pair a b =>have h1:=KC.length hs;have h2:=a.size_pos;have h3:=b.size_pos;simp only[Kind.size,List.length_singleton] at h1;omega
 |bid n c=>simp only[SR] at hs;obtain⟨rfl,_⟩:=hs;exact⟨rfl,rfl⟩
 |nilS=>simp only[SR] at hs;subst hs;exact⟨rfl,rfl⟩
 |nilP=>simp only[SR] at hs;subst hs;exact⟨rfl,rfl⟩
 |nilM=>simp only[SR] at hs;subst hs;exact⟨rfl,rfl⟩
 |nilF=>simp only[SR] at hs;subst hs;exact⟨rfl,rfl⟩
 |lst o=>simp only[SR] at hs;obtain⟨_,a,n,c,rfl⟩:=hs;exact⟨rfl,rfl⟩
 |dd o w =>
  simp only[SR] at hs;cases w with
  |out=>obtain⟨_,a,n,c,rfl⟩:=hs;exact⟨rfl,rfl⟩
  |el i off sz=>obtain⟨_,_,_,_,_,_,rfl⟩:=hs;exact⟨rfl,rfl⟩
  |row k x i=>obtain⟨a,c,rfl⟩:=(Tp hs.1).len;exact⟨rfl,rfl⟩
  |rowp k x i j off=>obtain⟨_,_,_,_,_,_,_,_,_,_,_,_,_,_,_,_,_,_,_,_,_,_,_,rfl⟩:=hs;exact⟨rfl,rfl⟩
  |inn k x=>obtain⟨a,c,rfl⟩:=(Tp hs).len;exact⟨rfl,rfl⟩
  |inp k l j off=>obtain⟨_,_,_,_,_,_,_,_,_,rfl,_⟩:=hs;exact⟨rfl,rfl⟩
  |dat=>rcases hs with⟨_,rfl⟩|⟨_,_,_,_,_,rfl⟩<;>exact⟨rfl,rfl⟩
  |obx c=>rcases hs with⟨_,rfl⟩|⟨_,_,_,rfl⟩<;>exact⟨rfl,rfl⟩
  |yv=>obtain⟨_,_,rfl⟩:=hs;exact⟨rfl,rfl⟩
 |sub o lo n sz=>simp only[SR] at hs;rcases hs with⟨_,_,rfl,_⟩|⟨_,_,_,_,_,_,_,rfl⟩<;>exact⟨rfl,rfl⟩
 |elp o i off sz=>simp only[SR] at hs;obtain⟨_,_,_,_,_,_,rfl⟩:=hs;exact⟨rfl,rfl⟩
 |rop k l i off=>simp only[SR] at hs;obtain⟨_,_,_,_,_,_,_,_,_,rfl,_⟩:=hs;exact⟨rfl,rfl⟩
 |box o off=>simp only[SR] at hs;obtain⟨_,_,rfl⟩:=hs;exact⟨rfl,rfl⟩
 |cp l off=>simp only[SR] at hs;obtain⟨_,_,_,_,_,_,rfl,_⟩:=hs;exact⟨rfl,rfl⟩
 |map o=>simp only[SR] at hs;obtain⟨_,m,rfl⟩:=hs;exact⟨rfl,rfl⟩
 |fn f a b=>simp only[SR] at hs;obtain⟨_,_,rfl,_⟩:=hs;exact⟨rfl,rfl⟩
 |pf ks r cX p=>simp only[SR] at hs;obtain⟨_,_,_,rfl,_⟩:=hs;exact⟨rfl,rfl⟩
theorem HN:∀ {l:List SV}{c:List Value},l.all SV.solid=true→SRs P B pl tb l c→c.all cellOk=true
 |[],c,_,h=>by simp only[SRs] at h;subst h;rfl
 |s::ss,c,hl,h=>by simp only[SRs] at h;obtain⟨x,y,rfl,h1,h2⟩:=h;simp only[List.all_cons,Bool.and_eq_true] at hl ⊢;exact⟨(SS hl.1 h1).2,HN hl.2 h2⟩
theorem Yz {s:SV}{v:Value}{l:List SV}(h:Gp s=some l) (hs:SR P B pl tb s v):∃ c,Kn v=some c∧SRs P B pl tb l c∧c.all cellOk=true:=by
 have key:s.solid=true→some [s]=some l→∃ c,Kn v=some c∧SRs P B pl tb l c∧c.all cellOk=true:=fun qQ e=>by obtain rfl:=osj e;obtain⟨h1,h2⟩:=SS qQ hs;exact⟨[v],h1,by simp only[SRs];exact⟨v,[],rfl,hs,rfl⟩,by simp[h2]⟩
 cases s with
 |any=>cases h
 |grd gs s=>cases h
 |tup l=>cases h
 |agg l' =>
  simp only[Gp] at h;cases hl:l'.all SV.solid with
  |false=>rw[hl] at h;cases h
  |true =>rw[hl] at h;obtain rfl:=osj h;simp only[SR] at hs;obtain⟨cs,rfl,hs⟩:=hs;exact⟨cs,rfl,hs,HN hl hs⟩
 |_=>exact key rfl h
theorem H9:∀ {vs:List SV}{us:List Value}{c:List SV}{cV:List Value}{o:Nat},SRs P B pl tb c cV→SRs P B pl tb vs us→SRs P B pl tb (gfill.setS c o vs) (K0 cV o us)
 |[],us,c,cV,o,h,h'=>by simp only[SRs] at h';subst h';exact h
 |v::vs,us,c,cV,o,h,h'=>by simp only[SRs] at h';obtain⟨x,y,rfl,h1,h2⟩:=h';simp only[gfill.setS,K0];exact H9 (h.set o h1) h2
theorem Rf:∀ {ps:List (Nat×Nat×Operand)}{c l:List SV}{cV:List Value}{ev:Operand→SV}{evV:Operand→Value},(∀ x,SR P B pl tb (ev x) (evV x))→SRs P B pl tb c cV→gfill c (ps.map fun p=>(p.1,p.2.1,ev p.2.2))=some l →
  ∃ lV,NJ cV (ps.map fun p=>(p.1,p.2.1,evV p.2.2))=some lV∧SRs P B pl tb l lV
 |[],c,l,cV,ev,evV,ai,h,hg=>by obtain rfl:=osj hg;exact⟨cV,rfl,h⟩
 |p::ps,c,l,cV,ev,evV,ai,h,hg=>by
  simp only[List.map_cons,gfill] at hg;split at hg
  ·rename_i vs hs;split at hg
   ·rename_i ak;obtain⟨us,h1,h2,_⟩:=Yz hs (ai p.2.2);obtain⟨lV,h3,h4⟩:=Rf ai (H9 h h2) hg;refine⟨lV,?_,h4⟩;simp only[List.map_cons,NJ,h1];rw[if_pos ⟨by rw[←h2.length];exact ak.1,by rw[←h.length];exact ak.2⟩];exact h3
   ·cases hg
  ·cases hg
theorem YD {h:Heap}:∀ {k:Kind}{z:List Value},Vb k z=true→KC h k k.dflt z
 |.i ik,z,e=>by unfold Vb at e;split at e<;>simp_all [KC,Kind.dflt]
 |.bo,z,e=>by unfold Vb at e;split at e<;>simp_all [KC,Kind.dflt]
 |.st,z,e=>by unfold Vb at e;split at e<;>simp_all [KC,Kind.dflt];rename_i s;cases s;simp_all
 |.list k,z,e=>by unfold Vb at e;split at e<;>simp_all [KC,Kind.dflt];exact .inl ⟨rfl,rfl⟩
 |.pair a b,z,e=>by simp only[Vb,Bool.and_eq_true] at e;exact⟨_,_,(List.take_append_drop a.size z).symm,YD e.1,YD e.2⟩
theorem C3 {h:Heap}{mk:MK}{kk:Kind}(hk:gq.mkP mk kk=true) {x:kk.T}{cs:List Value}(e:KC h kk x cs):∃ v,cs=[v]∧Zz mk v=true∧Oq mk v=true:=by
 unfold gq.mkP at hk;split at hk
 ·simp only[KC] at e;subst e;obtain rfl:=of_decide_eq_true hk;exact⟨_,rfl,by simp[Zz],by simp[Oq]⟩
 ·simp only[KC] at e;subst e;exact⟨_,rfl,rfl,rfl⟩
 ·simp only[KC] at e;subst e;exact⟨_,rfl,rfl,rfl⟩
 ·cases hk
theorem Q54 {h:Heap}{mk:MK}{kk:Kind}(hk:gq.mkP mk kk=true) {x y:kk.T}{u v:Value}(e:KC h kk x [u]) (e':KC h kk y [v]):XU u v=gq.keq kk x y∧Ks u v=gq.keq kk x y:=by
 unfold gq.mkP at hk;split at hk
 ·simp only[KC] at e e';obtain rfl:=(List.cons.inj e).1;obtain rfl:=(List.cons.inj e').1;exact⟨rfl,rfl⟩
 ·simp only[KC] at e e';obtain rfl:=(List.cons.inj e).1;obtain rfl:=(List.cons.inj e').1;simp[XU,Ks,gq.keq]
 ·simp only[KC] at e e';obtain rfl:=(List.cons.inj e).1;obtain rfl:=(List.cons.inj e').1;exact⟨rfl,rfl⟩
 ·cases hk
theorem Tb {h:Heap}:∀ {k:Kind}{l r:List MK}{x:k.T}{cs ds:List Value},gq.mkAt k l=some r→KC h k x cs→fits l (cs++ds)=fits r ds
 |.pair a b,l,r,x,cs,ds,hk,e=>by
  simp only[gq.mkAt] at hk;split at hk
  ·rename_i q hq;obtain⟨c1,c2,rfl,h1,h2⟩:=e;rw[List.append_assoc,Tb hq h1,Tb hk h2]
  ·cases hk
 |.i _,m::l,r,x,cs,ds,hk,e|.bo,m::l,r,x,cs,ds,hk,e|.st,m::l,r,x,cs,ds,hk,e|.list _,m::l,r,x,cs,ds,hk,e=>by
  simp only[gq.mkAt] at hk;cases hp:gq.mkP m _ with
  |false=>rw[hp] at hk;cases hk
  |true =>rw[hp] at hk;obtain rfl:=osj hk;obtain⟨v,rfl,_,h2⟩:=C3 hp e;simp[fits,h2]
 |.i _,[],r,x,cs,ds,hk,e|.bo,[],r,x,cs,ds,hk,e|.st,[],r,x,cs,ds,hk,e|.list _,[],r,x,cs,ds,hk,e=>by cases hk
theorem FA {h:Heap}:∀ {k:Kind}{l r:List MK}{x y:k.T}{cs ds cs' ds':List Value},gq.mkAt k l=some r→KC h k x cs→KC h k y ds→Qq (cs++cs') (ds++ds')=(gq.keq k x y&&Qq cs' ds')
 |.pair a b,l,r,x,y,cs,ds,cs',ds',hk,e,e'=>by
  simp only[gq.mkAt] at hk;split at hk
  ·rename_i q hq;obtain⟨c1,c2,rfl,h1,h2⟩:=e;obtain⟨d1,d2,rfl,g1,g2⟩:=e';rw[List.append_assoc,List.append_assoc,FA hq h1 g1,FA hk h2 g2];simp only[gq.keq,Bool.and_assoc]
  ·cases hk
 |.i _,m::l,r,x,y,cs,ds,cs',ds',hk,e,e'|.bo,m::l,r,x,y,cs,ds,cs',ds',hk,e,e'|.st,m::l,r,x,y,cs,ds,cs',ds',hk,e,e'|.list _,m::l,r,x,y,cs,ds,cs',ds',hk,e,e'=>by
  simp only[gq.mkAt] at hk;cases hp:gq.mkP m _ with
  |false=>rw[hp] at hk;cases hk
  |true =>obtain⟨v,rfl,_,_⟩:=C3 hp e;obtain⟨w,rfl,_,_⟩:=C3 hp e';simp only[List.cons_append,List.nil_append,Qq,(Q54 hp e e').2]
 |.i _,[],r,x,y,cs,ds,cs',ds',hk,e,e'|.bo,[],r,x,y,cs,ds,cs',ds',hk,e,e'|.st,[],r,x,y,cs,ds,cs',ds',hk,e,e'|.list _,[],r,x,y,cs,ds,cs',ds',hk,e,e'=>by cases hk
theorem G2 {h:Heap}{mk:MK}{kk:Kind}(hk:gq.mkOk mk kk=true) {x:kk.T}{v:Value}(e:KV h kk x v):Zz mk v=true:=by
 unfold gq.mkOk at hk;rcases e with⟨ho,e⟩|⟨ho,cs,rfl,e⟩
 ·rw[ho] at hk;obtain⟨w,h1,h2,_⟩:=C3 hk e;obtain rfl:=(List.cons.inj h1).1;exact h2
 ·rw[ho] at hk;simp only[_root_.cond_false] at hk;split at hk
  ·rename_i l;split at hk
   ·rename_i hr;have:=Tb (ds:=[]) hr e;rw[List.append_nil] at this;simp only[Zz];rw[this];rfl
   ·cases hk
  ·cases hk
theorem T8 {h:Heap}{mk:MK}{kk:Kind}(hk:gq.mkOk mk kk=true) {x y:kk.T}{u v:Value}(e:KV h kk x u) (e':KV h kk y v):XU u v=gq.keq kk x y:=by
 unfold gq.mkOk at hk;rcases e with⟨ho,e⟩|⟨ho,cs,rfl,e⟩
 ·rcases e' with⟨_,e'⟩|⟨fc,_⟩
  ·rw[ho] at hk;exact(Q54 hk e e').1
  ·rw[ho] at fc;cases fc
 ·rcases e' with⟨fc,_⟩|⟨_,ds,rfl,e'⟩
  ·rw[ho] at fc;cases fc
  ·rw[ho] at hk;simp only[_root_.cond_false] at hk;split at hk
   ·split at hk
    ·rename_i hr;have:=FA (cs':=[]) (ds':=[]) hr e e';rw[List.append_nil,List.append_nil] at this;simp only[XU];rw[this];simp[Qq]
    ·cases hk
   ·cases hk
theorem Mi {B:Heap}{k:Kind}{v:SV}{u:Value}{x:k.T}(h:dkV k v=some x) (hs:SR P B pl tb v u) (hd:∀ {k:Kind}{l:List SV}{x:k.T}{c:List Value},S_ k l=some x→SRs P B pl tb l c→KC B k x c):KV B k x u:=by
 unfold dkV at h;cases bz:k.one with
 |true =>rw[bz] at h;exact .inl ⟨bz,hd h (by simp only[SRs];exact⟨u,[],rfl,hs,rfl⟩)⟩
 |false =>
  rw[bz] at h;simp only[_root_.cond_false] at h;split at h
  ·simp only[SR] at hs;obtain⟨cs,rfl,hs⟩:=hs;exact .inr ⟨bz,cs,rfl,hd h hs⟩
  ·cases h
theorem HY {B:Heap}{k:Kind}{z:Value}(h:Vb k (Iv k z)=true):KV B k k.dflt z:=by
 have e:=YD (h:=B) h;unfold Iv at e;cases bz:k.one with
 |true=>rw[bz] at e;exact .inl ⟨bz,e⟩
 |false =>
  rw[bz] at e;simp only[_root_.cond_false] at e;split at e
  ·exact .inr ⟨bz,_,by simp,e⟩
  ·have:=KC.length e;have:=k.size_pos;simp at *
   omega
theorem KV.kc {B:Heap}{k:Kind}{x:k.T}{v:Value}(h:KV B k x v) (ho:k.one=true):KC B k x [v]:=by
 rcases h with⟨_,h⟩|⟨h1,_⟩
 ·exact h
 ·rw[ho] at h1;cases h1
theorem MR.keys {mk:MK}{kk vk:Kind}(hk:gq.mkOk mk kk=true):∀ {m:List (kk.T×vk.T)}{es:List JP},MR B kk vk m es→es.all (fun e=>Zz mk e.1)=true
 |[],es,h=>by simp only[MR] at h;subst h;rfl
 |m::ms,es,h=>by obtain⟨e,bV,rfl,h2,h3,h4⟩:=h;simp only[List.all_cons,Bool.and_eq_true];exact⟨G2 hk h2,MR.keys hk h4⟩
theorem MR.length {kk vk:Kind}:∀ {m:List (kk.T×vk.T)}{es:List JP},MR B kk vk m es→es.length=m.length
 |[],es,h=>by simp only[MR] at h;subst h;rfl
 |m::ms,es,h=>by obtain⟨e,bV,rfl,h2,h3,h4⟩:=h;simp[MR.length h4]
theorem MR.find {mk:MK}{kk vk:Kind}(hk:gq.mkOk mk kk=true) {key:kk.T}{kv:Value}(aU:KV B kk key kv) {d:vk.T}{z:Value}(hz:KV B vk d z):∀ {m:List (kk.T×vk.T)}{es:List JP},MR B kk vk m es →
  (∃ e,Qi kv es=some e∧gq.ahas kk m key=true∧KV B vk (gq.aget kk m key d) e.2.1)∨(Qi kv es=none∧gq.ahas kk m key=false∧gq.aget kk m key d=d)
 |[],es,h=>by simp only[MR] at h;subst h;exact .inr ⟨rfl,rfl,rfl⟩
 |m::ms,es,h=>by
  obtain⟨e,bV,rfl,h2,h3,h4⟩:=h;have hq:=T8 hk aU h2;cases hc:gq.keq kk key m.1 with
  |true =>refine .inl ⟨e,by simp[Qi,hq,hc],by simp[gq.ahas,hc],by simpa [gq.aget,hc] using h3⟩
  |false =>
   rcases MR.find hk aU hz h4 with⟨e',k1,k2,k3⟩|⟨k1,k2,k3⟩
   ·exact .inl ⟨e',by simp[Qi,hq,hc,k1],by simp[gq.ahas,hc,k2],by simpa [gq.aget,hc] using k3⟩
   ·exact .inr ⟨by simp[Qi,hq,hc,k1],by simp[gq.ahas,hc,k2],by simpa [gq.aget,hc] using k3⟩
theorem SRs.one {v:SV}{c:List Value}(h:SRs P B pl tb [v] c):∃ u,c=[u]∧SR P B pl tb v u:=by simp only[SRs] at h;obtain⟨u,us,rfl,h1,rfl⟩:=h;exact⟨u,rfl,h1⟩
theorem QS:∀ {k:Kind}{l:List SV}{x:k.T}{c:List Value},S_ k l=some x→SRs P B pl tb l c→KC B k x c
 |.i ik,[],x,c,h,hs|.bo,[],x,c,h,hs|.st,[],x,c,h,hs|.list _,[],x,c,h,hs=>by cases h
 |.i ik,_::_::_,x,c,h,hs|.bo,_::_::_,x,c,h,hs|.st,_::_::_,x,c,h,hs|.list _,_::_::_,x,c,h,hs=>by cases h
 |.i ik,[v],x,c,h,hs=>by
  obtain⟨u,rfl,h1⟩:=hs.one;simp only[S_] at h;split at h
  ·rename_i sF y;split at h
   ·rename_i e;obtain rfl:=osj h;subst e;simp only[SR] at h1;exact h1
   ·cases h
  ·cases h
 |.bo,[v],x,c,h,hs=>by obtain⟨u,rfl,h1⟩:=hs.one;rw[XR h h1];rfl
 |.st,[v],x,c,h,hs=>by obtain⟨u,rfl,h1⟩:=hs.one;rw[VM h h1];rfl
 |.list k,[v],x,c,h,hs=>by
  obtain⟨u,rfl,h1⟩:=hs.one;simp only[S_] at h;split at h
  ·obtain rfl:=osj h;simp only[SR] at h1;subst h1;exact⟨_,rfl,.inl ⟨rfl,rfl⟩⟩
  ·rename_i k' l';obtain rfl:=W1 h;obtain rfl:=W5 h;simp only[SR] at h1;exact h1
  ·cases h
 |.pair a b,l,x,c,h,hs=>by
  simp only[S_] at h;split at h
  ·rename_i y z h1 h2;obtain rfl:=osj h;exact⟨c.take a.size,c.drop a.size,(List.take_append_drop _ _).symm,QS h1 (hs.take _),QS h2 (hs.drop _)⟩
  ·cases h
end
end Go.V
namespace Go.V
open Go
theorem InK.wrap {k:IntKind}{x:Int}(h:InK k x):k.wrap x=x:=by obtain⟨h1,h2⟩:=h;cases k<;>simp[IntKind.wrap,IntKind.bits,IntKind.signed,IntKind.min,IntKind.max] at h1 h2 ⊢<;>(try split)<;>omega
section
variable {P:Program}{B:Heap}{pl:Nat→Value}{tb:Nat→Option Bool}{own:Own}{σ:Heap}
def QOk (P:Program) (B:Heap) (pl:Nat→Value) (tb:Nat→Option Bool) (σ:Heap) (o:VOp) (evV:Operand→Value) (v:SV):Prop:=∃ u,Q8 o evV σ=some (u,σ)∧SR P B pl tb v u
theorem Xs (k:IntKind) (x:Int):SR P B pl tb (.val (.i k) x) (.int k x):=by simp[SR,KC]
theorem Jb (x:Bool):SR P B pl tb (.val .bo x) (.bool x):=by simp[SR,KC]
theorem Tq (x:List UInt8):SR P B pl tb (.val .st x) (.string ⟨x.toArray⟩):=by simp[SR,KC]
theorem Z8 {α β:Type _}{a c:α}{b d:β}(h:some (a,b)=some (c,d)):a=c∧b=d:=by cases h;exact⟨rfl,rfl⟩
section
variable {kt:List (Nat×Kind)}{raw:Bool}{ev:Operand→SV}{evV:Operand→Value}{cs:List Prop}{v:SV}
theorem BI (ai:∀ x,SR P B pl tb (ev x) (evV x)) {x y:Operand}{k k':IntKind}{a b:Int}(h1:asI (ev x)=some (k,a)) (h2:asI (ev y)=some (k',b)):evV x=.int k a∧evV y=.int k' b:=⟨ZW h1 (ai x),ZW h2 (ai y)⟩
theorem Q6i (ai:∀ x,SR P B pl tb (ev x) (evV x)) {op:BinOp}{x y:Operand}(h:gq kt raw (.arith op x y) ev own=some (cs,v)) (hc:∀ c∈cs,c):QOk P B pl tb σ (.arith op x y) evV v:=by
 simp only[gq] at h;split at h
 ·rename_i k a k' b h1 h2;obtain⟨e1,e2⟩:=BI ai h1 h2;split at h
  ·rename_i hk;subst hk;cases raw with
   |true =>
    obtain⟨rfl,rfl⟩:=Z8 h;refine⟨_,by simp only[Q8,e1,e2,if_true]<;>rfl,?_⟩;have:L4 op k a b=k.wrap (Ta op a b):=by cases op<;>rfl
    rw[this];exact Xs _ _
   |false =>
    obtain⟨rfl,rfl⟩:=Z8 h;refine⟨_,by simp only[Q8,e1,e2,if_true]<;>rfl,?_⟩;have:L4 op k a b=Ta op a b:=by
     have hw:InK k (Ta op a b):=hc _ (by simp);have e:L4 op k a b=k.wrap (Ta op a b):=by cases op<;>rfl
     rw[e,hw.wrap]
    rw[this];exact Xs _ _
  ·cases h
 ·cases h
theorem Z27 (ai:∀ x,SR P B pl tb (ev x) (evV x)) {op:BinOp}{x y:Operand}(h:gq kt raw (.div op x y) ev own=some (cs,v)) (hc:∀ c∈cs,c):QOk P B pl tb σ (.div op x y) evV v:=by
 simp only[gq] at h;split at h
 ·rename_i k a k' b h1 h2;obtain⟨e1,e2⟩:=BI ai h1 h2;split at h
  ·rename_i hk;subst hk;split at h
   ·obtain⟨rfl,rfl⟩:=Z8 h;have hb:b≠0:=hc _ (by simp);have hw:InK k (a.tdiv b):=hc _ (by simp);refine⟨_,by simp only[Q8,e1,e2,hb,ne_eq,not_false_iff,and_self,if_true]<;>rfl,?_⟩;simp only[Q7g,hw.wrap];exact Xs _ _
   ·obtain⟨rfl,rfl⟩:=Z8 h;have hb:b≠0:=hc _ (by simp);refine⟨_,by simp only[Q8,e1,e2,hb,ne_eq,not_false_iff,and_self,if_true]<;>rfl,?_⟩;rename_i bJ;have:Q7g op k a b=a.tmod b:=by unfold Q7g;split<;>simp_all
    rw[this];exact Xs _ _
  ·cases h
 ·cases h
theorem Z0v (ai:∀ x,SR P B pl tb (ev x) (evV x)) {op:BinOp}{x y:Operand}(h:gq kt raw (.bits op x y) ev own=some (cs,v)):QOk P B pl tb σ (.bits op x y) evV v:=by
 simp only[gq] at h;split at h
 ·rename_i k a k' b h1 h2;obtain⟨e1,e2⟩:=BI ai h1 h2;split at h
  ·rename_i hk;subst hk;obtain⟨rfl,rfl⟩:=Z8 h;exact⟨_,by simp only[Q8,e1,e2,if_true]<;>rfl,Xs _ _⟩
  ·cases h
 ·cases h
theorem Q5y (ai:∀ x,SR P B pl tb (ev x) (evV x)) {op:BinOp}{x y:Operand}(h:gq kt raw (.shift op x y) ev own=some (cs,v)) (hc:∀ c∈cs,c):QOk P B pl tb σ (.shift op x y) evV v:=by
 simp only[gq] at h;split at h
 ·rename_i k a k' b h1 h2;obtain⟨e1,e2⟩:=BI ai h1 h2;split at h
  ·cases raw with
   |true =>obtain⟨rfl,rfl⟩:=Z8 h;have hb:0≤b:=hc _ (by simp);exact⟨_,by simp only[Q8,e1,e2,hb,if_true]<;>rfl,Xs _ _⟩
   |false =>obtain⟨rfl,rfl⟩:=Z8 h;have hb:0≤b:=hc _ (by simp);have hw:InK k (JC k a b):=hc _ (by simp);refine⟨_,by simp only[Q8,e1,e2,hb,if_true]<;>rfl,?_⟩;have:L3 .shl k a b=k.wrap (JC k a b):=rfl;rw[this,hw.wrap];exact Xs _ _
  ·obtain⟨rfl,rfl⟩:=Z8 h;have hb:0≤b:=hc _ (by simp);refine⟨_,by simp only[Q8,e1,e2,hb,if_true]<;>rfl,?_⟩;have:L3 op k a b=Qy k a b:=by unfold L3;split<;>simp_all [Qy]
   rw[this];exact Xs _ _
 ·cases h
theorem Z1d (ai:∀ x,SR P B pl tb (ev x) (evV x)) {op:BinOp}{x y:Operand}(h:gq kt raw (.cmp op x y) ev own=some (cs,v)):QOk P B pl tb σ (.cmp op x y) evV v:=by
 simp only[gq] at h;split at h
 ·rename_i k a k' b h1 h2;obtain⟨e1,e2⟩:=BI ai h1 h2;split at h
  ·rename_i hk;subst hk;obtain⟨rfl,rfl⟩:=Z8 h;exact⟨_,by simp only[Q8,e1,e2,if_true]<;>rfl,Jb _⟩
  ·cases h
 ·cases h
theorem Z24 (ai:∀ x,SR P B pl tb (ev x) (evV x)) {op:BinOp}{x y:Operand}(h:gq kt raw (.str op x y) ev own=some (cs,v)) (hc:∀ c∈cs,c):QOk P B pl tb σ (.str op x y) evV v:=by
 simp only[gq] at h;split at h
 ·rename_i a b h1 h2;have e1:=VM h1 (ai x);have e2:=VM h2 (ai y);split at h
  ·obtain⟨rfl,rfl⟩:=Z8 h;have hw:a.length+b.length≤4611686018427387904:=hc _ (by simp);refine⟨.string (⟨a.toArray⟩++⟨b.toArray⟩),by simp only[Q8,e1,e2];rw[if_pos (by simpa [ByteArray.size] using hw)],?_⟩;have:(⟨a.toArray⟩:ByteArray)++⟨b.toArray⟩=⟨(a++b).toArray⟩:=by
    apply ByteArray.ext;simp
   rw[this];exact Tq _
  ·obtain⟨rfl,rfl⟩:=Z8 h;exact⟨_,by simp only[Q8,e1,e2]<;>rfl,Jb _⟩
  ·obtain⟨rfl,rfl⟩:=Z8 h;exact⟨_,by simp only[Q8,e1,e2]<;>rfl,Jb _⟩
  ·obtain⟨rfl,rfl⟩:=Z8 h;exact⟨_,by simp only[Q8,e1,e2]<;>rfl,Jb _⟩
  ·cases h
 ·cases h
theorem Z1i (ai:∀ x,SR P B pl tb (ev x) (evV x)) {neg:Bool}{x y:Operand}(h:gq kt raw (.eqB neg x y) ev own=some (cs,v)):QOk P B pl tb σ (.eqB neg x y) evV v:=by
 simp only[gq] at h;split at h
 ·rename_i a b h1 h2;have e1:=XR h1 (ai x);have e2:=XR h2 (ai y);obtain⟨rfl,rfl⟩:=Z8 h;exact⟨_,by simp only[Q8,e1,e2]<;>rfl,Jb _⟩
 ·cases h
theorem PI {k:MK}{a b:SV}{r:Bool}{u w:Value}(h:O_ k a b=some r) (ha:SR P B pl tb a u) (hb:SR P B pl tb b w):Oq k u=true∧Oq k w=true∧Ks u w=r:=by
 cases k with
 |agg s=>cases h
 |int q =>
  simp only[O_] at h;split at h
  ·rename_i q1 x q2 y h1 h2;split at h
   ·rename_i hq;obtain⟨rfl,rfl⟩:=hq;obtain rfl:=osj h;rw[ZW h1 ha,ZW h2 hb];exact⟨by simp[Oq],by simp[Oq],rfl⟩
   ·cases h
  ·cases h
 |bool =>
  simp only[O_] at h;split at h
  ·rename_i x y h1 h2;obtain rfl:=osj h;rw[XR h1 ha,XR h2 hb];exact⟨rfl,rfl,rfl⟩
  ·cases h
 |string =>
  simp only[O_] at h;split at h
  ·rename_i x y h1 h2;obtain rfl:=osj h;rw[VM h1 ha,VM h2 hb];exact⟨rfl,rfl,rfl⟩
  ·cases h
theorem HI:∀ {s:List MK}{l m:List SV}{r:Bool}{us ws:List Value},Tn s l m=some r→SRs P B pl tb l us→SRs P B pl tb m ws→fits s us=true∧fits s ws=true∧Qq us ws=r
 |[],_,_,_,_,_,h,_,_=>by cases h
 |k::ks,[],_,_,_,_,h,_,_=>by simp[Tn] at h
 |k::ks,_::_,[],_,_,_,h,_,_=>by simp[Tn] at h
 |[k],a::l,b::m,r,us,ws,h,ha,hb=>by
  simp only[Tn] at h;split at h
  ·simp only[SRs] at ha hb;obtain⟨u,mv,rfl,h1,rfl⟩:=ha;obtain⟨w,uC,rfl,h2,rfl⟩:=hb;obtain⟨f1,f2,f3⟩:=PI h h1 h2;simp[fits,Qq,f1,f2,f3]
  ·cases h
 |k::k'::ks,a::l,b::m,r,us,ws,h,ha,hb=>by
  simp only[Tn] at h;split at h
  ·rename_i x y hx hy;obtain rfl:=osj h;simp only[SRs] at ha hb;obtain⟨u,mv,rfl,h1,g7⟩:=ha;obtain⟨w,uC,rfl,h2,g8⟩:=hb;obtain⟨f1,f2,f3⟩:=PI hx h1 h2;obtain⟨g1,g2,g3⟩:=HI (s:=k'::ks) hy g7 g8;rw[fits,fits,f1,f2,g1,g2,Qq,f3,g3];exact⟨rfl,rfl,rfl⟩
  ·cases h
theorem Q6j (ai:∀ x,SR P B pl tb (ev x) (evV x)) {neg:Bool}{s:List MK}{x y:Operand}(h:gq kt raw (.ext (.eqAgg neg s x y)) ev own=some (cs,v)):QOk P B pl tb σ (.ext (.eqAgg neg s x y)) evV v:=by
 simp only[gq] at h;split at h
 ·rename_i l m h1 h2;obtain⟨b,hb,he⟩:=Option.map_eq_some_iff.1 h;obtain⟨rfl,rfl⟩:=(by cases he;exact⟨rfl,rfl⟩:[]=cs∧SV.val .bo (bif neg then !b else b)=v);have e1:=ai x;have e2:=ai y;rw[h1] at e1;rw[h2] at e2;simp only[SR] at e1 e2;obtain⟨us,e1,k1⟩:=e1;obtain⟨ws,e2,k2⟩:=e2;obtain⟨f1,f2,f3⟩:=HI hb k1 k2;refine⟨.bool (if neg then !b else b),?_,by cases neg<;>exact Jb _⟩;simp only[Q8,Zt,e1,e2];rw[if_pos ⟨by simpa using f1,by simpa using f2⟩];simp only[f3]
 ·cases h
theorem Z43 (ai:∀ x,SR P B pl tb (ev x) (evV x)) {op:UnOp}{x:Operand}(h:gq kt raw (.un op x) ev own=some (cs,v)) (hc:∀ c∈cs,c):QOk P B pl tb σ (.un op x) evV v:=by
 simp only[gq] at h;split at h
 ·split at h
  ·rename_i b h1;obtain⟨rfl,rfl⟩:=Z8 h;exact⟨_,by simp only[Q8,XR h1 (ai x)]<;>rfl,Jb _⟩
  ·cases h
 ·split at h
  ·rename_i k n h1;obtain⟨rfl,rfl⟩:=Z8 h;have hw:InK k (0-n):=hc _ (by simp);refine⟨_,by simp only[Q8,ZW h1 (ai x)]<;>rfl,?_⟩;rw[hw.wrap];exact Xs _ _
  ·cases h
 ·split at h
  ·rename_i k n h1;obtain⟨rfl,rfl⟩:=Z8 h;exact⟨_,by simp only[Q8,ZW h1 (ai x)]<;>rfl,Xs _ _⟩
  ·cases h
 ·cases h
theorem Q5t (ai:∀ x,SR P B pl tb (ev x) (evV x)) {k:IntKind}{x:Operand}(h:gq kt raw (.convI k x) ev own=some (cs,v)) (hc:∀ c∈cs,c):QOk P B pl tb σ (.convI k x) evV v:=by
 simp only[gq] at h;split at h
 ·rename_i k' n h1;cases raw with
  |true =>obtain⟨rfl,rfl⟩:=Z8 h;exact⟨_,by simp only[Q8,ZW h1 (ai x)]<;>rfl,Xs _ _⟩
  |false =>obtain⟨rfl,rfl⟩:=Z8 h;have hw:InK k n:=hc _ (by simp);refine⟨_,by simp only[Q8,ZW h1 (ai x)]<;>rfl,?_⟩;rw[hw.wrap];exact Xs _ _
 ·cases h
theorem Q6f (ai:∀ x,SR P B pl tb (ev x) (evV x)) {x:Operand}(h:gq kt raw (.convS x) ev own=some (cs,v)):QOk P B pl tb σ (.convS x) evV v:=by
 simp only[gq] at h;split at h
 ·rename_i s h1;obtain⟨rfl,rfl⟩:=Z8 h;exact⟨_,by simp only[Q8,VM h1 (ai x)]<;>rfl,Tq _⟩
 ·cases h
theorem Q5s (ai:∀ x,SR P B pl tb (ev x) (evV x)) {z:List Value}{ps:List (Nat×Nat×Operand)}(h:gq kt raw (.build z ps) ev own=some (cs,v)):QOk P B pl tb σ (.build z ps) evV v:=by
 simp only[gq] at h;split at h
 ·rename_i l h1;obtain⟨rfl,rfl⟩:=Z8 h;have hz:SRs P B pl tb (z.map cvp) (z.map id):=SRs.map fun x _=>DQ x;rw[List.map_id] at hz;obtain⟨lV,h2,h3⟩:=Rf ai hz h1;refine⟨.agg lV.toArray,by simp only[Q8,h2],?_⟩;simp only[SR];exact⟨lV,rfl,h3⟩
 ·cases h
theorem Q9l (ai:∀ x,SR P B pl tb (ev x) (evV x)) (hle:B.Le σ) (az:∀ d,OR P B pl tb σ (pl d) (Qc own d)) {agg:Bool}{size:Nat}{a:Operand}(h:gq kt raw (.load agg size a) ev own=some (cs,v)):QOk P B pl tb σ (.load agg size a) evV v:=by
 simp only[gq] at h;cases hb:Nat.blt 0 size with
 |false=>rw[hb] at h;cases h
 |true =>
  rw[hb] at h;simp only[_root_.cond_true,Option.map_eq_some_iff] at h;obtain⟨v',h1,h2⟩:=h;obtain⟨rfl,rfl⟩:=(by simpa only [Prod.mk.injEq] using h2:_=cs∧_=v);have hs:0<size:=by simpa [Nat.blt_eq] using hb
  obtain⟨i,o,c,e,wr,t,u,h3,h4,h5,h6⟩:=TW hle az hs h1 (ai a);exact⟨u,by simp only[Q8,h3,h4,h5],h6⟩
theorem FE (ai:∀ x,SR P B pl tb (ev x) (evV x)) {off:Nat}{a:Operand}(h:gq kt raw (.fieldAddr off a) ev own=some (cs,v)):QOk P B pl tb σ (.fieldAddr off a) evV v:=by
 have ha:=ai a;simp only[gq] at h;split at h
 ·rename_i o f heq;obtain⟨rfl,rfl⟩:=Z8 h;rw[heq] at ha;simp only[SR] at ha;obtain⟨b,h1,h2⟩:=ha;refine⟨_,by simp only[Q8,h2]<;>rfl,?_⟩;simp only[SR];exact⟨b,h1,rfl⟩
 ·rename_i l f heq;obtain⟨rfl,rfl⟩:=Z8 h;rw[heq] at ha;simp only[SR] at ha;obtain⟨b,c,e,wr,t,h1,h2,h3⟩:=ha;refine⟨_,by simp only[Q8,h2]<;>rfl,?_⟩;simp only[SR];exact⟨b,c,e,wr,t,h1,rfl,h3⟩
 ·rename_i o i f sz heq;obtain⟨rfl,rfl⟩:=Z8 h;rw[heq] at ha;simp only[SR] at ha;obtain⟨b,len,cap,h1,h2,h3,h4⟩:=ha;refine⟨_,by simp only[Q8,h4]<;>rfl,?_⟩;simp only[SR];exact⟨b,len,cap,h1,h2,h3,by rw[Nat.add_assoc]⟩
 ·rename_i o w heq;rw[heq] at ha;simp only[SR] at ha;split at h
  ·obtain⟨rfl,rfl⟩:=Z8 h;obtain⟨b,len,cap,h1,h2,h3,h4⟩:=ha;refine⟨_,by simp only[Q8,h4]<;>rfl,?_⟩;simp only[SR,DR];exact⟨b,len,cap,h1,h2,h3,by rw[Nat.add_assoc]⟩
  ·obtain⟨rfl,rfl⟩:=Z8 h;obtain⟨b,len,cap,c,e,t,r,rl,rc,bL,re,rt,h1,h2,h3,h4,h5,h6,h7,h8,h9,bX,fP,lH⟩:=ha;refine⟨_,by simp only[Q8,lH]<;>rfl,?_⟩;simp only[SR,DR];exact⟨b,len,cap,c,e,t,r,rl,rc,bL,re,rt,h1,h2,h3,h4,h5,h6,h7,h8,h9,bX,fP,by rw[Nat.add_assoc]⟩
  ·obtain⟨rfl,rfl⟩:=Z8 h;obtain⟨b,o',c,e,wr,t,h1,h2,h3,h4,h5,h6⟩:=ha;refine⟨_,by simp only[Q8,h4]<;>rfl,?_⟩;simp only[SR,DR];exact⟨b,o',c,e,wr,t,h1,h2,h3,by rw[Nat.add_assoc],h5,h6⟩
  ·cases h
 ·rename_i k l i f heq;obtain⟨rfl,rfl⟩:=Z8 h;rw[heq] at ha;simp only[SR] at ha;obtain⟨b,o,c,e,wr,t,h1,h2,h3,h4,h5,h6⟩:=ha;refine⟨_,by simp only[Q8,h4]<;>rfl,?_⟩;simp only[SR];exact⟨b,o,c,e,wr,t,h1,h2,h3,by rw[Nat.add_assoc],h5,h6⟩
 ·cases h
theorem Q77 (ai:∀ x,SR P B pl tb (ev x) (evV x)) {agg:Bool}{off size:Nat}{x:Operand}(h:gq kt raw (.field agg off size x) ev own=some (cs,v)):QOk P B pl tb σ (.field agg off size x) evV v:=by
 have ha:=ai x;simp only[gq] at h;split at h
 ·rename_i l heq;rw[heq] at ha;simp only[SR] at ha;obtain⟨c,h1,h2⟩:=ha;simp only[Option.map_eq_some_iff] at h;obtain⟨v',h3,h4⟩:=h;obtain⟨rfl,rfl⟩:=(by simpa only [Prod.mk.injEq] using h4:_=cs∧_=v);obtain⟨u,h5,h6⟩:=JD h2 h3;exact⟨u,by simp only[Q8,h1,h5],h6⟩
 ·cases h
theorem Q2v (ai:∀ x,SR P B pl tb (ev x) (evV x)) {x:Operand}{i:Nat}(h:gq kt raw (.extract x i) ev own=some (cs,v)):QOk P B pl tb σ (.extract x i) evV v:=by
 have ha:=ai x;simp only[gq] at h;split at h
 ·rename_i l heq;rw[heq] at ha;simp only[SR] at ha;obtain⟨c,h1,h2⟩:=ha;simp only[Option.map_eq_some_iff] at h;obtain⟨v',h3,h4⟩:=h;obtain⟨rfl,rfl⟩:=(by simpa only [Prod.mk.injEq] using h4:_=cs∧_=v);obtain⟨u,h5,h6⟩:=h2.get h3;exact⟨u,by simp only[Q8,h1,h5],h6⟩
 ·cases h
theorem OP (ai:∀ x,SR P B pl tb (ev x) (evV x)) {x:Operand}(h:gq kt raw (.nilCheck x) ev own=some (cs,v)):QOk P B pl tb σ (.nilCheck x) evV v:=by
 have ha:=ai x;simp only[gq] at h;split at h
 ·rename_i o f heq;obtain⟨rfl,rfl⟩:=Z8 h;rw[heq] at ha;have hb:=ha;simp only[SR] at ha;obtain⟨b,h1,h2⟩:=ha;exact⟨_,by simp only[Q8,h2]<;>rfl,by rw[←h2];exact hb⟩
 ·rename_i l f heq;obtain⟨rfl,rfl⟩:=Z8 h;rw[heq] at ha;have hb:=ha;simp only[SR] at ha;obtain⟨b,c,e,wr,t,h1,h2,h3⟩:=ha;exact⟨_,by simp only[Q8,h2]<;>rfl,by rw[←h2];exact hb⟩
 ·rename_i f a b heq;obtain⟨rfl,rfl⟩:=Z8 h;rw[heq] at ha;have hb:=ha;simp only[SR] at ha;obtain⟨x1,y1,h1,h2,h3⟩:=ha;exact⟨_,by simp only[Q8,h1]<;>rfl,by rw[←h1];exact hb⟩
 ·cases h
theorem IU (ai:∀ x,SR P B pl tb (ev x) (evV x)) {x i:Operand}(h:gq kt raw (.indexStr x i) ev own=some (cs,v)) (hc:∀ c∈cs,c):QOk P B pl tb σ (.indexStr x i) evV v:=by
 simp only[gq] at h;split at h
 ·rename_i s k j h1 h2;have e1:=VM h1 (ai x);have e2:=ZW h2 (ai i);obtain⟨rfl,rfl⟩:=Z8 h;have k1:0≤j:=hc _ (by simp);have k2:j<s.length:=hc _ (by simp);have k3:j.toNat<s.length:=by omega
  refine⟨.int .u8 (s[j.toNat].toNat:Int),by simp only[Q8,e1,e2,k1,if_true];simp[k3],?_⟩;have:s.getD j.toNat 0=s[j.toNat]:=by simp[List.getD_eq_getElem?_getD,k3]
  rw[this];exact Xs _ _
 ·cases h
theorem Ow (ai:∀ x,SR P B pl tb (ev x) (evV x)) (gi:∀ c,evV (.const c)=c) {len size:Nat}{agg:Bool}{x i:Operand}(h:gq kt raw (.indexArr len agg size x i) ev own=some (cs,v)):QOk P B pl tb σ (.indexArr len agg size x i) evV v:=by
 have ha:=ai x;simp only[gq] at h;split at h
 ·rename_i l k j heq;split at h
  ·rename_i hj;rw[heq] at ha;simp only[SR] at ha;obtain⟨c,h1,h2⟩:=ha;simp only[Option.map_eq_some_iff] at h;obtain⟨v',h3,h4⟩:=h;obtain⟨rfl,rfl⟩:=(by simpa only [Prod.mk.injEq] using h4:_=cs∧_=v);obtain⟨u,h5,h6⟩:=JD h2 h3;refine⟨u,?_,h6⟩;simp only[Q8,h1,gi];rw[if_pos ⟨by simp,by simpa using hj⟩];simp[h5]
  ·cases h
 ·cases h
theorem Sa (ai:∀ x,SR P B pl tb (ev x) (evV x)) (gi:∀ c,evV (.const c)=c) {len size:Nat}{x i:Operand}(h:gq kt raw (.indexAddrArr len size x i) ev own=some (cs,v)):QOk P B pl tb σ (.indexAddrArr len size x i) evV v:=by
 have ha:=ai x;simp only[gq] at h;split at h
 ·rename_i o f k j heq;split at h
  ·rename_i hj;obtain⟨rfl,rfl⟩:=Z8 h;rw[heq] at ha;simp only[SR] at ha;obtain⟨b,h1,h2⟩:=ha;refine⟨.pointer (some ⟨b,f+j*size,none⟩),?_,?_⟩
   ·simp only[Q8,h2,gi];rw[if_pos ⟨by simp,by simpa using hj⟩];simp
   ·simp only[SR];exact⟨b,h1,rfl⟩
  ·cases h
 ·rename_i l f k j heq;split at h
  ·rename_i hj;obtain⟨rfl,rfl⟩:=Z8 h;rw[heq] at ha;simp only[SR] at ha;obtain⟨b,c,e,wr,t,h1,h2,h3⟩:=ha;refine⟨.pointer (some ⟨b,f+j*size,none⟩),?_,?_⟩
   ·simp only[Q8,h2,gi];rw[if_pos ⟨by simp,by simpa using hj⟩];simp
   ·simp only[SR];exact⟨b,c,e,wr,t,h1,rfl,h3⟩
  ·cases h
 ·cases h
theorem Ff (ai:∀ x,SR P B pl tb (ev x) (evV x)) (_hle:B.Le σ) (az:∀ d,OR P B pl tb σ (pl d) (Qc own d)) {size:Nat}{x i:Operand}(h:gq kt raw (.indexAddr size x i) ev own=some (cs,v)) (hc:∀ c∈cs,c):QOk P B pl tb σ (.indexAddr size x i) evV v:=by
 have ha:=ai x;simp only[gq] at h;split at h
 ·rename_i o k' j heq hj;have ej:=ZW hj (ai i);split at h
  ·rename_i ty k xs nl ho;split at h
   ·rename_i aE;obtain⟨rfl,rfl⟩:=Z8 h;have h0:0≤j:=hc _ (by simp);have h1:j<xs.length:=hc _ (by simp);rw[heq] at ha;simp only[SR] at ha;have ao:=az o;rw[ho] at ao;rcases ao with⟨_,rfl,_⟩|⟨_,b,cap,c,t,h2,h3,h4,h5,h6⟩
    ·simp at h1;omega
    ·refine⟨.pointer (some ⟨b,0+j.toNat*size,none⟩),?_,?_⟩
     ·simp only[Q8,ha.1,h2,ej];rw[if_pos ⟨h0,h1⟩]
     ·simp only[SR];exact⟨b,_,cap,h2,h0,h1,by simp⟩
   ·cases h
  ·cases h
 ·rename_i o w k' j heq hj;have ej:=ZW hj (ai i);rw[heq] at ha;simp only[SR] at ha;have ao:=az o;split at h
  ·rename_i ty q k xs nl hole ho;rw[ho] at ao;split at h
   ·have key:(if k.size=size then some ([0≤j,j<xs.length],SV.dd o (.el j 0 size)) else none)=some (cs,v)→QOk P B pl tb σ (.indexAddr size x i) evV v:=by
     intro h;split at h
     ·rename_i aE;obtain⟨rfl,rfl⟩:=Z8 h;have h0:0≤j:=hc _ (by simp);have h1:j<xs.length:=hc _ (by simp);obtain⟨is,_,_,h2,_⟩:=ao;rcases h2 with⟨rfl,_⟩|⟨b,cap,c,t,js,h2,_⟩
      ·simp at h1;omega
      ·refine⟨.pointer (some ⟨b,0+j.toNat*size,none⟩),?_,?_⟩
       ·simp only[Q8,ha.1,h2,ej];rw[if_pos ⟨h0,h1⟩]
       ·simp only[SR,DR];exact⟨b,_,cap,h2,h0,h1,by simp⟩
     ·cases h
    split at h
    ·exact key h
    ·exact key h
   ·rename_i kr l ir;split at h
    ·rename_i aE;obtain⟨rfl,rfl⟩:=Z8 h;have h0:0≤j:=hc _ (by simp);have h1:j<l.length:=hc _ (by simp);obtain⟨uD,bq,b,len,cap,c,e,t,g1,g2,g3,g4,g5⟩:=ha;obtain⟨r,o',rc,bL,re,sH,rt,k1,k2,k3,k4⟩:=FQ uD (j:=j.toNat) (by omega);obtain rfl:o'=0:=bq _ _ _ k1;obtain rfl:=Q46 k2;refine⟨.pointer (some ⟨r,0+j.toNat*size,none⟩),?_,?_⟩
     ·simp only[Q8,k1,ej];rw[if_pos ⟨h0,h1⟩]
     ·simp only[SR,DR];exact⟨b,len,cap,c,e,t,r,l.length,rc,bL,re,rt,g1,g2,g3,g4,by rw[g5,k1],h0,h1,rfl,k2,by omega,by rw[List.drop_zero] at k4;exact k4,by simp[aE]⟩
    ·cases h
   ·rename_i kr l;split at h
    ·rename_i aE;obtain⟨rfl,rfl⟩:=Z8 h;have h0:0≤j:=hc _ (by simp);have h1:j<l.length:=hc _ (by simp);obtain⟨r,o',rc,bL,re,sH,rt,k1,k2,k3,k4⟩:=FQ (show KC (XI (pl o)) (.list kr) l [evV x] from ha) (j:=j.toNat) (by omega);refine⟨.pointer (some ⟨r,o'+j.toNat*size,none⟩),?_,?_⟩
     ·simp only[Q8,k1,ej];rw[if_pos ⟨h0,h1⟩]
     ·simp only[SR,DR];exact⟨r,o',bL,re,sH,rt,h0,h1,k2,by simp[aE],k3,k4⟩
    ·cases h
   ·cases h
  ·cases h
 ·rename_i o lo n sz k' j heq hj;have ej:=ZW hj (ai i);split at h
  ·rename_i ty k xs nl ho;split at h
   ·rename_i aE;obtain⟨aE,rfl⟩:=aE;obtain⟨rfl,rfl⟩:=Z8 h;have h0:0≤j:=hc _ (by simp);have h1:j<n:=hc _ (by simp);rw[heq] at ha;simp only[SR] at ha;rcases ha with⟨rfl,rfl,_,_⟩|⟨b,len,cap,au,h2,h3,h4,h5⟩
    ·simp at h1;omega
    ·refine⟨.pointer (some ⟨b,lo*sz+j.toNat*sz,none⟩),?_,?_⟩
     ·simp only[Q8,h5,ej];rw[if_pos ⟨h0,h1⟩]
     ·simp only[SR];refine⟨b,len,cap,h2,by omega,by omega,?_⟩;have:((lo:Int)+j).toNat=lo+j.toNat:=by omega
      rw[this,Nat.add_mul,Nat.add_zero]
   ·cases h
  ·cases h
 ·rename_i k l k' j heq hj;have ej:=ZW hj (ai i);split at h
  ·rename_i aE;obtain⟨rfl,rfl⟩:=Z8 h;have h0:0≤j:=hc _ (by simp);have h1:j<l.length:=hc _ (by simp);rw[heq] at ha;simp only[SR,KC] at ha;obtain⟨v',e,hs⟩:=ha;obtain e:=(List.cons.inj e).1;rcases hs with⟨rfl,_⟩|⟨b,o,cap,c,e',wr,t,h2,h3,h4,h5,h6,h7⟩
   ·simp at h1;omega
   ·refine⟨.pointer (some ⟨b,o+j.toNat*size,none⟩),?_,?_⟩
    ·simp only[Q8,e,h2,ej];rw[if_pos ⟨h0,h1⟩]
    ·simp only[SR];exact⟨b,o,c,e',wr,t,h0,h1,h4,by rw[aE,Nat.add_zero],h6,h7⟩
  ·cases h
 ·cases h
theorem Zc (ai:∀ x,SR P B pl tb (ev x) (evV x)) {x:Option Operand}{d:Nat}{a:Int}(h:WU ev x d=some a) (ha:0≤a):JB evV x d=some a.toNat:=by
 cases x with
 |none=>obtain rfl:=osj h;simp[JB]
 |some x =>simp only[WU,Option.map_eq_some_iff] at h;obtain⟨⟨k,a'⟩,h1,h2⟩:=h;simp only at h2;subst h2;simp only[JB,ZW h1 (ai x),ha,if_true]
theorem On (ai:∀ x,SR P B pl tb (ev x) (evV x)) {x:Operand}{lo hi:Option Operand}(h:gq kt raw (.sliceStr x lo hi) ev own=some (cs,v)) (hc:∀ c∈cs,c):QOk P B pl tb σ (.sliceStr x lo hi) evV v:=by
 simp only[gq] at h;split at h
 ·rename_i s hs;have es:=VM hs (ai x);split at h
  ·rename_i a b h1 h2;obtain⟨rfl,rfl⟩:=Z8 h;have k0:0≤a:=hc _ (by simp);have k1:a≤b:=hc _ (by simp);have k2:b≤s.length:=hc _ (by simp);have e1:=Zc (evV:=evV) ai h1 k0;have e2:=Zc (evV:=evV) ai h2 (by omega);have iK:(ByteArray.mk s.toArray).size=s.length:=by simp[ByteArray.size]
   refine⟨.string ((ByteArray.mk s.toArray).extract a.toNat b.toNat),?_,?_⟩
   ·simp only[Q8,es,iK,e1,e2];rw[if_pos (by omega)]
   ·have:(ByteArray.mk s.toArray).extract a.toNat b.toNat=⟨((s.drop a.toNat).take (b-a).toNat).toArray⟩:=by
     apply ByteArray.ext;simp[ByteArray.data_extract];rw[show (b-a).toNat=b.toNat-a.toNat by omega]
    rw[this];exact Tq _
  ·cases h
 ·cases h
theorem Z1q (ai:∀ x,SR P B pl tb (ev x) (evV x)) (az:∀ d,OR P B pl tb σ (pl d) (Qc own d)) {x:Operand}(h:gq kt raw (.len x) ev own=some (cs,v)):QOk P B pl tb σ (.len x) evV v:=by
 simp only[gq] at h;split at h
 ·rename_i n h1;obtain⟨rfl,rfl⟩:=Z8 h;obtain⟨a,cap,e⟩:=OA az h1 (ai x);exact⟨.int .i64 n,by simp only[Q8,e],Xs _ _⟩
 ·cases h
theorem Q4n (ai:∀ x,SR P B pl tb (ev x) (evV x)) {x:Operand}(h:gq kt raw (.lenStr x) ev own=some (cs,v)):QOk P B pl tb σ (.lenStr x) evV v:=by
 simp only[gq] at h;split at h
 ·rename_i s h1;obtain⟨rfl,rfl⟩:=Z8 h;exact⟨.int .i64 s.length,by simp only[Q8,VM h1 (ai x)];simp[ByteArray.size],Xs _ _⟩
 ·cases h
theorem Z2g (ai:∀ x,SR P B pl tb (ev x) (evV x)) {x y:Operand}(h:gq kt raw (.max x y) ev own=some (cs,v)):QOk P B pl tb σ (.max x y) evV v:=by
 simp only[gq] at h;split at h
 ·rename_i k a k' b h1 h2;obtain⟨e1,e2⟩:=BI ai h1 h2;split at h
  ·rename_i hk;subst hk;obtain⟨rfl,rfl⟩:=Z8 h;exact⟨.int k (Q5p a b),by simp only[Q8,e1,e2,if_true];rfl,Xs _ _⟩
  ·cases h
 ·cases h
theorem Q7z (ai:∀ x,SR P B pl tb (ev x) (evV x)) {x y z w:Operand}(h:gq kt raw (.max4 x y z w) ev own=some (cs,v)):QOk P B pl tb σ (.max4 x y z w) evV v:=by
 simp only[gq] at h;split at h
 ·rename_i k a k2 b k3 c k4 d h1 h2 h3 h4;obtain⟨e1,e2⟩:=BI ai h1 h2;obtain⟨e3,e4⟩:=BI ai h3 h4;split at h
  ·rename_i hk;obtain⟨rfl,rfl,rfl⟩:=hk;obtain⟨rfl,rfl⟩:=Z8 h;exact⟨.int k (Q5p (Q5p (Q5p a b) c) d),by simp only[Q8,e1,e2,e3,e4,and_self,if_true];rfl,Xs _ _⟩
  ·cases h
 ·cases h
theorem Z2e (ai:∀ x,SR P B pl tb (ev x) (evV x)) {x y:Operand}(h:gq kt raw (.min x y) ev own=some (cs,v)):QOk P B pl tb σ (.min x y) evV v:=by
 simp only[gq] at h;split at h
 ·rename_i k a k' b h1 h2;obtain⟨e1,e2⟩:=BI ai h1 h2;split at h
  ·rename_i hk;subst hk;obtain⟨rfl,rfl⟩:=Z8 h;exact⟨.int k (Z36 a b),by simp only[Q8,e1,e2,if_true];rfl,Xs _ _⟩
  ·cases h
 ·cases h
theorem OD (ai:∀ x,SR P B pl tb (ev x) (evV x)) {fn:Fn}{a b:List Operand}(h:gq kt raw (.makeFunc fn a b) ev own=some (cs,v)):QOk P B pl tb σ (.makeFunc fn a b) evV v:=by
 cases fn with
 |func f =>obtain⟨rfl,rfl⟩:=Z8 h;refine⟨.func (.func f) (a.map evV).toArray (b.map evV).toArray,by simp only[Q8],?_⟩;simp only[SR];exact⟨_,_,rfl,SRs.map fun x _=>ai x,SRs.map fun x _=>ai x⟩
 |_=>cases h
theorem SlRel.sl {h:Heap}{sz:Nat}{α:Type}{R:α→List Value→Prop}{l:List α}{v:Value}(hs:SlRel h sz R l v):∃ cs a cap,h.sl sz v=some cs∧Rows R l cs∧v=.slice a l.length cap:=by
 rcases hs with⟨rfl,rfl⟩|⟨i,o,cap,c,e,wr,t,rfl,h2,h3,h4,h5,h6⟩
 ·exact⟨[],_,_,rfl,.nil,rfl⟩
 ·refine⟨_,_,cap,?_,h6,rfl⟩;simp only[Heap.sl,h3];rw[if_pos ⟨h4,h5⟩]
theorem Ef {h:Heap}:∀ {xs:List Int}{cs:List Value},Rows (KC h (.i .u8)) xs cs→HC cs=some ⟨(xs.map fun x=>x.toNat.toUInt8).toArray⟩:=by
 have key:∀ {xs:List Int}{cs:List Value},Rows (KC h (.i .u8)) xs cs→cs.mapM ES=some (xs.map fun x=>x.toNat.toUInt8):=fun {xs cs} hr=>by
  induction hr with
  |nil=>rfl
  |@cons x xs c cs hx _ ih =>simp only[KC] at hx;subst hx;simp only[List.singleton_append,List.mapM_cons,ES,ih,List.map_cons];rfl
 intro xs cs hr;simp only[HC,key hr,Option.map_some]
theorem IM (ai:∀ x,SR P B pl tb (ev x) (evV x)) (hle:B.Le σ) (az:∀ d,OR P B pl tb σ (pl d) (Qc own d)) {x:Operand}(h:gq kt raw (.ext (.bytesStr x)) ev own=some (cs,v)):QOk P B pl tb σ (.ext (.bytesStr x)) evV v:=by
 simp only[gq] at h;split at h
 ·rename_i xs h1;obtain⟨rfl,rfl⟩:=Z8 h;obtain⟨cs,a,cap,h2,h3,h4⟩:=(WZ hle az h1 (ai x)).sl;refine⟨.string ⟨(Kj xs).toArray⟩,?_,Tq _⟩;have aE:Kind.size (.i .u8)=1:=rfl;rw[h4,aE] at h2;simp only[Q8,Zt,h4,h2,Ef h3];rfl
 ·cases h
theorem Q3d (ai:∀ x,SR P B pl tb (ev x) (evV x)) (az:∀ d,OR P B pl tb σ (pl d) (Qc own d)) {neg:Bool}{x y:Operand}(h:gq kt raw (.ext (.eqNil 0 neg x y)) ev own=some (cs,v)) (hc:∀ c∈cs,c):QOk P B pl tb σ (.ext (.eqNil 0 neg x y)) evV v:=by
 have hx:=ai x;have hy:=ai y;simp only[gq] at h;split at h
 ·rename_i h1 h2;obtain⟨rfl,rfl⟩:=Z8 h;rw[h1] at hx;rw[h2] at hy;simp only[SR] at hx hy;exact⟨.bool (!neg),by simp only[Q8,Zt,hx,hy,Jq];cases neg<;>rfl,Jb _⟩
 ·rename_i o f h1 h2;obtain⟨rfl,rfl⟩:=Z8 h;rw[h1] at hx;rw[h2] at hy;simp only[SR] at hx hy;obtain⟨b,_,hb⟩:=hx;exact⟨.bool neg,by simp only[Q8,Zt,hb,hy,Jq];cases neg<;>rfl,Jb _⟩
 ·rename_i l f h1 h2;obtain⟨rfl,rfl⟩:=Z8 h;rw[h1] at hx;rw[h2] at hy;simp only[SR] at hx hy;obtain⟨b,c,e,wr,t,_,hb,_⟩:=hx;exact⟨.bool neg,by simp only[Q8,Zt,hb,hy,Jq];cases neg<;>rfl,Jb _⟩
 ·rename_i o c h1 h2;obtain⟨rfl,rfl⟩:=Z8 h;rw[h1] at hx;rw[h2] at hy;simp only[SR,DR] at hx hy;rcases hx with⟨rfl,hb⟩|⟨rfl,b,_,hb⟩
  ·exact⟨.bool (bif neg then false else true),by simp only[Q8,Zt,hb,hy,Jq];cases neg<;>rfl,Jb _⟩
  ·exact⟨.bool (bif neg then true else false),by simp only[Q8,Zt,hb,hy,Jq];cases neg<;>rfl,Jb _⟩
 ·rename_i o c o' f h1 h2;split at h
  ·rename_i l u ho;split at h
   ·rename_i he;obtain⟨rfl,rfl⟩:=he;obtain⟨rfl,rfl⟩:=Z8 h;have uE:c=true:=hc _ (by simp);rw[h1] at hx;rw[h2] at hy;simp only[SR,DR] at hx hy;have ao:=az o;rw[ho] at ao;obtain⟨i,cc,e,t,hp,hg,_⟩:=ao;obtain⟨b',br,hy⟩:=hy;rcases hx with⟨ke,_⟩|⟨_,b,eQ,hb⟩
    ·rw[uE] at ke;cases ke
    ·rw[hp] at br eQ;simp only[phd,Value.pointer.injEq,Option.some.injEq] at br eQ;have e1:i=b':=by injection br
     have e2:i=b:=by injection eQ
     subst e1;subst e2;exact⟨.bool (!neg),by simp only[Q8,Zt,hb,hy,Jq,hg,Option.isSome_some,and_self,if_true];cases neg<;>rfl,Jb _⟩
   ·cases h
  ·cases h
 ·cases h
theorem I_ (ai:∀ x,SR P B pl tb (ev x) (evV x)) (az:∀ d,OR P B pl tb σ (pl d) (Qc own d)) {x:Operand}(h:gq kt raw (.ext (.toUnsafe x)) ev own=some (cs,v)):QOk P B pl tb σ (.ext (.toUnsafe x)) evV v:=by
 have hx:=ai x;simp only[gq] at h;split at h
 ·rename_i o f h1;split at h
  ·rename_i l u ho;split at h
   ·rename_i hf;obtain⟨rfl,rfl⟩:=Z8 h;rw[h1] at hx;have qR:=hx;simp only[SR] at hx;obtain⟨b,hp,hv⟩:=hx;have ao:=az o;rw[ho] at ao;obtain⟨i,c,e,t,eQ,hg,hl,_⟩:=ao;rw[hp] at eQ;have e1:b=i:=by simpa using eQ
    subst e1;refine⟨.pointer (some ⟨b,f,none⟩),?_,by rw[←hv];exact qR⟩;simp only[Q8,Zt,hv,hg];rw[if_pos (by rw[←hl.length];exact hf)]
   ·cases h
  ·cases h
 ·cases h
theorem AQ (ai:∀ x,SR P B pl tb (ev x) (evV x)) (az:∀ d,OR P B pl tb σ (pl d) (Qc own d)) {u size:Nat}{x:Operand}(h:gq kt raw (.ext (.fromUnsafe u size x)) ev own=some (cs,v)):QOk P B pl tb σ (.ext (.fromUnsafe u size x)) evV v:=by
 have hx:=ai x;simp only[gq] at h;split at h
 ·rename_i o f h1;split at h
  ·rename_i l t0 ho;split at h
   ·rename_i hf;obtain⟨rfl,rfl,aE⟩:=hf;obtain⟨rfl,rfl⟩:=Z8 h;rw[h1] at hx;have qR:=hx;simp only[SR] at hx;obtain⟨b,hp,hv⟩:=hx;have ao:=az o;rw[ho] at ao;obtain⟨i,c,e,t,eQ,hg,hl,hu⟩:=ao;obtain⟨he,ht⟩:=hu _ rfl;subst ht;rw[hp] at eQ;have e1:b=i:=by simpa using eQ
    subst e1;refine⟨.pointer (some ⟨b,0,none⟩),?_,by rw[←hv];exact qR⟩;simp only[Q8,Zt,hv,hg];rw[if_pos ⟨trivial,he,by rw[←hl.length];exact aE⟩]
   ·cases h
  ·cases h
 ·cases h
theorem Fg (ai:∀ x,SR P B pl tb (ev x) (evV x)) (az:∀ d,OR P B pl tb σ (pl d) (Qc own d)) {x:Operand}(h:gq kt raw (.ext (.sliceData x)) ev own=some (cs,v)) (hc:∀ c∈cs,c):QOk P B pl tb σ (.ext (.sliceData x)) evV v:=by
 have hx:=ai x;simp only[gq] at h;split at h
 ·rename_i h1;obtain⟨rfl,rfl⟩:=Z8 h;rw[h1] at hx;simp only[SR] at hx;exact⟨.pointer none,by simp only[Q8,Zt,hx],by simp[SR]⟩
 ·rename_i o h1;split at h
  ·rename_i ty k xs nl ho;obtain⟨rfl,rfl⟩:=Z8 h;have ef:nl=false→xs≠[]:=hc _ (by simp);rw[h1] at hx;simp only[SR] at hx;have ao:=az o;rw[ho] at ao;rcases ao with⟨_,_,hp⟩|⟨jh,i,cap,c,t,hp,df,hg,_⟩
   ·refine⟨.pointer none,by simp only[Q8,Zt,hx.1,hp],?_⟩;simp only[SR,DR];exact .inl ⟨by rw[hp];rfl,trivial⟩
   ·have aA:=List.length_pos_iff.2 (ef jh);refine⟨.pointer (some ⟨i,0,none⟩),?_,?_⟩
    ·simp only[Q8,Zt,hx.1,hp,hg,Option.isSome_some,and_true];rw[if_pos (by omega)]
    ·simp only[SR,DR];exact .inr ⟨i,xs.length,cap,by rw[hp];rfl,aA,rfl⟩
  ·cases h
 ·cases h
theorem Th {size:Nat}{i o len cap l h:Nat}{c:List Value}{e:El}{wr t:Bool}(hg:σ.get i=some (.cells c e wr t)) (he:e.sz=size) (h1:l≤h) (h2:h≤cap) :
  YM size σ (.slice (some ⟨i,o,none⟩) len cap) l h none=some (.slice (some ⟨i,o+l*size,none⟩) (h-l) (cap-l),σ):=by
 simp only[YM,hg];rw[if_pos ⟨he,h1,h2⟩]
theorem Q9v {H:Heap}{k:Kind}{l:List k.T}{v:Value}(h:KC H (.list k) l [v]):∃ a c,v=.slice a l.length c:=by
 obtain⟨v',e,hs⟩:=h;obtain rfl:=(List.cons.inj e).1;rcases hs with⟨rfl,rfl⟩|⟨i,o,cap,c,e',wr,t,rfl,_⟩
 ·exact⟨_,_,rfl⟩
 ·exact⟨_,_,rfl⟩
theorem Ii {H:Heap}(hle:H.Le σ) {k:Kind}{l:List k.T}{v:Value}{a b:Nat}(h:KC H (.list k) l [v]) (k1:a≤b) (k2:b≤l.length) :
  ∃ u,YM k.size σ v a b none=some (u,σ)∧KC H (.list k) ((l.drop a).take (b-a)) [u]:=by
 obtain⟨v',e,hs⟩:=h;obtain rfl:=(List.cons.inj e).1;rcases hs with⟨rfl,rfl⟩|⟨i,o,cap,c,e',wr,t,rfl,h4,h5,h6,h7,h8⟩
 ·simp only[List.length_nil] at k2;have za:a=0:=by omega
  have zb:b=0:=by omega
  subst za;subst zb;exact⟨.slice none 0 0,by simp only[YM];rfl,_,rfl,.inl ⟨by simp,rfl⟩⟩
 ·have hlen:((l.drop a).take (b-a)).length=b-a:=by simp;omega
  refine⟨.slice (some ⟨i,o+a*k.size,none⟩) (b-a) (cap-a),Th (hle.2 _ _ h5) h6 (by omega) (by omega),_,rfl,.inr ⟨i,o+a*k.size,cap-a,c,e',wr,t,by rw[hlen],by rw[hlen];omega,h5,h6,?_,?_⟩⟩
  ·rw[hlen];have:(a+(b-a))*k.size≤l.length*k.size:=Nat.mul_le_mul_right _ (by omega);rw[Nat.add_mul] at this;omega
  ·rw[hlen];have:=(h8.drop KC.rows_len a).take KC.rows_len (b-a);have e3:(((c.drop o).take (l.length*k.size)).drop (a*k.size)).take ((b-a)*k.size)=(c.drop (o+a*k.size)).take ((b-a)*k.size):=by
    apply List.ext_getElem?;intro j;simp only[List.getElem?_take,List.getElem?_drop];split
    ·have:(a+(b-a))*k.size≤l.length*k.size:=Nat.mul_le_mul_right _ (by omega);rw[Nat.add_mul] at this;rw[if_pos (by omega),Nat.add_assoc]
    ·rfl
   rw[e3] at this;exact this
theorem Q6q (ai:∀ x,SR P B pl tb (ev x) (evV x)) (hle:B.Le σ) (az:∀ d,OR P B pl tb σ (pl d) (Qc own d)) {size:Nat}{x:Operand}{lo hi mx:Option Operand}(h:gq kt raw (.slice size x lo hi mx) ev own=some (cs,v)) (hc:∀ c∈cs,c):QOk P B pl tb σ (.slice size x lo hi mx) evV v:=by
 have ha:=ai x;cases mx with
 |some m=>cases h
 |none =>
 simp only[gq] at h;split at h
 ·rename_i o heq;rw[heq] at ha;simp only[SR] at ha;have ao:=az o;split at h
  ·rename_i ty k xs nl ho;rw[ho] at ao;split at h
   ·rename_i aE;split at h
    ·rename_i a b h1 h2;obtain⟨rfl,rfl⟩:=Z8 h;have k0:0≤a:=hc _ (by simp);have k1:a≤b:=hc _ (by simp);have k2:b≤xs.length:=hc _ (by simp);have e1:=Zc (evV:=evV) (d:=0) ai h1 k0;have e2:=Zc (evV:=evV) ai h2 (by omega);rcases ao with⟨_,rfl,h3⟩|⟨_,i,cap,c,t,h3,h4,h5,h6,h7⟩
     ·simp only[List.length_nil] at k2 e2;have za:a.toNat=0:=by omega
      have zb:b.toNat=0:=by omega
      have zc:(b-a).toNat=0:=by omega
      refine⟨.slice none 0 0,?_,?_⟩
      ·simp only[Q8,ha.1,h3,e1,e2,za,zb,YM];rfl
      ·rw[za,zc];simp only[SR];exact .inl ⟨trivial,trivial,trivial,h3⟩
     ·refine⟨.slice (some ⟨i,0+a.toNat*size,none⟩) (b.toNat-a.toNat) (cap-a.toNat),?_,?_⟩
      ·simp only[Q8,ha.1,h3,e1,e2];exact Th h5 aE (by omega) (by omega)
      ·simp only[SR];refine .inr ⟨i,_,cap,cap-a.toNat,h3,by omega,by omega,?_⟩;rw[Nat.zero_add,show (b-a).toNat=b.toNat-a.toNat by omega]
    ·cases h
   ·cases h
  ·cases h
 ·rename_i o l0 n sz heq;rw[heq] at ha;simp only[SR] at ha;have ao:=az o;split at h
  ·rename_i ty k xs nl ho;rw[ho] at ao;split at h
   ·rename_i aE;obtain⟨aE,rfl⟩:=aE;split at h
    ·rename_i a b h1 h2;obtain⟨rfl,rfl⟩:=Z8 h;have k0:0≤a:=hc _ (by simp);have k1:a≤b:=hc _ (by simp);have k2:b≤n:=hc _ (by simp);have e1:=Zc (evV:=evV) (d:=0) ai h1 k0;have e2:=Zc (evV:=evV) ai h2 (by omega);rcases ha with⟨rfl,rfl,hv,hp⟩|⟨i,len,cap,au,h3,h4,h5,hv⟩
     ·have za:a.toNat=0:=by omega
      have zb:b.toNat=0:=by omega
      have zc:(b-a).toNat=0:=by omega
      refine⟨.slice none 0 0,?_,?_⟩
      ·simp only[Q8,hv,e1,e2,za,zb,YM];rfl
      ·rw[za,zc];simp only[SR];exact .inl ⟨trivial,trivial,trivial,hp⟩
     ·rcases ao with⟨_,_,h6⟩|⟨_,i',eY,c,t,h6,h7,h8,h9,bX⟩
      ·rw[h3] at h6;cases h6
      ·rw[h3] at h6;obtain⟨rfl,rfl,rfl⟩:=(by simpa using h6:i=i'∧len=xs.length∧cap=eY);refine⟨.slice (some ⟨i,l0*sz+a.toNat*sz,none⟩) (b.toNat-a.toNat) (au-a.toNat),?_,?_⟩
       ·simp only[Q8,hv,e1,e2];exact Th h8 aE (by omega) (by omega)
       ·simp only[SR];refine .inr ⟨i,_,cap,au-a.toNat,h3,by omega,by omega,?_⟩;rw[Nat.add_mul,show (b-a).toNat=b.toNat-a.toNat by omega]
    ·cases h
   ·cases h
  ·cases h
 ·rename_i k l heq;rw[heq] at ha;simp only[SR] at ha;split at h
  ·rename_i aE;split at h
   ·rename_i a b h1 h2;obtain⟨rfl,rfl⟩:=Z8 h;have k0:0≤a:=hc _ (by simp);have k1:a≤b:=hc _ (by simp);have k2:b≤l.length:=hc _ (by simp);have e1:=Zc (evV:=evV) (d:=0) ai h1 k0;have e2:=Zc (evV:=evV) ai h2 (by omega);obtain⟨v',e⟩:=List.length_eq_one_iff.1 (KC.length ha);obtain⟨u,g1,g2⟩:=Ii hle (a:=a.toNat) (b:=b.toNat) ha (by omega) (by omega);obtain⟨n,cap,e3⟩:=Q9v ha;refine⟨u,?_,?_⟩
    ·simp only[Q8,e3,e1,e2];rw[←aE,←e3];exact g1
    ·simp only[SR];rw[show (b-a).toNat=b.toNat-a.toNat by omega];exact g2
   ·cases h
  ·cases h
 ·rename_i o w heq;rw[heq] at ha;simp only[SR] at ha;have ao:=az o;split at h
  ·rename_i ty q k xs nl hole ho;rw[ho] at ao
   have key:∀ (k:Kind) (l:List k.T),KC (XI (pl o)) (.list k) l [evV x]→(if k.size=size then (match WU ev lo 0,WU ev hi l.length with
     |some a,some b=>some ([0≤a,a≤b,b≤(l.length:Int)],SV.dd o (.inn k ((l.drop a.toNat).take (b-a).toNat)))
     |_,_=>none) else none)=some (cs,v)→QOk P B pl tb σ (.slice size x lo hi none) evV v:=by
    intro k l ha h;split at h
    ·rename_i aE;split at h
     ·rename_i a b h1 h2;obtain⟨rfl,rfl⟩:=Z8 h;have k0:0≤a:=hc _ (by simp);have k1:a≤b:=hc _ (by simp);have k2:b≤l.length:=hc _ (by simp);have e1:=Zc (evV:=evV) (d:=0) ai h1 k0;have e2:=Zc (evV:=evV) ai h2 (by omega);obtain⟨u,g1,g2⟩:=Ii (DP.le ao) (a:=a.toNat) (b:=b.toNat) ha (by omega) (by omega);obtain⟨n,cap,e3⟩:=(Tp ha).len;refine⟨u,?_,?_⟩
      ·simp only[Q8,e3,e1,e2];rw[←aE,←e3];exact g1
      ·simp only[SR,DR];rw[show (b-a).toNat=b.toNat-a.toNat by omega];exact g2
     ·cases h
    ·cases h
   split at h
   ·exact key _ _ ha h
   ·exact key _ _ ha.1 h
   ·cases h
  ·cases h
 ·rename_i heq;rw[heq] at ha;simp only[SR] at ha;split at h
  ·rename_i a b h1 h2;obtain⟨rfl,rfl⟩:=Z8 h;have k0:a=0:=hc _ (by simp);have k1:b=0:=hc _ (by simp);subst k0;subst k1;have e1:=Zc (evV:=evV) (d:=0) ai h1 (Int.le_refl _);have e2:=Zc (evV:=evV) (d:=0) ai h2 (Int.le_refl _);refine⟨.slice none 0 0,?_,?_⟩
   ·simp only[Q8,ha,e1,e2,YM];rfl
   ·simp only[SR]
  ·cases h
 ·cases h
theorem Q64 (ai:∀ x,SR P B pl tb (ev x) (evV x)) {neg:Bool}{x y:Operand}(az:∀ d,OR P B pl tb σ (pl d) (Qc own d)) (h:gq kt raw (.ext (.eqNil 1 neg x y)) ev own=some (cs,v)) (hc:∀ c∈cs,c):QOk P B pl tb σ (.ext (.eqNil 1 neg x y)) evV v:=by
 have ha:=ai x;have hb:=ai y;simp only[gq] at h;split at h
 ·rename_i h1 h2;rw[h1] at ha;rw[h2] at hb;simp only[SR] at ha hb;obtain⟨rfl,rfl⟩:=Z8 h;refine⟨.bool (!neg),?_,Jb _⟩;simp only[Q8,Zt,ha,hb,Jq];cases neg<;>rfl
 ·rename_i o h1 h2;rw[h1] at ha;rw[h2] at hb;simp only[SR] at ha hb;have ao:=az o;split at h
  ·rename_i ty k xs nl ho;rw[ho] at ao;obtain⟨rfl,rfl⟩:=Z8 h;refine⟨.bool (bif neg then !nl else nl),?_,Jb _⟩;rcases ao with⟨rfl,_,h3⟩|⟨rfl,i,cap,c,t,h3,_⟩
   ·simp only[Q8,Zt,ha.1,h3,hb,Jq];cases neg<;>rfl
   ·simp only[Q8,Zt,ha.1,h3,hb,Jq];cases neg<;>rfl
  ·cases h
 ·rename_i o h1 h2;rw[h1] at ha;rw[h2] at hb;simp only[SR] at ha hb;have ao:=az o;split at h
  ·rename_i ty q k xs nl hole ho;rw[ho] at ao;obtain⟨rfl,rfl⟩:=Z8 h;refine⟨.bool (bif neg then !nl else nl),?_,Jb _⟩;obtain⟨is,_,_,g2,_,_,g5⟩:=ao;obtain⟨e1,_⟩:=ha;rcases g2 with⟨_,h3,_⟩|⟨i,cap,c,t,js,h3,_⟩
   ·obtain rfl:=g5.2 h3;simp only[Q8,Zt,e1,h3,hb,Jq];cases neg<;>rfl
   ·have hn:nl=false:=by
     cases nl with
     |false=>rfl
     |true=>rw[g5.1 rfl] at h3;cases h3
    subst hn;simp only[Q8,Zt,e1,h3,hb,Jq];cases neg<;>rfl
  ·cases h
 ·rename_i k l h1 h2;rw[h1] at ha;rw[h2] at hb;simp only[SR] at ha hb;obtain⟨rfl,rfl⟩:=Z8 h;have hl:=hc (l≠[]) (by simp);refine⟨.bool neg,?_,Jb _⟩;obtain⟨u,hu,hs⟩:=ha;obtain rfl:=(List.cons.inj hu).1;rcases hs with⟨e,_⟩|⟨i,o,cap,c,e,wr,t,h3,_⟩
  ·exact absurd e hl
  ·simp only[Q8,Zt,h3,hb,Jq];cases neg<;>rfl
 ·cases h
theorem Q3k (ai:∀ x,SR P B pl tb (ev x) (evV x)) {mk:MK}{z:Value}{ok:Bool}{x i:Operand}(_hle:B.Le σ) (az:∀ d,OR P B pl tb σ (pl d) (Qc own d)) (h:gq kt raw (.ext (.lookup mk z ok x i)) ev own=some (cs,v)):QOk P B pl tb σ (.ext (.lookup mk z ok x i)) evV v:=by
 have ha:=ai x;simp only[gq] at h;split at h
 ·rename_i o h1;rw[h1] at ha;simp only[SR] at ha;have ao:=az o;split at h
  ·rename_i kk vk m ho;rw[ho] at ao;obtain⟨id,es,clock,h2,h3,h4⟩:=ao;split at h
   ·rename_i cy;obtain⟨cy,hz⟩:=cy;split at h
    ·rename_i key aU;have hk:=Mi aU (ai i) QS;have bQ:=G2 cy hk;have af:=MR.keys cy h4.1;have qS:KV B vk vk.dflt z:=HY hz;have aK:σ.mapAt id=some (es,clock,true):=by simp[Heap.mapAt,h3]
     have aL:=MR.find cy hk qS h4.1
     have base:∀ u,(match Qi (evV i) es with
      |some e=>some (if ok then Value.tuple #[e.2.1,.bool true] else e.2.1,σ)
      |none=>some (if ok then .tuple #[z,.bool false] else z,σ))=some (u,σ)→Q8 (.ext (.lookup mk z ok x i)) evV σ=some (u,σ):=fun u hu=>by
      simp only[Q8,Zt,bQ,if_true,ha.1,h2,aK,af];exact hu
     cases ok with
     |true =>
      simp only[if_true] at h;obtain⟨rfl,rfl⟩:=Z8 h;rcases aL with⟨e,k1,k2,k3⟩|⟨k1,k2,k3⟩
      ·refine⟨.tuple #[e.2.1,.bool true],base _ (by rw[k1];rfl),?_⟩;simp only[SR];refine⟨[e.2.1,.bool true],rfl,?_⟩;simp only[SRs,SR];exact⟨_,_,rfl,JO k3,_,_,rfl,by simp[KC,k2],rfl⟩
      ·refine⟨.tuple #[z,.bool false],base _ (by rw[k1];rfl),?_⟩;simp only[SR];refine⟨[z,.bool false],rfl,?_⟩;simp only[SRs,SR];exact⟨_,_,rfl,by rw[k3];exact JO qS,_,_,rfl,by simp[KC,k2],rfl⟩
     |false =>
      simp only[Bool.false_eq_true,if_false] at h;obtain⟨rfl,rfl⟩:=Z8 h;rcases aL with⟨e,k1,k2,k3⟩|⟨k1,k2,k3⟩
      ·exact⟨e.2.1,base _ (by rw[k1];rfl),JO k3⟩
      ·exact⟨z,base _ (by rw[k1];rfl),by rw[k3];exact JO qS⟩
    ·cases h
   ·cases h
  ·cases h
 ·cases h
theorem Q3p (ai:∀ x,SR P B pl tb (ev x) (evV x)) {x:Operand}(az:∀ d,OR P B pl tb σ (pl d) (Qc own d)) (h:gq kt raw (.ext (.lenMap x)) ev own=some (cs,v)):QOk P B pl tb σ (.ext (.lenMap x)) evV v:=by
 have ha:=ai x;simp only[gq] at h;split at h
 ·rename_i o h1;rw[h1] at ha;simp only[SR] at ha;have ao:=az o;split at h
  ·rename_i kk vk m ho;rw[ho] at ao;obtain⟨id,es,clock,h2,h3,h4⟩:=ao;obtain⟨rfl,rfl⟩:=Z8 h;have aK:σ.mapAt id=some (es,clock,true):=by simp[Heap.mapAt,h3]
   refine⟨.int .i64 es.length,by simp only[Q8,Zt,ha.1,h2,aK],?_⟩;rw[h4.1.length];exact Xs _ _
  ·cases h
 ·cases h
theorem MR.at {kk vk:Kind}:∀ {m:List (kk.T×vk.T)}{es:List JP}{r:Nat}{e:JP},MR B kk vk m es→es[r]?=some e→∃ h:r<m.length,KV B kk m[r].1 e.1∧KV B vk m[r].2 e.2.1
 |[],es,r,e,h,he=>by simp only[MR] at h;subst h;simp at he
 |x::m,es,r,e,h,he=>by
  obtain⟨e',bV,rfl,h1,h2,h3⟩:=h;cases r with
  |zero=>simp only[List.getElem?_cons_zero,Option.some.injEq] at he;subst he;exact⟨by simp,h1,h2⟩
  |succ r =>obtain⟨k1,k2,k3⟩:=MR.at h3 (by simpa using he);exact⟨by simpa using k1,k2,k3⟩
theorem Bf:∀ {k:Kind},k.keyk=true→∀ {x:k.T}{cs:List Value},KC B k x cs→cs.all QW=true
 |.pair a b,hk,x,cs,h=>by simp only[Kind.keyk,Bool.and_eq_true] at hk;obtain⟨c1,c2,rfl,h1,h2⟩:=h;rw[List.all_append,Bf hk.1 h1,Bf hk.2 h2];rfl
 |.i _,_,x,cs,h=>by simp only[KC] at h;subst h;rfl
 |.bo,_,x,cs,h=>by simp only[KC] at h;subst h;rfl
 |.st,_,x,cs,h=>by simp only[KC] at h;subst h;rfl
 |.list _,hk,_,_,_=>by cases hk
theorem Ad {k:Kind}(hk:k.keyk=true) {x:k.T}{v:Value}(h:KV B k x v):VD v=true:=by
 rcases h with⟨ho,h⟩|⟨ho,cs,rfl,h⟩
 ·have:=Bf hk h;rw[List.all_cons,Bool.and_eq_true] at this;have hp:=this.1;cases v<;>first|exact hp|cases hp
 ·show cs.toArray.toList.all QW=true;exact Bf hk h
theorem BR {es:List JP}{clock:Nat}(h:SOk es clock) {r r':Nat}{e e':JP}(h1:es[r]?=some e) (h2:es[r']?=some e') (he:e.2.2=e'.2.2):r=r':=by
 obtain⟨k1,rfl⟩:=List.getElem?_eq_some_iff.1 h1;obtain⟨k2,rfl⟩:=List.getElem?_eq_some_iff.1 h2;have:=h.1;rw[List.nodup_iff_pairwise_ne,List.pairwise_iff_getElem] at this;rcases Nat.lt_trichotomy r r' with ah|ah|ah
 ·exact absurd (by rw[List.getElem_map,List.getElem_map];exact he) (this r r' (by simpa using k1) (by simpa using k2) ah)
 ·exact ah
 ·exact absurd (by rw[List.getElem_map,List.getElem_map];exact he.symm) (this r' r (by simpa using k2) (by simpa using k1) ah)
theorem OT {es:List JP}{clock:Nat}(h:SOk es clock) {r:Nat}{e:JP}(h1:es[r]?=some e):es.find? (fun e'=>e'.2.2==e.2.2)=some e:=by
 obtain⟨k1,rfl⟩:=List.getElem?_eq_some_iff.1 h1;rw[List.find?_eq_some_iff_getElem];refine⟨by simp,r,k1,rfl,fun j hj=>?_⟩;have bN:j<es.length:=by omega
 simp only[Bool.not_eq_true',beq_eq_false_iff_ne];intro he;have:=BR h (List.getElem?_eq_getElem bN) h1 he;omega
theorem Q6h (ai:∀ x,SR P B pl tb (ev x) (evV x)) (hle:B.Le σ) (az:∀ d,OR P B pl tb σ (pl d) (Qc own d)) {x:Operand}(h:gq kt raw (.ext (.entry x)) ev own=some (cs,v)) (hc:∀ c∈cs,c):QOk P B pl tb σ (.ext (.entry x)) evV v:=by
 simp only[gq] at h;split at h
 ·rename_i o f h1;split at h
  ·rename_i kk vk m dn ho;split at h
   ·rename_i ak;obtain⟨rfl,hk,hv⟩:=ak;obtain⟨rfl,rfl⟩:=Z8 h;have nU:dn≠[]:=hc _ (by simp);have e1:=ai x;rw[h1] at e1;simp only[SR] at e1;obtain⟨b,e2,e3⟩:=e1;have ao:=az o;rw[ho] at ao;obtain⟨j,i,es,clock,wr,seen,h2,h3,h4,h5,h6⟩:=ao;rw[h2] at e2;obtain rfl:j=b:=by simpa using e2
    have dN:0<dn.length:=List.length_pos_iff.2 nU;have dO:dn[dn.length-1]?=some (dn.getLastD 0):=by rw[List.getLastD_eq_getLast?,List.getLast?_eq_getElem?];rw[List.getElem?_eq_getElem (show dn.length-1<dn.length by omega)];rfl
    obtain⟨e,jg,gY⟩:=h6.2 _ _ dO;have gM:seen.getLast?=some e.2.2:=by rw[List.getLast?_eq_getElem?,h6.1];exact gY
    obtain⟨hr,k1,k2⟩:=MR.at h5.1 jg;have k2:=k2.kc hv;have aK:σ.mapAt i=some (es,clock,wr):=by simp[Heap.mapAt,hle.2 _ _ h4]
    have de:=OT h5.2 jg;refine⟨.tuple #[e.1,e.2.1],?_,?_⟩
    ·simp only[Q8,Zt,e3,h3,aK,gM,de,if_true];rw[if_pos (Ad hk k1)]
    ·simp only[SR,SRs];refine⟨[e.1,e.2.1],rfl,e.1,[e.2.1],rfl,?_,e.2.1,[],rfl,?_,rfl⟩
     ·have:m.getD (dn.getLastD 0) (kk.dflt,vk.dflt)=m[dn.getLastD 0]:=by rw[List.getD_eq_getElem?_getD,List.getElem?_eq_getElem hr];rfl
      rw[this];exact JO k1
     ·have:m.getD (dn.getLastD 0) (kk.dflt,vk.dflt)=m[dn.getLastD 0]:=by rw[List.getD_eq_getElem?_getD,List.getElem?_eq_getElem hr];rfl
      rw[this];exact k2
   ·cases h
  ·cases h
 ·cases h
theorem LO (ai:∀ x,SR P B pl tb (ev x) (evV x)) (gi:∀ c,evV (.const c)=c) (hle:B.Le σ) (az:∀ d,OR P B pl tb σ (pl d) (Qc own d)) {o:VOp}(h:gq kt raw o ev own=some (cs,v)) (hc:∀ c∈cs,c):QOk P B pl tb σ o evV v:=by
 cases o with
 |move x=>obtain⟨rfl,rfl⟩:=Z8 h;exact⟨evV x,rfl,ai x⟩
 |arith=>exact Q6i ai h hc
 |div=>exact Z27 ai h hc
 |bits=>exact Z0v ai h
 |shift=>exact Q5y ai h hc
 |cmp=>exact Z1d ai h
 |str=>exact Z24 ai h hc
 |eqB=>exact Z1i ai h
 |un=>exact Z43 ai h hc
 |convI=>exact Q5t ai h hc
 |convS=>exact Q6f ai h
 |build=>exact Q5s ai h
 |load=>exact Q9l ai hle az h
 |fieldAddr=>exact FE ai h
 |field=>exact Q77 ai h
 |indexAddr=>exact Ff ai hle az h hc
 |indexAddrArr=>exact Sa ai gi h
 |indexStr=>exact IU ai h hc
 |indexArr=>exact Ow ai gi h
 |slice=>exact Q6q ai hle az h hc
 |sliceStr=>exact On ai h hc
 |len=>exact Z1q ai az h
 |lenStr=>exact Q4n ai h
 |max=>exact Z2g ai h
 |max4=>exact Q7z ai h
 |min=>exact Z2e ai h
 |makeFunc=>exact OD ai h
 |extract=>exact Q2v ai h
 |nilCheck=>exact OP ai h
 |ext x =>
  cases x with
  |eqNil k neg a b =>
   match k with
   |1=>exact Q64 ai az h hc
   |0=>exact Q3d ai az h hc
   |(n+2)=>cases h
  |eqAgg n s a b=>exact Q6j ai h
  |toUnsafe a=>exact I_ ai az h
  |fromUnsafe u size a=>exact AQ ai az h
  |sliceData a=>exact Fg ai az h hc
  |bytesStr a=>exact IM ai hle az h
  |lookup=>exact Q3k ai hle az h
  |lenMap=>exact Q3p ai az h
  |entry a=>exact Q6h ai hle az h hc
  |_=>cases h
 |_=>cases h
end
end
end Go.V