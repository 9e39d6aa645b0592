/- A framework for walks, contracts of functions, and their proofs: part 1. -/
import Derived.WalkKit
import Derived.Lib.Builder
import Derived.Lib.UnsafeStr
import Derived.DeepKeys
theorem Go.osj.{u} {α:Type u} {a b:α}:some a=some b→a=b:=Option.some.inj
namespace Go.V
open Go
def OM:Nat→Option (List Value):=fun _=>none
structure El where
 sz:Nat
 ty:Nat
 deriving DecidableEq,Inhabited
inductive VObj where
 |map (es:List (Value×Value×Nat)) (clock:Nat)
 |iter (m since:Nat) (seen:List Nat) (last:Nat)
 |lp (env:List Value) (r:Loop) (st:LoopState) (pend:Option Code)
 deriving Inhabited
inductive Blk where
 |cells (c:List Value) (esz:El) (wr tight:Bool)
 |obj (o:VObj) (wr:Bool)
 deriving Inhabited
def Blk.wr:Blk→Bool
 |.cells _ _ w _=>w
 |.obj _ w=>w
structure Heap where
 get:Nat→Option Blk
 n:Nat
 wf:∀ i,n≤i→get i=none
theorem Heap.lt (σ:Heap) {i:Nat}{b:Blk}(h:σ.get i=some b):i<σ.n:=by
 rcases Nat.lt_or_ge i σ.n with h'|h'
 ·exact h'
 ·rw[σ.wf i h'] at h;cases h
def Heap.push (σ:Heap) (b:Blk):Heap where
 get i:=if i=σ.n then some b else σ.get i
 n:=σ.n+1
 wf i h:=by rw[if_neg (by omega)];exact σ.wf i (by omega)
def Heap.upd (σ:Heap) (i:Nat) (b:Blk):Heap where
 get j:=if j=i∧i<σ.n then some b else σ.get j
 n:=σ.n
 wf j h:=by rw[if_neg (by omega)];exact σ.wf j h
def Heap.kill (σ:Heap) (i:Nat):Heap where
 get j:=if j=i then none else σ.get j
 n:=σ.n
 wf j h:=by split;rfl;exact σ.wf j h
@[simp] theorem Heap.push_n (σ:Heap) (b:Blk):(σ.push b).n=σ.n+1:=rfl
@[simp] theorem Heap.upd_n (σ:Heap) (i:Nat) (b:Blk):(σ.upd i b).n=σ.n:=rfl
@[simp] theorem Heap.kill_n (σ:Heap) (i:Nat):(σ.kill i).n=σ.n:=rfl
theorem Heap.get_push_self (σ:Heap) (b:Blk):(σ.push b).get σ.n=some b:=by simp[Heap.push]
theorem Heap.get_push_ne (σ:Heap) (b:Blk) {i:Nat}(h:i≠σ.n):(σ.push b).get i=σ.get i:=by simp[Heap.push,h]
theorem Heap.get_push_lt (σ:Heap) (b:Blk) {i:Nat}(h:i<σ.n):(σ.push b).get i=σ.get i:=σ.get_push_ne b (Nat.ne_of_lt h)
theorem Heap.get_upd_self (σ:Heap) (b:Blk) {i:Nat}(h:i<σ.n):(σ.upd i b).get i=some b:=by simp[Heap.upd,h]
theorem Heap.get_upd_ne (σ:Heap) (b:Blk) {i j:Nat}(h:j≠i):(σ.upd i b).get j=σ.get j:=by simp[Heap.upd,h]
theorem Heap.get_kill_self (σ:Heap) (i:Nat):(σ.kill i).get i=none:=by simp[Heap.kill]
theorem Heap.get_kill_ne (σ:Heap) {i j:Nat}(h:j≠i):(σ.kill i).get j=σ.get j:=by simp[Heap.kill,h]
structure Pl where
 blk:Nat
 shift:Nat
 ext:Nat
 esz:El
 tight:Bool
abbrev Plc:=Nat→Option Pl
def poison:Value:=.chan none
inductive VRel (ρ:Plc) (n:Nat):Value→Value→Prop
 |poison (c:Value):VRel ρ n poison c
 |bool (b:Bool):VRel ρ n (.bool b) (.bool b)
 |int (k:IntKind) (x:Int):VRel ρ n (.int k x) (.int k x)
 |string (s:ByteArray):VRel ρ n (.string s) (.string s)
 |nilPtr:VRel ρ n (.pointer none) (.pointer none)
 |nilSl:VRel ρ n (.slice none 0 0) (.slice none 0 0)
 |nilMap:VRel ρ n (.map none) (.map none)
 |nilFunc:VRel ρ n .nilFunc .nilFunc
 |nilIface:VRel ρ n .nilIface .nilIface
 |glob (g o s:Nat):VRel ρ n (.pointer (some ⟨g,o,some s⟩)) (.pointer (some ⟨g,o,none⟩))
 |ptr (i o:Nat) (a:Addr) (hi:i<n) (h:∀ p,ρ i=some p→a=⟨p.blk,p.shift+o,none⟩):VRel ρ n (.pointer (some ⟨i,o,none⟩)) (.pointer (some a))
 |sl (i o len cap:Nat) (a:Addr) (au:Nat) (hi:i<n)
   (h:∀ p,ρ i=some p→cap≤au∧(p.tight=true→au=cap)∧∃ o',a=⟨p.blk,p.shift+o',none⟩∧o'+au*p.esz.sz≤p.ext∧(o'=o∨(len=0∧cap=0))) :
   VRel ρ n (.slice (some ⟨i,o,none⟩) len cap) (.slice (some a) len au)
 |slx (i o len cap:Nat) (a:Addr) (hi:i<n) (h:∀ p,ρ i=some p→a=⟨p.blk,p.shift+o,none⟩∧o+cap*p.esz.sz≤p.ext) :
   VRel ρ n (.slice (some ⟨i,o,some 0⟩) len cap) (.slice (some a) len cap)
 |map (i r:Nat) (hi:i<n) (h:∀ p,ρ i=some p→r=p.blk):VRel ρ n (.map (some i)) (.map (some r))
 |yield (i r:Nat) (hi:i<n) (h:∀ p,ρ i=some p→r=p.blk):VRel ρ n (.func (.yield i) #[] #[]) (.func (.yield r) #[] #[])
 |iface (t:TypeId) (v c:Value) (h:VRel ρ n v c):VRel ρ n (.iface t v) (.iface t c)
 |func (fn:FuncId) (fs gs cs ds:Array Value) (hf:fs.size=gs.size) (hc:cs.size=ds.size)
   (h1:∀ i (h1:i<fs.size) (h2:i<gs.size),VRel ρ n fs[i] gs[i]) (h2:∀ i (h1:i<cs.size) (h2:i<ds.size),VRel ρ n cs[i] ds[i]):VRel ρ n (.func (.func fn) fs cs) (.func (.func fn) gs ds)
 |agg (cs ds:Array Value) (hc:cs.size=ds.size) (h:∀ i (h1:i<cs.size) (h2:i<ds.size),VRel ρ n cs[i] ds[i]):VRel ρ n (.agg cs) (.agg ds)
 |tuple (cs ds:Array Value) (hc:cs.size=ds.size) (h:∀ i (h1:i<cs.size) (h2:i<ds.size),VRel ρ n cs[i] ds[i]):VRel ρ n (.tuple cs) (.tuple ds)
theorem VRel.mono {ρ ρ':Plc}{n n':Nat}(hn:n≤n') (hρ:∀ i,i<n→∀ p,ρ' i=some p→ρ i=some p) {v c:Value}(h:VRel ρ n v c):VRel ρ' n' v c:=by
 induction h with
 |poison c=>exact .poison c
 |bool b=>exact .bool b
 |int k x=>exact .int k x
 |string s=>exact .string s
 |nilPtr=>exact .nilPtr
 |nilSl=>exact .nilSl
 |nilMap=>exact .nilMap
 |nilFunc=>exact .nilFunc
 |nilIface=>exact .nilIface
 |glob g o s=>exact .glob g o s
 |ptr i o a hi h=>exact .ptr i o a (by omega) fun p hp=>h p (hρ i hi p hp)
 |sl i o len cap a au hi h=>exact .sl i o len cap a au (by omega) fun p hp=>h p (hρ i hi p hp)
 |slx i o len cap a hi h=>exact .slx i o len cap a (by omega) fun p hp=>h p (hρ i hi p hp)
 |map i r hi h=>exact .map i r (by omega) fun p hp=>h p (hρ i hi p hp)
 |yield i r hi h=>exact .yield i r (by omega) fun p hp=>h p (hρ i hi p hp)
 |iface t v c _ ih=>exact .iface t v c ih
 |func fn fs gs cs ds hf hc _ _ j8 j9=>exact .func fn fs gs cs ds hf hc j8 j9
 |agg cs ds hc _ ih=>exact .agg cs ds hc ih
 |tuple cs ds hc _ ih=>exact .tuple cs ds hc ih
def LRel (ρ:Plc) (n:Nat) (vs cs:List Value):Prop:=vs.length=cs.length∧∀ (i:Nat) (v c:Value),vs[i]?=some v→cs[i]?=some c→VRel ρ n v c
theorem LRel.mono {ρ ρ':Plc}{n n':Nat}(hn:n≤n') (hρ:∀ i,i<n→∀ p,ρ' i=some p→ρ i=some p) {v c:List Value}(h:LRel ρ n v c):LRel ρ' n' v c :=
 ⟨h.1,fun i v c hv hc=>(h.2 i v c hv hc).mono hn hρ⟩
theorem LRel.nil (ρ:Plc) (n:Nat):LRel ρ n [] []:=⟨rfl,fun i v c h _=>by simp at h⟩
theorem LRel.cons {ρ:Plc}{n:Nat}{v c:Value}{vs cs:List Value}(h:VRel ρ n v c) (hs:LRel ρ n vs cs):LRel ρ n (v::vs) (c::cs):=by
 refine⟨by simp[hs.1],fun i v' c' hv hc=>?_⟩;cases i with
 |zero=>simp at hv hc;subst hv;subst hc;exact h
 |succ i=>simp at hv hc;exact hs.2 i v' c' hv hc
theorem LRel.get {ρ:Plc}{n:Nat}{vs cs:List Value}(h:LRel ρ n vs cs) {i:Nat}{v:Value}(hv:vs[i]?=some v):∃ c,cs[i]?=some c∧VRel ρ n v c:=by
 have ai:i<vs.length:=(List.getElem?_eq_some_iff.1 hv).1;have bW:i<cs.length:=by have:=h.1;omega
 exact⟨cs[i],List.getElem?_eq_getElem bW,h.2 i v _ hv (List.getElem?_eq_getElem bW)⟩
theorem LRel.set {ρ:Plc}{n:Nat}{vs cs:List Value}(h:LRel ρ n vs cs) (i:Nat) {v c:Value}(hv:VRel ρ n v c):LRel ρ n (vs.set i v) (cs.set i c):=by
 refine⟨by simp[h.1],fun j v' c' h1 h2=>?_⟩;rw[List.getElem?_set] at h1 h2;by_cases b8:i=j
 ·subst b8;simp only[if_true] at h1 h2;split at h1<;>split at h2<;>simp at h1 h2;subst h1;subst h2;exact hv
 ·simp only[b8,if_false] at h1 h2;exact h.2 j v' c' h1 h2
theorem LRel.append {ρ:Plc}{n:Nat}{vs cs cJ cs':List Value}(h:LRel ρ n vs cs) (h':LRel ρ n cJ cs'):LRel ρ n (vs++cJ) (cs++cs'):=by
 refine⟨by simp[h.1,h'.1],fun i v c hv hc=>?_⟩;have e:=h.1;rw[List.getElem?_append] at hv hc;split at hv<;>split at hc<;>try omega
 ·exact h.2 i v c hv hc
 ·rw[e] at hv;exact h'.2 _ v c hv hc
theorem VRel.agg_of {ρ:Plc}{n:Nat}{cs ds:List Value}(h:LRel ρ n cs ds):VRel ρ n (.agg cs.toArray) (.agg ds.toArray) :=
 .agg _ _ (by simpa using h.1) fun i h1 h2=>h.2 i _ _ (by simp) (by simp)
theorem VRel.tuple_of {ρ:Plc}{n:Nat}{cs ds:List Value}(h:LRel ρ n cs ds):VRel ρ n (.tuple cs.toArray) (.tuple ds.toArray) :=
 .tuple _ _ (by simpa using h.1) fun i h1 h2=>h.2 i _ _ (by simp) (by simp)
theorem LRel.of_array {ρ:Plc}{n:Nat}{cs ds:Array Value}(hc:cs.size=ds.size) (h:∀ i (h1:i<cs.size) (h2:i<ds.size),VRel ρ n cs[i] ds[i]):LRel ρ n cs.toList ds.toList:=by refine⟨by simpa using hc,fun i v c hv cK=>?_⟩;obtain⟨h1,rfl⟩:=List.getElem?_eq_some_iff.1 hv;obtain⟨h2,rfl⟩:=List.getElem?_eq_some_iff.1 cK;exact h i (by simpa using h1) (by simpa using h2)
def ORel (ρ:Plc) (n:Nat):VObj→Obj→Prop
 |.map es clock,o=>∃ entries,o=.map entries clock∧entries.size=es.length ∧
   ∀ (k:Nat) (kv:Value×Value×Nat),es[k]?=some kv→∃ e:MapEntry,entries[k]?=some e∧e.key=kv.1∧e.born=kv.2.2∧VRel ρ n kv.2.1 e.val
 |.iter m since seen last,o=>∃ rm,o=.mapIter (some rm) since seen.toArray last∧VRel ρ n (.map (some m)) (.map (some rm))
 |.lp env r st pend,o=>o=.loop {r with state:=st,pending:=pend}∧LRel ρ n env r.tmps.toList
def BRel (ρ:Plc) (n:Nat) (p:Pl) (w:World):Blk→Prop
 |.cells c esz wr tight=>p.esz=esz∧p.tight=tight∧c.length≤p.ext ∧
   (∃ C e f,w.heap[p.blk]?=some (.cells C e f)∧p.shift+p.ext≤C.size∧e=esz.ty) ∧
   (∀ (k:Nat) (v:Value),c[k]?=some v→∃ u,w.cell? ⟨p.blk,p.shift+k,none⟩=some u∧VRel ρ n v u) ∧
   (wr=true→(tight=true→p.shift=0)∧∀ k,k<p.ext→w.frozen? ⟨p.blk,p.shift+k,none⟩=false)
 |.obj o _=>(p.ext=1∧p.shift=0)∧∃ O,w.heap[p.blk]?=some O∧ORel ρ n o O
structure HRel0 (ρ:Plc) (σ:Heap) (w:World):Prop where
 live:∀ i b,σ.get i=some b→∃ p,ρ i=some p∧BRel ρ σ.n p w b
 dead:∀ i,σ.get i=none→ρ i=none
 lt:∀ i p,ρ i=some p→p.blk<w.heap.size
 sep:∀ i j p q b,i≠j→ρ i=some p→ρ j=some q→σ.get i=some b→b.wr=true→0<q.ext→p.blk≠q.blk
theorem HRel0.idlt {ρ:Plc}{σ:Heap}{w:World}(h:HRel0 ρ σ w) {i:Nat}{p:Pl}(hp:ρ i=some p):i<σ.n:=by
 cases hb:σ.get i with
 |none=>rw[h.dead i hb] at hp;cases hp
 |some b=>exact σ.lt hb
def Wr (ρ:Plc) (σ:Heap) (B:Nat):Prop:=∃ i p b,ρ i=some p∧σ.get i=some b∧b.wr=true∧p.blk=B
structure Ext (ρ:Plc) (σ:Heap) (w:World) (ρ':Plc) (σ':Heap) (w':World):Prop where
 os:w'.os=w.os
 tape:w'.tape=w.tape
 output:w'.output=w.output
 size:w.heap.size≤w'.heap.size
 keep:∀ B,B<w.heap.size→¬ Wr ρ σ B→w'.heap[B]?=w.heap[B]?
 wr:∀ B,B<w.heap.size→Wr ρ' σ' B→Wr ρ σ B
 n:σ.n≤σ'.n
 pl:∀ i,i<σ.n→∀ p,ρ' i=some p→ρ i=some p
theorem Ext.refl (ρ:Plc) (σ:Heap) (w:World):Ext ρ σ w ρ σ w :=
 ⟨rfl,rfl,rfl,Nat.le_refl _,fun _ _ _=>rfl,fun _ _ h=>h,Nat.le_refl _,fun _ _ _ h=>h⟩
theorem Ext.trans {ρ ρ' eu:Plc}{σ σ' aC:Heap}{w w' n9:World}(h:Ext ρ σ w ρ' σ' w') (k:Ext ρ' σ' w' eu aC n9):Ext ρ σ w eu aC n9 where
 os:=k.os.trans h.os
 tape:=k.tape.trans h.tape
 output:=k.output.trans h.output
 size:=Nat.le_trans h.size k.size
 keep B hB hW:=(k.keep B (Nat.lt_of_lt_of_le hB h.size) (fun hw=>hW (h.wr B hB hw))).trans (h.keep B hB hW)
 wr B hB hW:=h.wr B hB (k.wr B (Nat.lt_of_lt_of_le hB h.size) hW)
 n:=Nat.le_trans h.n k.n
 pl i hi p hp:=h.pl i hi p (k.pl i (Nat.lt_of_lt_of_le hi h.n) p hp)
theorem Ext.lrel {ρ ρ':Plc}{σ σ':Heap}{w w':World}(h:Ext ρ σ w ρ' σ' w') {v c:List Value}(hv:LRel ρ σ.n v c):LRel ρ' σ'.n v c:=hv.mono h.n h.pl
theorem ORel.mono {ρ ρ':Plc}{n n':Nat}(hn:n≤n') (hρ:∀ i,i<n→∀ p,ρ' i=some p→ρ i=some p) {o:VObj}{O:Obj}(h:ORel ρ n o O):ORel ρ' n' o O:=by
 cases o with
 |map es clock =>obtain⟨entries,h1,h2,h3⟩:=h;exact⟨entries,h1,h2,fun k kv hk=>let ⟨e,he,h4,h5,hv⟩:=h3 k kv hk;⟨e,he,h4,h5,hv.mono hn hρ⟩⟩
 |iter m since seen last=>obtain⟨rm,h1,h2⟩:=h;exact⟨rm,h1,h2.mono hn hρ⟩
 |lp env r st pend=>exact⟨h.1,h.2.mono hn hρ⟩
theorem ORel.not_cells {ρ:Plc}{n:Nat}{o:VObj}{C:Array Value}{e:TypeId}{f:Nat×Nat}:¬ ORel ρ n o (.cells C e f):=by
 cases o with
 |map es clock=>rintro⟨_,h,_⟩;cases h
 |iter m since seen last=>rintro⟨_,h,_⟩;cases h
 |lp env r st pend=>rintro⟨h,_⟩;cases h
theorem ORel.not_deferred {ρ:Plc}{n:Nat}{o:VObj}{d:Option (List Deferred)}:¬ ORel ρ n o (.deferred d):=by
 cases o with
 |map es clock=>rintro⟨_,h,_⟩;cases h
 |iter m since seen last=>rintro⟨_,h,_⟩;cases h
 |lp env r st pend=>rintro⟨h,_⟩;cases h
theorem BRel.mono {ρ ρ':Plc}{n n':Nat}(hn:n≤n') (hρ:∀ i,i<n→∀ p,ρ' i=some p→ρ i=some p) {p:Pl}{w w':World}(hw:w'.heap[p.blk]?=w.heap[p.blk]?) {b:Blk}(h:BRel ρ n p w b):BRel ρ' n' p w' b:=by
 cases b with
 |cells c esz wr tight =>
  obtain⟨h1,h2,h3,h4,h5,h6⟩:=h;refine⟨h1,h2,h3,by rw[hw];exact h4,fun k v hk=>?_,fun gm=>⟨(h6 gm).1,fun k hk=>?_⟩⟩
  ·obtain⟨u,hu,hv⟩:=h5 k v hk;exact⟨u,by rw[World.cell?_of_block (a:=⟨p.blk,p.shift+k,none⟩) hw];exact hu,hv.mono hn hρ⟩
  ·rw[World.frozen?_of_block (a:=⟨p.blk,p.shift+k,none⟩) hw];exact(h6 gm).2 k hk
 |obj o wr =>obtain⟨h0,O,h1,h2⟩:=h;exact⟨h0,O,by rw[hw];exact h1,h2.mono hn hρ⟩
theorem HRel0.world {ρ:Plc}{σ:Heap}{w w':World}(h:HRel0 ρ σ w) (hs:w.heap.size≤w'.heap.size) (hb:∀ i p,ρ i=some p→w'.heap[p.blk]?=w.heap[p.blk]?):HRel0 ρ σ w' where
 live i b hi:=by obtain⟨p,hp,hB⟩:=h.live i b hi;exact⟨p,hp,hB.mono (Nat.le_refl _) (fun _ _ _ h=>h) (hb i p hp)⟩
 dead:=h.dead
 lt i p hp:=Nat.lt_of_lt_of_le (h.lt i p hp) hs
 sep:=h.sep
theorem HRel0.drew {ρ:Plc}{σ:Heap}{w:World}(h:HRel0 ρ σ w):HRel0 ρ σ w.drew:=h.world (Nat.le_refl _) (fun _ _ _=>rfl)
theorem Ext.drew (ρ:Plc) (σ:Heap) (w:World):Ext ρ σ w ρ σ w.drew :=
 ⟨rfl,rfl,rfl,Nat.le_refl _,fun _ _ _=>rfl,fun _ _ h=>h,Nat.le_refl _,fun _ _ _ h=>h⟩
def Plc.put (ρ:Plc) (i:Nat) (p:Option Pl):Plc:=fun j=>if j=i then p else ρ j
theorem HRel0.alloc {ρ:Plc}{σ:Heap}{w:World}(h:HRel0 ρ σ w) (c:List Value) (C:Array Value) (e:TypeId) (esz:El) (tight:Bool) (he:e=esz.ty)
  (hc:LRel ρ σ.n c (C.toList.take c.length)) (hl:c.length≤C.size) :
  ∃ ρ',ρ' σ.n=some ⟨w.heap.size,0,C.size,esz,tight⟩∧HRel0 ρ' (σ.push (.cells c esz true tight)) (w.alloc (.cells C e))∧Ext ρ σ w ρ' (σ.push (.cells c esz true tight)) (w.alloc (.cells C e)):=by
 have hold:∀ k,k<w.heap.size→(w.alloc (.cells C e)).heap[k]?=w.heap[k]?:=fun k hk=>by show (w.heap.push _)[k]?=_;rw[Array.getElem?_push,if_neg (by omega)]
 have aI:(w.alloc (.cells C e)).heap.size=w.heap.size+1:=World.size_alloc w _;have aT:∀ i,i<σ.n→∀ p,(ρ.put σ.n (some ⟨w.heap.size,0,C.size,esz,tight⟩)) i=some p→ρ i=some p:=fun i hi p hp=>by unfold Plc.put at hp;rwa [if_neg (by omega)] at hp
 refine⟨ρ.put σ.n (some ⟨w.heap.size,0,C.size,esz,tight⟩),by simp[Plc.put],⟨?_,?_,?_,?_⟩,⟨rfl,rfl,rfl,by omega,fun B hB _=>hold B hB,?_,by simp,aT⟩⟩
 ·intro i b hb;by_cases hi:i=σ.n
  ·subst hi;rw[Heap.get_push_self] at hb;obtain rfl:=osj hb;refine⟨⟨w.heap.size,0,C.size,esz,tight⟩,by simp[Plc.put],rfl,rfl,hl,⟨C,e,(0,0),?_,by simp,he⟩,fun k v hk=>?_,fun _=>⟨fun _=>rfl,fun k _=>?_⟩⟩
   ·show (w.heap.push _)[w.heap.size]?=_;simp
   ·obtain⟨u,hu,hv⟩:=hc.get hk;have a_:k<c.length:=(List.getElem?_eq_some_iff.1 hk).1;refine⟨u,?_,hv.mono (by simp) aT⟩;rw[Nat.zero_add,World.cell?_alloc_new];rw[List.getElem?_take,if_pos a_] at hu;simpa using hu
   ·rw[Nat.zero_add];exact World.frozen?_alloc_new w C e k
  ·rw[Heap.get_push_ne _ _ hi] at hb;obtain⟨p,hp,hB⟩:=h.live i b hb;exact⟨p,by simp[Plc.put,hi,hp],hB.mono (by simp) aT (hold _ (h.lt i p hp))⟩
 ·intro i hi;by_cases aM:i=σ.n
  ·subst aM;rw[Heap.get_push_self] at hi;cases hi
  ·rw[Heap.get_push_ne _ _ aM] at hi;simp[Plc.put,aM,h.dead i hi]
 ·intro i p hp;by_cases hi:i=σ.n
  ·subst hi;simp[Plc.put] at hp;subst hp;simp
  ·simp[Plc.put,hi] at hp;have:=h.lt i p hp;omega
 ·intro i j p q b b8 hp hq hb hw hx;by_cases hi:i=σ.n
  ·subst hi;simp[Plc.put] at hp;subst hp;simp[Plc.put,Ne.symm b8] at hq;have:=h.lt j q hq;intro e;simp at e;omega
  ·simp[Plc.put,hi] at hp;rw[Heap.get_push_ne _ _ hi] at hb;by_cases hj:j=σ.n
   ·subst hj;simp[Plc.put] at hq;subst hq;have:=h.lt i p hp;intro e;simp at e;omega
   ·simp[Plc.put,hj] at hq;exact h.sep i j p q b b8 hp hq hb hw hx
 ·rintro B hB ⟨i,p,b,hp,hb,hw,rfl⟩;by_cases hi:i=σ.n
  ·subst hi;simp[Plc.put] at hp;subst hp;simp at hB
  ·simp[Plc.put,hi] at hp;rw[Heap.get_push_ne _ _ hi] at hb;exact⟨i,p,b,hp,hb,hw,rfl⟩
theorem HRel0.newObj {ρ:Plc}{σ:Heap}{w:World}(h:HRel0 ρ σ w) (o:VObj) (O:Obj) (ho:ORel ρ σ.n o O) :
  ∃ ρ',ρ' σ.n=some ⟨w.heap.size,0,1,default,true⟩∧HRel0 ρ' (σ.push (.obj o true)) (w.alloc O)∧Ext ρ σ w ρ' (σ.push (.obj o true)) (w.alloc O):=by
 have hold:∀ k,k<w.heap.size→(w.alloc O).heap[k]?=w.heap[k]?:=fun k hk=>by show (w.heap.push _)[k]?=_;rw[Array.getElem?_push,if_neg (by omega)]
 have aI:(w.alloc O).heap.size=w.heap.size+1:=World.size_alloc w _;have aT:∀ i,i<σ.n→∀ p,(ρ.put σ.n (some ⟨w.heap.size,0,1,default,true⟩)) i=some p→ρ i=some p:=fun i hi p hp=>by unfold Plc.put at hp;rwa [if_neg (by omega)] at hp
 refine⟨ρ.put σ.n (some ⟨w.heap.size,0,1,default,true⟩),by simp[Plc.put],⟨?_,?_,?_,?_⟩,⟨rfl,rfl,rfl,by omega,fun B hB _=>hold B hB,?_,by simp,aT⟩⟩
 ·intro i b hb;by_cases hi:i=σ.n
  ·subst hi;rw[Heap.get_push_self] at hb;obtain rfl:=osj hb;refine⟨⟨w.heap.size,0,1,default,true⟩,by simp[Plc.put],⟨rfl,rfl⟩,O,?_,ho.mono (by simp) aT⟩;show (w.heap.push _)[w.heap.size]?=_;simp
  ·rw[Heap.get_push_ne _ _ hi] at hb;obtain⟨p,hp,hB⟩:=h.live i b hb;exact⟨p,by simp[Plc.put,hi,hp],hB.mono (by simp) aT (hold _ (h.lt i p hp))⟩
 ·intro i hi;by_cases aM:i=σ.n
  ·subst aM;rw[Heap.get_push_self] at hi;cases hi
  ·rw[Heap.get_push_ne _ _ aM] at hi;simp[Plc.put,aM,h.dead i hi]
 ·intro i p hp;by_cases hi:i=σ.n
  ·subst hi;simp[Plc.put] at hp;subst hp;simp
  ·simp[Plc.put,hi] at hp;have:=h.lt i p hp;omega
 ·intro i j p q b b8 hp hq hb hw hx;by_cases hi:i=σ.n
  ·subst hi;simp[Plc.put] at hp;subst hp;simp[Plc.put,Ne.symm b8] at hq;have:=h.lt j q hq;intro e;simp at e;omega
  ·simp[Plc.put,hi] at hp;rw[Heap.get_push_ne _ _ hi] at hb;by_cases hj:j=σ.n
   ·subst hj;simp[Plc.put] at hq;subst hq;have:=h.lt i p hp;intro e;simp at e;omega
   ·simp[Plc.put,hj] at hq;exact h.sep i j p q b b8 hp hq hb hw hx
 ·rintro B hB ⟨i,p,b,hp,hb,hw,rfl⟩;by_cases hi:i=σ.n
  ·subst hi;simp[Plc.put] at hp;subst hp;simp at hB
  ·simp[Plc.put,hi] at hp;rw[Heap.get_push_ne _ _ hi] at hb;exact⟨i,p,b,hp,hb,hw,rfl⟩
def Hc (w:World) (b:Nat) (O:Obj):World:={w with heap:=w.heap.setIfInBounds b O}
theorem YE (w:World) (b:Nat) (O:Obj) (k:Nat) (h:k≠b):(Hc w b O).heap[k]?=w.heap[k]?:=by simp only[Hc];rw[Array.getElem?_setIfInBounds_ne (Ne.symm h)]
theorem Fv (w:World) (b:Nat) (O:Obj) (h:b<w.heap.size):(Hc w b O).heap[b]?=some O:=by simp only[Hc];rw[Array.getElem?_setIfInBounds_self_of_lt h]
theorem GG (w:World) (b:Nat) (O:Obj):(Hc w b O).heap.size=w.heap.size:=by simp[Hc]
theorem HRel0.setObj {ρ:Plc}{σ:Heap}{w:World}(h:HRel0 ρ σ w) {i:Nat}{p:Pl}{o:VObj}(hp:ρ i=some p) (hb:σ.get i=some (.obj o true)) {o':VObj}{O':Obj}(ho:ORel ρ σ.n o' O') :
  HRel0 ρ (σ.upd i (.obj o' true)) (Hc w p.blk O')∧Ext ρ σ w ρ (σ.upd i (.obj o' true)) (Hc w p.blk O'):=by
 have hi:=σ.lt hb;obtain⟨p',bg,h0,O,h1,h2⟩:=h.live i _ hb;obtain rfl:p=p':=osj (hp.symm.trans bg);have ai:=h.lt i p hp;refine⟨⟨fun j b hj=>?_,fun j hj=>?_,fun j q hq=>by rw[GG];exact h.lt j q hq,fun j k q r b ew hq hr b9 hw hx=>?_⟩,?_⟩
 ·by_cases aJ:j=i
  ·subst aJ;rw[Heap.get_upd_self _ _ hi] at hj;obtain rfl:=osj hj;exact⟨p,hp,h0,O',Fv _ _ _ ai,ho⟩
  ·rw[Heap.get_upd_ne _ _ aJ] at hj;obtain⟨q,hq,fw⟩:=h.live j b hj;refine⟨q,hq,?_⟩;by_cases hk:q.blk=p.blk
   ·have hx:q.ext=0:=by
     rcases Nat.eq_zero_or_pos q.ext with h'|h'
     ·exact h'
     ·exact absurd hk.symm (h.sep i j p q _ (Ne.symm aJ) hp hq hb rfl h')
    cases b with
    |cells c esz wr tight =>obtain⟨_,_,_,⟨C,e,f,k1,_⟩,_⟩:=fw;rw[hk,h1] at k1;obtain rfl:=osj k1;exact absurd h2 ORel.not_cells
    |obj o2 wr=>have:=fw.1;omega
   ·exact fw.mono (Nat.le_refl _) (fun _ _ _ h=>h) (YE _ _ _ _ hk)
 ·by_cases aJ:j=i
  ·subst aJ;rw[Heap.get_upd_self _ _ hi] at hj;cases hj
  ·rw[Heap.get_upd_ne _ _ aJ] at hj;exact h.dead j hj
 ·by_cases aJ:j=i
  ·subst aJ;exact h.sep j k q r _ ew hq hr hb rfl hx
  ·rw[Heap.get_upd_ne _ _ aJ] at b9;exact h.sep j k q r b ew hq hr b9 hw hx
 ·refine⟨rfl,rfl,rfl,by rw[GG];exact Nat.le_refl _,fun B hB hW=>YE _ _ _ _ (fun e=>hW ⟨i,p,_,hp,hb,rfl,e.symm⟩),?_,Nat.le_refl _,fun _ _ _ h=>h⟩;rintro B _ ⟨j,q,b,hq,cY,hw,rfl⟩;by_cases aJ:j=i
  ·subst aJ;exact⟨j,q,_,hq,hb,rfl,rfl⟩
  ·rw[Heap.get_upd_ne _ _ aJ] at cY;exact⟨j,q,b,hq,cY,hw,rfl⟩
theorem HRel0.not_deferred {ρ:Plc}{σ:Heap}{w:World}(h:HRel0 ρ σ w) {D:Nat}{d:Option (List Deferred)}(hD:w.heap[D]?=some (.deferred d)) (i:Nat) (p:Pl) (hp:ρ i=some p):p.blk≠D:=by
 rintro rfl;cases hb:σ.get i with
 |none=>rw[h.dead i hb] at hp;cases hp
 |some b =>
  obtain⟨p',bg,hB⟩:=h.live i b hb;obtain rfl:p=p':=osj (hp.symm.trans bg);cases b with
  |cells c esz wr tight =>obtain⟨_,_,_,⟨C,e,f,k1,_⟩,_⟩:=hB;rw[hD] at k1;cases k1
  |obj o wr =>obtain⟨_,O,k1,k2⟩:=hB;rw[hD] at k1;obtain rfl:=osj k1;exact ORel.not_deferred k2
theorem HRel0.kill {ρ:Plc}{σ:Heap}{w:World}(h:HRel0 ρ σ w) (i:Nat):HRel0 (ρ.put i none) (σ.kill i) w∧Ext ρ σ w (ρ.put i none) (σ.kill i) w:=by
 have aT:∀ j,∀ p,(ρ.put i none) j=some p→ρ j=some p∧j≠i:=fun j p hp=>by unfold Plc.put at hp;split at hp<;>simp_all
 refine⟨⟨fun j b hb=>?_,fun j hj=>?_,fun j p hp=>h.lt j p (aT j p hp).1,fun j k p q b ew hp hq hb hw hx=>?_⟩,⟨rfl,rfl,rfl,Nat.le_refl _,fun _ _ _=>rfl,?_,Nat.le_refl _,fun j _ p hp=>(aT j p hp).1⟩⟩
 ·by_cases aJ:j=i
  ·subst aJ;rw[Heap.get_kill_self] at hb;cases hb
  ·rw[Heap.get_kill_ne _ aJ] at hb;obtain⟨p,hp,hB⟩:=h.live j b hb;exact⟨p,by simp[Plc.put,aJ,hp],hB.mono (Nat.le_refl _) (fun k _ p hp=>(aT k p hp).1) rfl⟩
 ·by_cases aJ:j=i
  ·simp[Plc.put,aJ]
  ·rw[Heap.get_kill_ne _ aJ] at hj;simp[Plc.put,aJ,h.dead j hj]
 ·obtain⟨bg,aJ⟩:=aT j p hp;rw[Heap.get_kill_ne _ aJ] at hb;exact h.sep j k p q b ew bg (aT k q hq).1 hb hw hx
 ·rintro B _ ⟨j,p,b,hp,hb,hw,rfl⟩;obtain⟨bg,aJ⟩:=aT j p hp;rw[Heap.get_kill_ne _ aJ] at hb;exact⟨j,p,b,bg,hb,hw,rfl⟩
def GTabs (ρ:Plc) (σ:Heap) (w:World):Prop:=∀ g cs,OM g=some cs→(∃ e f,w.heap[g]?=some (.cells cs.toArray e f))∧¬ Wr ρ σ g
theorem GTabs.lt {ρ:Plc}{σ:Heap}{w:World}(h:GTabs ρ σ w) {g:Nat}{cs:List Value}(hg:OM g=some cs):g<w.heap.size:=by obtain⟨⟨e,f,h1⟩,_⟩:=h g cs hg;exact(Array.getElem?_eq_some_iff.1 h1).1
theorem GTabs.ext {ρ ρ':Plc}{σ σ':Heap}{w w':World}(h:GTabs ρ σ w) (k:Ext ρ σ w ρ' σ' w'):GTabs ρ' σ' w':=fun g cs hg=>by obtain⟨⟨e,f,h1⟩,h2⟩:=h g cs hg;have hl:=h.lt hg;exact⟨⟨e,f,by rw[k.keep g hl h2];exact h1⟩,fun hw=>h2 (k.wr g hl hw)⟩
structure HRel (ρ:Plc) (σ:Heap) (w:World):Prop where
 core:HRel0 ρ σ w
 tab:GTabs ρ σ w
section
variable {ρ:Plc}{σ:Heap}{w:World}
theorem HRel.ext {ρ':Plc}{σ':Heap}{w':World}(h:HRel ρ σ w) (h':HRel0 ρ' σ' w') (k:Ext ρ σ w ρ' σ' w'):HRel ρ' σ' w':=⟨h',h.tab.ext k⟩
theorem HRel.live (h:HRel ρ σ w):∀ i b,σ.get i=some b→∃ p,ρ i=some p∧BRel ρ σ.n p w b:=h.core.live
theorem HRel.dead (h:HRel ρ σ w):∀ i,σ.get i=none→ρ i=none:=h.core.dead
theorem HRel.lt (h:HRel ρ σ w):∀ i p,ρ i=some p→p.blk<w.heap.size:=h.core.lt
theorem HRel.sep (h:HRel ρ σ w):∀ i j p q b,i≠j→ρ i=some p→ρ j=some q→σ.get i=some b→b.wr=true→0<q.ext→p.blk≠q.blk:=h.core.sep
theorem HRel.idlt (h:HRel ρ σ w) {i:Nat}{p:Pl}(hp:ρ i=some p):i<σ.n:=h.core.idlt hp
theorem HRel.world {w':World}(h:HRel ρ σ w) (hs:w.heap.size≤w'.heap.size) (hb:∀ i p,ρ i=some p→w'.heap[p.blk]?=w.heap[p.blk]?) (ht:∀ g cs,OM g=some cs→w'.heap[g]?=w.heap[g]?):HRel ρ σ w' :=
 ⟨h.core.world hs hb,fun g cs hg=>by
  obtain⟨⟨e,f,h1⟩,h2⟩:=h.tab g cs hg;exact⟨⟨e,f,by rw[ht g cs hg];exact h1⟩,h2⟩⟩
theorem HRel.drew (h:HRel ρ σ w):HRel ρ σ w.drew:=⟨h.core.drew,h.tab⟩
theorem HRel.alloc (h:HRel ρ σ w) (c:List Value) (C:Array Value) (e:TypeId) (esz:El) (tight:Bool) (he:e=esz.ty)
  (hc:LRel ρ σ.n c (C.toList.take c.length)) (hl:c.length≤C.size) :
  ∃ ρ',ρ' σ.n=some ⟨w.heap.size,0,C.size,esz,tight⟩∧HRel ρ' (σ.push (.cells c esz true tight)) (w.alloc (.cells C e))∧Ext ρ σ w ρ' (σ.push (.cells c esz true tight)) (w.alloc (.cells C e)) :=
 let ⟨ρ',h1,h2,h3⟩:=h.core.alloc c C e esz tight he hc hl
 ⟨ρ',h1,h.ext h2 h3,h3⟩
theorem HRel.newObj (h:HRel ρ σ w) (o:VObj) (O:Obj) (ho:ORel ρ σ.n o O) :
  ∃ ρ',ρ' σ.n=some ⟨w.heap.size,0,1,default,true⟩∧HRel ρ' (σ.push (.obj o true)) (w.alloc O)∧Ext ρ σ w ρ' (σ.push (.obj o true)) (w.alloc O) :=
 let ⟨ρ',h1,h2,h3⟩:=h.core.newObj o O ho
 ⟨ρ',h1,h.ext h2 h3,h3⟩
theorem HRel.setObj (h:HRel ρ σ w) {i:Nat}{p:Pl}{o:VObj}(hp:ρ i=some p) (hb:σ.get i=some (.obj o true)) {o':VObj}{O':Obj}(ho:ORel ρ σ.n o' O') :
  HRel ρ (σ.upd i (.obj o' true)) (Hc w p.blk O')∧Ext ρ σ w ρ (σ.upd i (.obj o' true)) (Hc w p.blk O') :=
 let ⟨h2,h3⟩:=h.core.setObj hp hb ho
 ⟨h.ext h2 h3,h3⟩
theorem HRel.not_deferred (h:HRel ρ σ w) {D:Nat}{d:Option (List Deferred)}(hD:w.heap[D]?=some (.deferred d)) (i:Nat) (p:Pl) (hp:ρ i=some p):p.blk≠D:=h.core.not_deferred hD i p hp
theorem HRel.kill (h:HRel ρ σ w) (i:Nat):HRel (ρ.put i none) (σ.kill i) w∧Ext ρ σ w (ρ.put i none) (σ.kill i) w :=
 let ⟨h2,h3⟩:=h.core.kill i
 ⟨h.ext h2 h3,h3⟩
end
end Go.V
namespace Go.V
open Go
abbrev Env:=List Value
inductive MK where
 |int (k:IntKind)
 |string
 |bool
 |agg (s:List MK)
 deriving Inhabited
inductive XOp where
 |eqNil (kd:Nat) (neg:Bool) (x y:Operand)
 |makeMap
 |lookup (mk:MK) (zero:Value) (ok:Bool) (x i:Operand)
 |mapUpdate (mk:MK) (m k v:Operand)
 |delete (mk:MK) (m k:Operand)
 |mapEntry (mk:MK) (zero:Value) (m k:Operand)
 |entryStore (m s v:Operand)
 |lenMap (x:Operand)
 |rangeMap (x:Operand)
 |nextMap (x:Operand)
 |entry (x:Operand)
 |copy (size:Nat) (d s:Operand)
 |clear (z:List Value) (x:Operand)
 |toUnsafe (x:Operand)
 |fromUnsafe (u size:Nat) (x:Operand)
 |sliceData (x:Operand)
 |unsafeStr (e:Nat) (x n:Operand)
 |bytesStr (x:Operand)
 |strBytes (e:Nat) (x:Operand)
 |eqAgg (neg:Bool) (s:List MK) (x y:Operand)
 deriving Inhabited
inductive VOp where
 |move (x:Operand)
 |pick (c a b:Operand)
 |arith (op:BinOp) (x y:Operand)
 |div (op:BinOp) (x y:Operand)
 |bits (op:BinOp) (x y:Operand)
 |shift (op:BinOp) (x y:Operand)
 |cmp (op:BinOp) (x y:Operand)
 |str (op:BinOp) (x y:Operand)
 |eqB (neg:Bool) (x y:Operand)
 |un (op:UnOp) (x:Operand)
 |convI (k:IntKind) (x:Operand)
 |convS (x:Operand)
 |alloc (t:Nat) (z:List Value)
 |box (t:Nat) (x:Operand)
 |build (z:List Value) (parts:List (Nat×Nat×Operand))
 |buildSlice (esz:El) (z:List Value) (len:Nat) (parts:List (Nat×Operand))
 |load (agg:Bool) (size:Nat) (a:Operand)
 |store (size:Nat) (a v:Operand)
 |fieldAddr (off:Nat) (a:Operand)
 |field (agg:Bool) (off size:Nat) (x:Operand)
 |indexAddr (size:Nat) (x i:Operand)
 |indexAddrArr (len size:Nat) (x i:Operand)
 |indexStr (x i:Operand)
 |indexArr (len:Nat) (agg:Bool) (size:Nat) (x i:Operand)
 |slice (size:Nat) (x:Operand) (lo hi mx:Option Operand)
 |sliceStr (x:Operand) (lo hi:Option Operand)
 |makeSlice (esz:El) (bytes:Nat) (z:List Value) (l c:Operand)
 |len (x:Operand)
 |lenStr (x:Operand)
 |append (esz:El) (bytes:Nat) (s x:Operand)
 |max (x y:Operand)
 |max4 (x y z w:Operand)
 |min (x y:Operand)
 |makeFunc (fn:Fn) (first cap:List Operand)
 |iface (t:TypeId) (x:Operand)
 |extract (x:Operand) (i:Nat)
 |nilCheck (x:Operand)
 |callF (f:FuncId) (args:List Operand)
 |callV (f:Operand) (args:List Operand)
 |ext (o:XOp)
 |bad
 deriving Inhabited
structure VOper where
 dst:Option Nat
 op:VOp
 guard:Option (Nat×Bool)
 deriving Inhabited
structure DOper where
 dst:Option Nat
 op:VOp
 guard:Option (Nat×Bool)
 kind:Nat
 kmin:Nat
 kmax:Nat
 deriving Inhabited
inductive DSeg where
 |one (o:VOper)
 |alts (l:List (List DOper))
 deriving Inhabited
inductive VCode where
 |skip
 |region (ops:List VOper)
 |regionD (aP:List DSeg)
 |rangeF (g:Operand) (ps:List Nat) (a b:VCode)
 |seq (a b:VCode)
 |cond (c:Operand) (a b:VCode)
 |block (id:Nat) (b:VCode)
 |loop (b:VCode)
 |exit (id:Nat)
 |ret
 |bad
 deriving Inhabited
def QQ:Value→Bool
 |.bool _|.int _ _|.string _|.pointer none|.slice none 0 0|.map none|.nilFunc|.nilIface=>true
 |_=>false
def KF:Value→Bool
 |.agg cs=>cs.toList.all QQ
 |.tuple cs=>cs.toList.all QQ
 |v=>QQ v
def JW:Operand→Bool
 |.tmp _=>true
 |.const v=>KF v
 |.global _=>true
 |.func _=>true
def U2:TypeDesc→Bool
 |.struct _|.array _ _=>true
 |_=>false
def zeroOf (P:Program) (t:TypeId):Option (List Value):=do
 let i ←P.info? t;let z ←i.zero;let cs:=z.cells.toList
 if cs.length==i.size&&cs.all QQ then some cs else none
def Dh (P:Program) (t:TypeId) (f:Nat):Option Field :=
 match P.underlying t with
 |some (.struct fs)=>fs[f]?
 |_=>none
def KY (P:Program) (o:Op):Option VOp :=
 if !(o.operands.toList.all JW) then none else
 match o with
 |.move x|.assign x=>some (.move x)
 |.pick c a b=>some (.pick c a b)
 |.binOp op t x y _ =>
  match P.underlying t with
  |some (.int _) =>
   match op with
   |.add|.sub|.mul=>some (.arith op x y)
   |.quo|.rem=>some (.div op x y)
   |.and|.or|.xor|.andNot=>some (.bits op x y)
   |.shl|.shr=>some (.shift op x y)
   |_=>some (.cmp op x y)
  |some .string=>some (.str op x y)
  |some .bool=>match op with|.eql=>some (.eqB false x y)|.neq=>some (.eqB true x y)|_=>none
  |_=>none
 |.unOp op _ x=>some (.un op x)
 |.convert s d x =>
  match P.underlying s,P.underlying d with
  |some (.int _),some (.int k)=>some (.convI k x)
  |some .string,some .string=>some (.convS x)
  |_,_=>none
 |.alloc t=>do some (.alloc t (←zeroOf P t))
 |.box t x=>some (.box t x)
 |.build t parts=>do
  let z ←zeroOf P t
  match P.underlying t with
  |some (.struct fs)=>do
   let places ←fs.toList.mapM fun f=>(P.info? f.type).map fun i=>(f.offset,i.size);let ps ←parts.toList.mapM fun q=>(places[q.1]?).map fun os=>(os.1,os.2,q.2)
   some (.build z ps)
  |some (.array _ e)=>do
   let ei ←P.info? e
   some (.build z (parts.toList.map fun q=>(q.1*ei.size,ei.size,q.2)))
  |_=>none
 |.buildSlice t len parts =>
  match P.underlying t with
  |some (.slice e)=>do
   let z ←zeroOf P e
   if z.length==0||4096<len*z.length then none
   some (.buildSlice ⟨z.length,e⟩ z len parts.toList)
  |_=>none
 |.load t a=>do
  let i ←P.info? t;let d ←P.underlying t
  some (.load (U2 d) i.size a)
 |.store t a v=>do
  let i ←P.info? t
  some (.store i.size a v)
 |.fieldAddr t a f=>do
  let fd ←Dh P t f;let fi ←P.info? fd.type
  if fi.size==0 then none
  some (.fieldAddr fd.offset a)
 |.field t x f=>do
  let fd ←Dh P t f;let fi ←P.info? fd.type;let d ←P.underlying fd.type
  some (.field (U2 d) fd.offset fi.size x)
 |.indexAddr t x i =>
  match P.underlying t with
  |some (.slice e)=>do let ei ←P.info? e;some (.indexAddr ei.size x i)
  |some (.array n e)=>do let ei ←P.info? e;some (.indexAddrArr n ei.size x i)
  |_=>none
 |.index t x i =>
  match P.underlying t with
  |some .string=>some (.indexStr x i)
  |some (.array n e)=>do let ei ←P.info? e;let d ←P.underlying e;some (.indexArr n (U2 d) ei.size x i)
  |_=>none
 |.slice t x lo hi mx =>
  match P.underlying t with
  |some (.slice e)=>do let ei ←P.info? e;some (.slice ei.size x lo hi mx)
  |some .string=>if mx.isNone then some (.sliceStr x lo hi) else none
  |_=>none
 |.makeSlice t l c =>
  match P.underlying t with
  |some (.slice e)=>do
   let ei ←P.info? e;let z ←zeroOf P e
   if z.length==0 then none
   some (.makeSlice ⟨z.length,e⟩ ei.bytes z l c)
  |_=>none
 |.makeFunc fn first cap=>match fn with|.func _=>some (.makeFunc fn first.toList cap.toList)|_=>none
 |.makeInterface t x=>do
  let d ←P.underlying t
  match d with
  |.interface _=>none
  |_=>some (.iface t x)
 |.extract x i=>some (.extract x i)
 |.nilCheck x=>some (.nilCheck x)
 |.call c =>
  match c.callee with
  |.value (.func f)=>some (.callF f c.args.toList)
  |.value f=>some (.callV f c.args.toList)
  |.builtin .len =>
   match c.argTypes[0]?,c.args.toList with
   |some t,[x] =>
    match P.underlying t with
    |some .string=>some (.lenStr x)
    |some (.slice _)=>some (.len x)
    |_=>none
   |_,_=>none
  |.builtin .append =>
   match c.argTypes[0]?,c.argTypes[1]?,c.args.toList with
   |some t,some u,[s,x] =>
    match P.underlying t,P.underlying u with
    |some (.slice e),some (.slice _)=>do
     let ei ←P.info? e;let z ←zeroOf P e
     if z.length==0||ei.bytes==0 then none
     some (.append ⟨z.length,e⟩ ei.bytes s x)
    |_,_=>none
   |_,_,_=>none
  |.builtin .max=>match c.args.toList with|[x,y]=>some (.max x y)|[x,y,z]=>some (.max4 x y z z)|[x,y,z,w]=>some (.max4 x y z w)|_=>none
  |.builtin .min=>match c.args.toList with|[x,y]=>some (.min x y)|_=>none
  |_=>none
 |_=>none
def Cg (P:Program) (g:TypeId→Option (List MK)):List Field→Nat→Option (List MK)
 |[],_=>some []
 |f::r,off=>if f.name≠"_"∧f.offset=off then (match g f.type with
  |some s=>if P.cellsOf f.type=s.length then (Cg P g r (off+s.length)).map fun q=>s++q else none
  |none=>none) else none
def shp (P:Program):Nat→TypeId→Option (List MK)
 |0,_=>none
 |d+1,t=>match P.underlying t with
  |some .bool=>some [.bool]
  |some (.int q)=>some [.int q]
  |some .string=>some [.string]
  |some (.array n e)=>(match shp P d e with
   |some s=>if P.cellsOf e=s.length then some (List.replicate n s).flatten else none
   |none=>none)
  |some (.struct fs)=>if P.stoodInHeld t=true then none else Cg P (shp P d) fs.toList 0
  |_=>none
def E4:MK→Value→Bool
 |.int q,.int q' _=>decide (q'=q)
 |.string,.string _=>true
 |.bool,.bool _=>true
 |_,_=>false
def fits:List MK→List Value→Bool
 |[],[]=>true
 |k::ks,v::vs=>E4 k v&&fits ks vs
 |_,_=>false
def K1:Value→Value→Bool
 |.int _ a,.int _ b=>a==b
 |.bool a,.bool b=>a==b
 |.string a,.string b=>a.data.toList==b.data.toList
 |_,_=>false
def Ql:List Value→List Value→Bool
 |a::l,b::m=>K1 a b&&Ql l m
 |_,_=>true
def Ta (P:Program) (neg:Bool) (t:TypeId) (x y:Operand):Option XOp :=
 if P.eqGuardType P.depth t=true then none else (shp P 8 t).map fun s=>.eqAgg neg s x y
theorem E5 {P:Program}{neg:Bool}{t:TypeId}{x y:Operand}{o:XOp}(h:Ta P neg t x y=some o):∃ s,o=.eqAgg neg s x y:=by
 unfold Ta at h;split at h
 ·cases h
 ·obtain⟨s,_,rfl⟩:=Option.map_eq_some_iff.1 h;exact⟨s,rfl⟩
def Li (P:Program) (t:TypeId):Option MK :=
 match P.underlying t with
 |some (.int k)=>some (.int k)
 |some .string=>some .string
 |some .bool=>some .bool
 |some (.struct _)=>(shp P 8 t).map .agg
 |some (.array _ _)=>(shp P 8 t).map .agg
 |_=>none
def Tu (P:Program) (o:Op):Option XOp :=
 if !(o.operands.toList.all JW) then none else
 match o with
 |.binOp op t x y _ =>
  match op,P.underlying t with
  |.eql,some (.pointer e)=>do let i ←P.info? e;if i.size==0 then none else some (.eqNil 0 false x y)
  |.neq,some (.pointer e)=>do let i ←P.info? e;if i.size==0 then none else some (.eqNil 0 true x y)
  |.eql,some (.slice _)=>some (.eqNil 1 false x y)
  |.eql,some (.map _ _)=>some (.eqNil 2 false x y)
  |.eql,some (.func _ _ _)=>some (.eqNil 3 false x y)
  |.neq,some (.slice _)=>some (.eqNil 1 true x y)
  |.neq,some (.map _ _)=>some (.eqNil 2 true x y)
  |.neq,some (.func _ _ _)=>some (.eqNil 3 true x y)
  |.eql,some (.struct _)=>Ta P false t x y
  |.neq,some (.struct _)=>Ta P true t x y
  |.eql,some (.array _ _)=>Ta P false t x y
  |.neq,some (.array _ _)=>Ta P true t x y
  |_,_=>none
 |.makeMap _ none=>some .makeMap
 |.lookup t x i ok =>
  match P.underlying t with
  |some (.map k e)=>do
   let mk ←Li P k;let inf ←P.info? e;let z ←inf.zero
   if KF z then some (.lookup mk z ok x i) else none
  |_=>none
 |.mapUpdate t m k v =>
  match P.underlying t with
  |some (.map kt _)=>do some (.mapUpdate (←Li P kt) m k v)
  |_=>none
 |.insert t m k v =>
  match P.underlying t with
  |some (.map kt _)=>do some (.mapUpdate (←Li P kt) m k v)
  |_=>none
 |.mapEntry t m k =>
  match P.underlying t with
  |some (.map kt e)=>do
   let mk ←Li P kt;let inf ←P.info? e;let z ←inf.zero
   if KF z then some (.mapEntry mk z m k) else none
  |_=>none
 |.entryStore _ m s v=>some (.entryStore m s v)
 |.range t x =>
  match P.underlying t with
  |some (.map _ _)=>some (.rangeMap x)
  |_=>none
 |.next x false=>some (.nextMap x)
 |.entry x=>some (.entry x)
 |.convert s d x =>
  match P.underlying s,P.underlying d with
  |some (.pointer t),some .unsafePointer=>do let i ←P.info? t;if i.size==0 then none else some (.toUnsafe x)
  |some .unsafePointer,some (.pointer u)=>do let i ←P.info? u;if i.size==0||P.cellsOf u==0 then none else some (.fromUnsafe u (P.cellsOf u) x)
  |some (.slice e),some .string=>match P.underlying e with|some (.int .u8)=>some (.bytesStr x)|_=>none
  |some .string,some (.slice e)=>match P.underlying e with|some (.int .u8)=>some (.strBytes e x)|_=>none
  |_,_=>none
 |.call c =>
  match c.callee with
  |.builtin .len =>
   match c.argTypes[0]?,c.args.toList with
   |some t,[x]=>match P.underlying t with|some (.map _ _)=>some (.lenMap x)|_=>none
   |_,_=>none
  |.builtin .delete =>
   match c.argTypes[0]?,c.args.toList with
   |some t,[m,k]=>match P.underlying t with|some (.map kt _)=>do some (.delete (←Li P kt) m k)|_=>none
   |_,_=>none
  |.builtin .copy =>
   match c.argTypes[0]?,c.args.toList with
   |some t,[d,s]=>match P.underlying t with|some (.slice e)=>do let i ←P.info? e;some (.copy i.size d s)|_=>none
   |_,_=>none
  |.builtin .clear =>
   match c.argTypes[0]?,c.args.toList with
   |some t,[x]=>match P.underlying t with
    |some (.slice e)=>do
     let z ←zeroOf P e
     if z.length==0 then none
     some (.clear z x)
    |_=>none
   |_,_=>none
  |.builtin .unsafeSliceData=>match c.args.toList with|[x]=>some (.sliceData x)|_=>none
  |.builtin .unsafeString =>
   match c.argTypes[0]?,c.args.toList with
   |some t,[x,n]=>match P.underlying t with|some (.pointer e)=>if P.cellsOf e=1 then some (.unsafeStr e x n) else none|_=>none
   |_,_=>none
  |_=>none
 |_=>none
def Kf (P:Program) (o:Op):VOp :=
 match KY P o with
 |some v=>v
 |none=>match Tu P o with
  |some x=>.ext x
  |none=>.bad
def J0 (P:Program) (ops:Array Oper) (o:Oper):Option VOper:=do
 let v:=Kf P o.op
 match o.guard with
 |none=>some ⟨o.dst,v,none⟩
 |some (j,want)=>do
  let oj ←ops[j]?;let d ←oj.dst
  some ⟨o.dst,v,some (d,want)⟩
def XOp.quiet:XOp→Bool
 |.makeMap|.mapUpdate ..|.mapEntry ..|.entryStore ..|.delete ..|.rangeMap _|.nextMap _|.copy ..|.clear ..|.unsafeStr ..|.strBytes ..=>false
 |_=>true
def VOp.quiet:VOp→Bool
 |.ext o=>o.quiet
 |.alloc ..|.box ..|.buildSlice ..|.store ..|.makeSlice ..|.append ..=>false
 |.slice _ _ _ _ (some _)=>false
 |_=>true
def VOp.kind:VOp→Nat
 |.callF ..|.callV ..=>2
 |.load ..=>1
 |.slice _ _ _ _ none=>1
 |.ext (.eqNil ..)|.ext (.lookup ..)|.ext (.lenMap _)|.ext (.entry _)|.ext (.toUnsafe _)|.ext (.fromUnsafe ..)|.ext (.sliceData _)|.ext (.bytesStr _)=>1
 |o=>if o.quiet then 0 else 2
def Q5e (acc:List Nat) (es:List Nat):Nat:=es.foldl (fun s e=>s ||| 2 ^ e ||| acc.getD e 0) 0
def Z2p:List (List Nat)→List Nat→List Nat
 |[],acc=>acc
 |es::r,acc=>Z2p r (acc++[Q5e acc es])
def XOp.opds:XOp→List Operand
 |.eqNil _ _ x y=>[x,y]
 |.eqAgg _ _ x y=>[x,y]
 |.makeMap=>[]
 |.lookup _ _ _ x i=>[x,i]
 |.mapUpdate _ m k v=>[m,k,v]
 |.delete _ m k=>[m,k]
 |.mapEntry _ _ m k=>[m,k]
 |.entryStore m s v=>[m,s,v]
 |.lenMap x|.rangeMap x|.nextMap x|.entry x|.toUnsafe x|.fromUnsafe _ _ x|.sliceData x|.bytesStr x=>[x]
 |.copy _ d s=>[d,s]
 |.clear _ x=>[x]
 |.unsafeStr _ x n=>[x,n]
 |.strBytes _ x=>[x]
def VOp.opds:VOp→List Operand
 |.move x|.un _ x|.convI _ x|.convS x|.box _ x|.load _ _ x|.fieldAddr _ x|.field _ _ _ x|.len x|.lenStr x|.iface _ x|.extract x _|.nilCheck x=>[x]
 |.pick c a b=>[c,a,b]
 |.arith _ x y|.div _ x y|.bits _ x y|.shift _ x y|.cmp _ x y|.str _ x y|.eqB _ x y|.store _ x y|.indexAddr _ x y|.indexAddrArr _ _ x y|.indexStr x y|.indexArr _ _ _ x y|.makeSlice _ _ _ x y
 |.append _ _ x y|.max x y|.min x y=>[x,y]
 |.max4 x y z w=>[x,y,z,w]
 |.alloc ..|.bad=>[]
 |.build _ ps=>ps.map fun p=>p.2.2
 |.buildSlice _ _ _ ps=>ps.map fun p=>p.2
 |.slice _ x a b c=>x::(a.toList++b.toList++c.toList)
 |.sliceStr x a b=>x::(a.toList++b.toList)
 |.makeFunc _ a b=>a++b
 |.callF _ bL=>bL
 |.callV f bL=>f::bL
 |.ext o=>o.opds
def II (l:List Operand):List Nat:=l.filterMap fun|.tmp t=>some t|_=>none
def DY (o:Oper):List Nat:=(o.after.toList.filter (Region.binds .any)).map (·.on)
def Kp (v:VOper):List Nat:=v.dst.toList++II v.op.opds++(v.guard.map (·.1)).toList
def Q3n (a b:List Nat×Option Nat):Bool:=(match a.2 with|some d=>b.1.contains d|none=>false)||(match b.2 with|some d=>a.1.contains d|none=>false)
structure DInfo where
 an:List Nat
 ed:List (List Nat)
 nm:List (List Nat×Option Nat)
 ks:List Nat
def K5 (ops:List Oper) (vs:List VOper):DInfo:=⟨Z2p (ops.map DY) [],ops.map DY,vs.map fun v=>(Kp v,v.dst),vs.map (·.op.kind)⟩
def DInfo.lt (d:DInfo) (i j:Nat):Bool:=(d.an.getD j 0).testBit i
def DInfo.k (d:DInfo) (i:Nat):Nat:=d.ks.getD i 0
def DInfo.rank (d:DInfo):Nat→Nat
 |0=>0
 |i+1=>if d.k i=2 then d.rank i+1 else d.rank i
def DInfo.kmin (d:DInfo) (i:Nat):Nat:=((List.range d.ks.length).filter fun l=>d.k l==2&&d.lt l i).length
def DInfo.kmax (d:DInfo) (i:Nat):Nat:=((List.range d.ks.length).filter fun l=>d.k l==2&&!(d.lt i l)).length
def DInfo.touch (d:DInfo) (i j:Nat):Bool:=Q3n (d.nm.getD i ([],none)) (d.nm.getD j ([],none))
def DInfo.okE (d:DInfo) (j:Nat):Bool:=(d.ed.getD j []).all fun e=>decide (e<j)
def DInfo.okP (d:DInfo) (j:Nat):Bool:=(List.range j).all fun i =>
 if d.lt i j then (d.ed.getD j []).any (fun e=>e==i||decide (i<e)&&d.lt i e) else !(d.touch i j)&&!(d.k i==2&&d.k j==2)
def DInfo.okK (d:DInfo) (j:Nat):Bool:=!(d.k j==1) ||
 (decide (d.kmin j≤d.rank j∧d.rank j≤d.kmax j)&&(decide (d.kmax j≤d.rank d.ks.length)&&(List.range d.ks.length).all fun l=>!(d.k l==2)||(d.lt l j==decide (d.rank l<d.kmin j)&&d.lt j l==decide (d.kmax j≤d.rank l))))
def DInfo.ok (d:DInfo):Bool:=(List.range d.ks.length).all fun j=>d.okE j&&(d.okP j&&d.okK j)
def DInfo.opers (d:DInfo):List VOper→Nat→List DOper
 |[],_=>[]
 |v::r,i=>⟨v.dst,v.op,v.guard,v.op.kind,d.kmin i,d.kmax i⟩::d.opers r (i+1)
def DInfo.okB (d:DInfo):Bool:=decide (d.an.length=d.ks.length)&&(List.range d.ks.length).all fun j=>d.okE j&&(decide (d.an.getD j 0<2 ^ j) &&
 (List.range j).all fun i=>!(d.lt i j)||(d.ed.getD j []).any (fun e=>e==i||decide (i<e)&&d.lt i e))
def exts (lt:Nat→Nat→Bool):Nat→List Nat→List (List Nat)
 |_,[]=>[[]]
 |0,_=>[]
 |n+1,l=>l.flatMap fun k=>if l.all (fun i=>i==k||!(lt i k)) then (exts lt n (l.erase k)).map (k::·) else []
def Z3s (ed:List (List Nat)) (ks idx:List Nat):Nat→List Nat→List Nat→List Nat
 |0,acc,_=>acc
 |f+1,acc,kq=>match idx.find? (fun i=>!(acc.contains i)&&((ed.getD i []).all (fun e=>!(idx.contains e)||acc.contains e)&&(!(ks.getD i 0==2)||kq.head?==some i))) with
  |none=>acc
  |some i=>Z3s ed ks idx f (acc++[i]) (if ks.getD i 0==2 then kq.tail else kq)
def Q4x (ed:List (List Nat)) (ks idx:List Nat):Nat→List Nat→List Nat→List Nat
 |0,acc,_=>acc
 |f+1,acc,kq=>match idx.find? (fun i=>!(acc.contains i)&&((ed.getD i []).all (fun e=>!(idx.contains e)||acc.contains e)&&!(ks.getD i 0==2))) with
  |some i=>Q4x ed ks idx f (acc++[i]) kq
  |none=>match idx.find? (fun i=>!(acc.contains i)&&((ed.getD i []).all (fun e=>!(idx.contains e)||acc.contains e)&&kq.head?==some i)) with
   |none=>acc
   |some i=>Q4x ed ks idx f (acc++[i]) kq.tail
def Q5p:VOp→Bool
 |.callF ..=>true
 |_=>false
def Z22 (b:Bool) (ed:List (List Nat)) (ks idx:List Nat) (n:Nat) (q:List Nat):List Nat:=if b then Q4x ed ks idx n [] q else Z3s ed ks idx n [] q
def Q54 (d:DInfo) (pm:List Nat) (p:Nat):List Nat :=
 ((d.ed.getD (pm.getD p 0) []).filter pm.contains).map (fun e=>pm.idxOf e) ++
  (if d.k (pm.getD p 0)==2 then ((List.range p).filter fun q=>d.k (pm.getD q 0)==2).getLast?.toList else [])
def Vb (vs:List VOper) (pm:List Nat):List VOper:=pm.map fun i=>vs.getD i default
def Ca (d:DInfo) (vs:List VOper) (pm:List Nat):DInfo :=
 let ed:=(List.range pm.length).map (Q54 d pm)
 ⟨Z2p ed [],ed,(Vb vs pm).map fun v=>(Kp v,v.dst),(Vb vs pm).map (·.op.kind)⟩
def Z08 (d:DInfo) (vs:List VOper) (idx s pm:List Nat):Bool :=
 idx.all pm.contains&&(pm.all idx.contains&&(decide pm.Nodup&&(decide (pm.filter (fun i=>d.k i==2)=s)&&(Ca d vs pm).ok)))
def Z3c (d:DInfo) (vs:List VOper) (s n:Nat):Option DSeg :=
 if n=1 then some (.one (vs.getD s default)) else
 let idx:=List.range' s n;let ss:=exts d.lt n (idx.filter fun i=>d.k i==2);let ps:=ss.map fun q=>(q,Z22 (decide (3≤(idx.filter fun i=>Q5p (vs.getD i default).op).length)) d.ed d.ks idx n q)
 if ps.all fun sp=>Z08 d vs idx sp.1 sp.2 then some (.alts (ps.map fun sp=>(Ca d vs sp.2).opers (Vb vs sp.2) 0)) else none
def cutAt (d:DInfo) (t:Nat):Bool:=(List.range' t (d.ks.length-t)).all fun p=>(List.range t).all fun i=>d.lt i p
def FG (d:DInfo) (vs:List VOper):Nat→Nat→Option (List DSeg)
 |0,s=>if s=d.ks.length then some [] else none
 |f+1,s=>if s=d.ks.length then some [] else
  match (List.range' (s+1) (d.ks.length-s)).find? (cutAt d) with
  |none=>none
  |some t=>match Z3c d vs s (t-s),FG d vs f t with
   |some x,some r=>some (x::r)
   |_,_=>none
def Q4r (d:DInfo) (vs:List VOper):Option (List DSeg):=if d.okB then FG d vs d.ks.length 0 else none
def G1 (d:DInfo) (vs:List VOper):Bool :=
 d.okB&&(vs.all (fun v=>!(v.op.kind==2))&&Z08 d vs (List.range' 0 d.ks.length) [] (List.range' 0 d.ks.length))
def comp (P:Program):Code→Option VCode
 |.skip=>some .skip
 |.region _ ops false=>do some (.region (←ops.toList.mapM (J0 P ops)))
 |.region _ ops true=>do
  let l ←ops.toList.mapM (J0 P ops)
  if G1 (K5 ops.toList l) l then some (.region l) else
  match Q4r (K5 ops.toList l) l with
  |some aP=>some (.regionD aP)
  |none=>some .bad
 |.seq a b=>do some (.seq (←comp P a) (←comp P b))
 |.cond c a b=>do if JW c then some (.cond c (←comp P a) (←comp P b)) else some .bad
 |.block id b=>do some (.block id (←comp P b))
 |.loop b=>do some (.loop (←comp P b))
 |.rangeFunc g ps a b=>do if JW g then some (.rangeF g ps.toList (←comp P a) (←comp P b)) else some .bad
 |.exit id=>some (.exit id)
 |.ret=>some .ret
 |_=>some .bad
def Q3 (env:Env):Operand→Value
 |.tmp t=>env.getD t undef
 |.const v=>v
 |.global g=>.pointer (some ⟨g,0,some 0⟩)
 |.func f=>.func (.func f) #[] #[]
def R5:BinOp→IntKind→Int→Int→Int
 |.add,k,a,b=>k.wrap (a+b)
 |.sub,k,a,b=>k.wrap (a-b)
 |_,k,a,b=>k.wrap (a*b)
def Q67:BinOp→IntKind→Int→Int→Int
 |.quo,k,a,b=>k.wrap (a.tdiv b)
 |_,_,a,b=>a.tmod b
def Q8 (op:BinOp) (k:IntKind) (x y:Int):Int :=
 let a:=BitVec.ofInt k.bits x;let b:=BitVec.ofInt k.bits y
 match op with
 |.and=>k.wrap (a &&& b).toNat
 |.or=>k.wrap (a ||| b).toNat
 |.xor=>k.wrap (a ^^^ b).toNat
 |_=>k.wrap (a &&& ~~~b).toNat
def TC:BinOp→IntKind→Int→Int→Int
 |.shl,k,x,y=>k.wrap (x*2 ^ (Nat.min y.toNat k.bits))
 |_,k,x,y=>x.fdiv (2 ^ (Nat.min y.toNat k.bits))
def Z0n:BinOp→Int→Int→Bool
 |.eql,a,b=>a==b
 |.neq,a,b=>a != b
 |.lss,a,b=>decide (a<b)
 |.leq,a,b=>decide (a≤b)
 |.gtr,a,b=>decide (a > b)
 |_,a,b=>decide (a≥b)
def cellOk:Value→Bool
 |.agg _|.tuple _|.chan _=>false
 |_=>true
def K8:Value→Option (List Value)
 |.agg cs=>some cs.toList
 |.chan _|.tuple _=>none
 |v=>some [v]
def Yp (c:List Value) (o:Nat):List Value→List Value
 |[]=>c
 |v::vs=>Yp (c.set o v) (o+1) vs
def Nm (c:List Value):List (Nat×Nat×Value)→Option (List Value)
 |[]=>some c
 |(o,s,v)::rest =>
  match K8 v with
  |some vs=>if vs.length=s∧o+s≤c.length then Nm (Yp c o vs) rest else none
  |none=>none
def BN (n:Nat):List Value→List Value
 |[x]=>List.replicate n x
 |z=>(List.replicate n z).flatten
def W5 (agg:Bool) (size:Nat) (c:List Value) (o:Nat):Option Value :=
 if agg then (if o+size≤c.length then some (.agg ((c.drop o).take size).toArray) else none) else c[o]?
def Heap.sl (σ:Heap) (esz:Nat):Value→Option (List Value)
 |.slice none 0 0=>some []
 |.slice (some ⟨i,o,none⟩) n _ =>
  match σ.get i with
  |some (.cells c e _ _)=>if e.sz=esz∧o+n*esz≤c.length then some ((c.drop o).take (n*esz)) else none
  |_=>none
 |_=>none
def Yb (esz:El) (bytes:Nat) (σ:Heap) (s:Value) (m:Nat) (xs:List Value):Option (Value×Heap) :=
 match s with
 |.slice none 0 0 =>
  if m=0 then some (s,σ) else
  if m*bytes≤2 ^ 46 then some (.slice (some ⟨σ.n,0,none⟩) m m,σ.push (.cells xs esz true false)) else none
 |.slice (some ⟨i,o,none⟩) n cap =>
  match σ.get i with
  |some (.cells c e wr tight) =>
   if e=esz∧n≤cap∧o+n*esz.sz≤c.length then
    if m=0 then some (s,σ) else
    if n+m≤cap then
     (if wr=true∧o+(n+m)*esz.sz≤c.length then some (.slice (some ⟨i,o,none⟩) (n+m) cap,σ.upd i (.cells (Yp c (o+n*esz.sz) xs) e wr tight)) else none)
    else if (n+m)*bytes≤2 ^ 46 then
     (if tight then some (.slice (some ⟨σ.n,0,none⟩) (n+m) (n+m),σ.push (.cells ((c.drop o).take (n*esz.sz)++xs) esz true false))
     else if wr then some (.slice (some ⟨σ.n,0,none⟩) (n+m) (n+m),(σ.kill i).push (.cells ((c.drop o).take (n*esz.sz)++xs) esz true false))
     else none)
    else none
   else none
  |_=>none
 |.slice (some ⟨i,o,some 0⟩) n cap =>
  match σ.get i with
  |some (.cells c e _ _) =>
   if e=esz∧n=cap∧o+n*esz.sz≤c.length∧m≠0∧(n+m)*bytes≤2 ^ 46 then
    some (.slice (some ⟨σ.n,0,none⟩) (n+m) (n+m),σ.push (.cells ((c.drop o).take (n*esz.sz)++xs) esz true false))
   else none
  |_=>none
 |_=>none
def Jc (ev:Operand→Value):Option Operand→Nat→Option Nat
 |none,d=>some d
 |some x,_=>match ev x with
  |.int _ i=>if 0≤i then some i.toNat else none
  |_=>none
def Yh (size:Nat) (σ:Heap) (s:Value) (l h:Nat) (m:Option Nat):Option (Value×Heap) :=
 match s with
 |.slice none 0 0=>if l=0∧h=0∧(m.getD 0)=0 then some (.slice none 0 0,σ) else none
 |.slice (some ⟨i,o,none⟩) _ cap =>
  match σ.get i with
  |some (.cells _ e _ t) =>
   match m with
   |none=>if e.sz=size∧l≤h∧h≤cap then some (.slice (some ⟨i,o+l*size,none⟩) (h-l) (cap-l),σ) else none
   |some m =>
    if e.sz=size∧l≤h∧h≤m∧m≤cap then
     if m=l then some (.slice (some ⟨σ.n,0,none⟩) 0 0,σ.push (.cells [] e false true))
     else if t=false∧h=m then some (.slice (some ⟨i,o+l*size,some 0⟩) (h-l) (m-l),σ)
     else some (.slice (some ⟨i,o+l*size,none⟩) (h-l) (m-l),σ)
    else none
  |_=>none
 |_=>none
def Zk:MK→Value→Bool
 |.int k,.int k' _=>decide (k=k')
 |.string,.string _|.bool,.bool _=>true
 |.agg s,.agg cs=>fits s cs.toList
 |_,_=>false
def Xh:Value→Value→Bool
 |.agg a,.agg b=>Ql a.toList b.toList
 |.int _ a,.int _ b=>a==b
 |.string a,.string b=>a.data.toList==b.data.toList
 |.bool a,.bool b=>a==b
 |_,_=>false
abbrev Jr:=Value×Value×Nat
def Qg (k:Value):List Jr→Option Jr
 |[]=>none
 |e::es=>if Xh k e.1 then some e else Qg k es
def Qq (k v:Value) (clock:Nat):List Jr→List Jr×Nat
 |[]=>([(k,v,clock)],clock+1)
 |e::es=>if Xh k e.1 then ((k,v,e.2.2)::es,clock) else (e::(Qq k v clock es).1,(Qq k v clock es).2)
def Bi (k:Value):List Jr→List Jr
 |[]=>[]
 |e::es=>if Xh k e.1 then es else e::Bi k es
def Heap.mapAt (σ:Heap) (m:Nat):Option (List Jr×Nat×Bool):=match σ.get m with
 |some (.obj (.map es clock) wr)=>some (es,clock,wr)
 |_=>none
def Cy:Value→Option UInt8
 |.int .u8 n=>some n.toNat.toUInt8
 |_=>none
def Bb (l:List Value):Option ByteArray:=(l.mapM Cy).map fun bs=>⟨bs.toArray⟩
def J5:Nat→Value→Value→Heap→Option Bool
 |0,.pointer none,.pointer none,_=>some true
 |0,.pointer none,.pointer (some _),_=>some false
 |0,.pointer (some _),.pointer none,_=>some false
 |0,.pointer (some ⟨i,o,none⟩),.pointer (some ⟨j,q,none⟩),σ=>if i=j∧o=q∧(σ.get i).isSome=true then some true else none
 |1,.slice none _ _,.slice none _ _,_=>some true
 |1,.slice none _ _,.slice (some _) _ _,_=>some false
 |1,.slice (some _) _ _,.slice none _ _,_=>some false
 |2,.map none,.map none,_=>some true
 |2,.map none,.map (some _),_=>some false
 |2,.map (some _),.map none,_=>some false
 |3,.nilFunc,.nilFunc,_=>some true
 |3,.nilFunc,.func _ _ _,_=>some false
 |3,.func _ _ _,.nilFunc,_=>some false
 |_,_,_,_=>none
def Zj (o:XOp) (ev:Operand→Value) (σ:Heap):Option (Value×Heap) :=
 match o with
 |.eqNil kd neg x y=>match J5 kd (ev x) (ev y) σ with|some b=>some (.bool (if neg then !b else b),σ)|none=>none
 |.eqAgg neg s x y=>match ev x,ev y with
  |.agg a,.agg b=>if fits s a.toList=true∧fits s b.toList=true then some (.bool (if neg then !(Ql a.toList b.toList) else Ql a.toList b.toList),σ) else none
  |_,_=>none
 |.makeMap=>some (.map (some σ.n),σ.push (.obj (.map [] 0) true))
 |.lookup mk z ok x i =>
  let k:=ev i
  if Zk mk k then
   match ev x with
   |.map none=>some (if ok then .tuple #[z,.bool false] else z,σ)
   |.map (some m)=>match σ.mapAt m with
    |some (es,_,_)=>if es.all (fun e=>Zk mk e.1) then
      (match Qg k es with
      |some e=>some (if ok then .tuple #[e.2.1,.bool true] else e.2.1,σ)
      |none=>some (if ok then .tuple #[z,.bool false] else z,σ)) else none
    |none=>none
   |_=>none
  else none
 |.mapUpdate mk m k v=>match ev m with
  |.map (some i)=>match σ.mapAt i with
   |some (es,clock,true)=>if Zk mk (ev k)&&es.all (fun e=>Zk mk e.1) then some (undef,σ.upd i (.obj (.map (Qq (ev k) (ev v) clock es).1 (Qq (ev k) (ev v) clock es).2) true)) else none
   |_=>none
  |_=>none
 |.delete mk m k=>match ev m with
  |.map (some i)=>match σ.mapAt i with
   |some (es,clock,true)=>if Zk mk (ev k)&&es.all (fun e=>Zk mk e.1) then some (.tuple #[],σ.upd i (.obj (.map (Bi (ev k) es) clock) true)) else none
   |_=>none
  |_=>none
 |.mapEntry mk z m k=>match ev m with
  |.map (some i)=>match σ.mapAt i with
   |some (es,clock,true)=>if Zk mk (ev k)&&es.all (fun e=>Zk mk e.1) then
     (match Qg (ev k) es with
     |some e=>some (.tuple #[e.2.1,.int .i64 e.2.2],σ.upd i (.obj (.map (Qq (ev k) e.2.1 clock es).1 (Qq (ev k) e.2.1 clock es).2) true))
     |none=>some (.tuple #[z,.int .i64 clock],σ.upd i (.obj (.map (Qq (ev k) z clock es).1 (Qq (ev k) z clock es).2) true))) else none
   |_=>none
  |_=>none
 |.entryStore m s v=>match ev m,ev s with
  |.map (some i),.int .i64 n=>match σ.mapAt i with
   |some (es,clock,true)=>(match es.findIdx? (fun e=>(e.2.2:Int)==n) with
    |some j=>(match es[j]? with
     |some e=>some (undef,σ.upd i (.obj (.map (es.set j (e.1,ev v,e.2.2)) clock) true))
     |none=>none)
    |none=>none)
   |_=>none
  |_,_=>none
 |.lenMap x=>match ev x with
  |.map none=>some (.int .i64 0,σ)
  |.map (some m)=>match σ.mapAt m with
   |some (es,_,_)=>some (.int .i64 es.length,σ)
   |none=>none
  |_=>none
 |.rangeMap x=>match ev x with
  |.map (some m)=>match σ.mapAt m with
   |some (_,clock,_)=>some (.pointer (some ⟨σ.n,0,none⟩),σ.push (.obj (.iter m clock [] clock) true))
   |none=>none
  |_=>none
 |.nextMap _=>none
 |.entry x=>match ev x with
  |.pointer (some ⟨i,0,none⟩)=>match σ.get i with
   |some (.obj (.iter m _ seen last) _)=>match σ.mapAt m,seen.getLast? with
    |some (es,clock,_),some b=>if clock=last then (match es.find? (fun e=>e.2.2==b) with|some e=>if KF e.1 then some (.tuple #[e.1,e.2.1],σ) else none|none=>none) else none
    |_,_=>none
   |_=>none
  |_=>none
 |.copy size d s=>match ev d,ev s with
  |.slice db dn _,.slice sb sn sc =>
   if min sn dn=0 then some (.int .i64 0,σ) else
   match db,σ.sl size (.slice sb (min sn dn) sc) with
   |some ⟨i,o,none⟩,some xs=>match σ.get i with
    |some (.cells c e wr tight)=>if wr=true∧e.sz=size∧o+xs.length≤c.length∧xs.all cellOk=true then some (.int .i64 (min sn dn:Nat),σ.upd i (.cells (Yp c o xs) e wr tight)) else none
    |_=>none
   |_,_=>none
  |_,_=>none
 |.clear z x=>match ev x with
  |.slice b n _ =>
   if n=0 then some (.tuple #[],σ) else
   match b with
   |some ⟨i,o,none⟩=>match σ.get i with
    |some (.cells c e wr tight)=>if wr=true∧o+n*z.length≤c.length∧z.all cellOk=true then some (.tuple #[],σ.upd i (.cells (Yp c o (BN n z)) e wr tight)) else none
    |_=>none
   |_=>none
  |_=>none
 |.toUnsafe x=>match ev x with
  |.pointer none=>some (.pointer none,σ)
  |.pointer (some ⟨i,o,none⟩)=>match σ.get i with
   |some (.cells c _ _ _)=>if o<c.length then some (.pointer (some ⟨i,o,none⟩),σ) else none
   |_=>none
  |_=>none
 |.fromUnsafe u size x=>match ev x with
  |.pointer none=>some (.pointer none,σ)
  |.pointer (some ⟨i,o,none⟩)=>match σ.get i with
   |some (.cells c e true true)=>if o=0∧e.ty=u∧size≤c.length then some (.pointer (some ⟨i,o,none⟩),σ) else none
   |_=>none
  |_=>none
 |.sliceData x=>match ev x with
  |.slice none _ _=>some (.pointer none,σ)
  |.slice (some ⟨i,o,none⟩) _ cap=>if cap≠0∧(σ.get i).isSome=true then some (.pointer (some ⟨i,o,none⟩),σ) else none
  |_=>none
 |.unsafeStr e x n=>match ev x,ev n with
  |.pointer p,.int .i64 k =>
   if k=0 then some (.string ⟨#[]⟩,σ) else
   match p with
   |some ⟨i,o,none⟩=>match σ.get i with
    |some (.cells c el true tight) =>
     if 0<k∧k≤2 ^ 62∧el.ty=e∧o+k.toNat≤c.length then
      (match Bb ((c.drop o).take k.toNat) with
      |some s=>some (.string s,σ.upd i (.cells c el false tight))
      |none=>none) else none
    |_=>none
   |_=>none
  |_,_=>none
 |.strBytes e x=>match ev x with
  |.string s=>if s.size≤2 ^ 62 then some (.slice (some ⟨σ.n,0,none⟩) s.size s.size,σ.push (.cells (s.data.toList.map fun b=>.int .u8 b.toNat) ⟨1,e⟩ true false)) else none
  |_=>none
 |.bytesStr x=>match ev x with
  |.slice a n c=>match σ.sl 1 (.slice a n c) with
   |some xs=>match Bb xs with|some s=>some (.string s,σ)|none=>none
   |none=>none
  |_=>none
def F5 (a b:Int):Int:=if b > a then b else a
theorem FP (a b:Int):F5 (F5 a b) b=F5 a b:=by unfold F5;(repeat' split)<;>omega
def Q6 (o:VOp) (ev:Operand→Value) (σ:Heap):Option (Value×Heap) :=
 match o with
 |.move x=>some (ev x,σ)
 |.pick c a b=>match ev c with|.bool t=>some (if t then ev a else ev b,σ)|_=>none
 |.arith op x y=>match ev x,ev y with|.int k a,.int k' b=>if k=k' then some (.int k (R5 op k a b),σ) else none|_,_=>none
 |.div op x y=>match ev x,ev y with|.int k a,.int k' b=>if k=k'∧b≠0 then some (.int k (Q67 op k a b),σ) else none|_,_=>none
 |.bits op x y=>match ev x,ev y with|.int k a,.int k' b=>if k=k' then some (.int k (Q8 op k a b),σ) else none|_,_=>none
 |.shift op x y=>match ev x,ev y with|.int k a,.int _ b=>if 0≤b then some (.int k (TC op k a b),σ) else none|_,_=>none
 |.cmp op x y=>match ev x,ev y with|.int k a,.int k' b=>if k=k' then some (.bool (Z0n op a b),σ) else none|_,_=>none
 |.str op x y=>match ev x,ev y with
  |.string a,.string b=>match op with
   |.add=>if a.size+b.size≤2 ^ 62 then some (.string (a++b),σ) else none
   |.eql=>some (.bool (a.data.toList==b.data.toList),σ)
   |.neq=>some (.bool (!(a.data.toList==b.data.toList)),σ)
   |.lss=>some (.bool (Op.bytesLess a.data.toList b.data.toList),σ)
   |_=>none
  |_,_=>none
 |.eqB neg x y=>match ev x,ev y with|.bool a,.bool b=>some (.bool (if neg then !(a==b) else (a==b)),σ)|_,_=>none
 |.un op x=>match op,ev x with
  |.not,.bool b=>some (.bool (!b),σ)
  |.neg,.int k n=>some (.int k (k.wrap (0-n)),σ)
  |.xor,.int k n=>some (.int k (Q8 .xor k (if k.signed then -1 else k.max) n),σ)
  |_,_=>none
 |.convI k x=>match ev x with|.int _ n=>some (.int k (k.wrap n),σ)|_=>none
 |.convS x=>match ev x with|.string s=>some (.string s,σ)|_=>none
 |.alloc t z=>some (.pointer (some ⟨σ.n,0,none⟩),σ.push (.cells z ⟨z.length,t⟩ true true))
 |.box t x=>match K8 (ev x) with
  |some vs=>some (.pointer (some ⟨σ.n,0,none⟩),σ.push (.cells vs ⟨vs.length,t⟩ true true))
  |none=>none
 |.build z parts=>match Nm z (parts.map fun p=>(p.1,p.2.1,ev p.2.2)) with|some cs=>some (.agg cs.toArray,σ)|none=>none
 |.buildSlice esz z len parts=>match Nm (BN len z) (parts.map fun p=>(p.1*esz.sz,esz.sz,ev p.2)) with
  |some cs=>some (.slice (some ⟨σ.n,0,none⟩) len len,σ.push (.cells cs esz true true))
  |none=>none
 |.load agg size a=>match ev a with
  |.pointer (some ⟨g,o,some _⟩)=>(match OM g with
   |some c=>if c.all QQ then (match W5 agg size c o with|some v=>some (v,σ)|none=>none) else none
   |none=>none)
  |.pointer (some ⟨i,o,none⟩)=>match σ.get i with
   |some (.cells c _ _ _)=>match W5 agg size c o with|some v=>some (v,σ)|none=>none
   |_=>none
  |_=>none
 |.store size a v=>match ev a,K8 (ev v) with
  |.pointer (some ⟨i,o,none⟩),some vs=>match σ.get i with
   |some (.cells c e wr tight)=>if wr=true∧vs.length=size∧o+size≤c.length∧vs.all cellOk=true then some (undef,σ.upd i (.cells (Yp c o vs) e wr tight)) else none
   |_=>none
  |_,_=>none
 |.fieldAddr off a=>match ev a with
  |.pointer (some ⟨i,o,none⟩)=>some (.pointer (some ⟨i,o+off,none⟩),σ)
  |_=>none
 |.field agg off size x=>match ev x with
  |.agg cs=>match W5 agg size cs.toList off with|some v=>some (v,σ)|none=>none
  |_=>none
 |.indexAddr size x i=>match ev x,ev i with
  |.slice (some ⟨b,o,none⟩) n _,.int _ k=>if 0≤k∧k<n then some (.pointer (some ⟨b,o+k.toNat*size,none⟩),σ) else none
  |_,_=>none
 |.indexAddrArr len size x i=>match ev x,ev i with
  |.pointer (some ⟨g,o,some s⟩),.int _ k=>if 0≤k∧k<len then some (.pointer (some ⟨g,o+k.toNat*size,some s⟩),σ) else none
  |.pointer (some ⟨b,o,none⟩),.int _ k=>if 0≤k∧k<len then some (.pointer (some ⟨b,o+k.toNat*size,none⟩),σ) else none
  |_,_=>none
 |.indexStr x i=>match ev x,ev i with
  |.string s,.int _ k=>if 0≤k then (match s.data.toList[k.toNat]? with|some b=>some (.int .u8 b.toNat,σ)|none=>none) else none
  |_,_=>none
 |.indexArr len agg size x i=>match ev x,ev i with
  |.agg cs,.int _ k=>if 0≤k∧k<len then (match W5 agg size cs.toList (k.toNat*size) with|some v=>some (v,σ)|none=>none) else none
  |_,_=>none
 |.slice size x lo hi mx =>
  match ev x with
  |.slice a n cap =>
   match Jc ev lo 0,Jc ev hi n,mx with
   |some l,some h,none=>Yh size σ (.slice a n cap) l h none
   |some l,some h,some _=>match Jc ev mx 0,hi with
    |some m,some _=>Yh size σ (.slice a n cap) l h (some m)
    |_,_=>none
   |_,_,_=>none
  |_=>none
 |.sliceStr x lo hi =>
  match ev x with
  |.string s =>
   match Jc ev lo 0,Jc ev hi s.size with
   |some l,some h=>if l≤h∧h≤s.size then some (.string (s.extract l h),σ) else none
   |_,_=>none
  |_=>none
 |.makeSlice esz bytes z l c =>
  match ev l,ev c with
  |.int _ a,.int _ b=>if 0≤a∧a≤b∧b*bytes≤2 ^ 46∧b≤2 ^ 46 then some (.slice (some ⟨σ.n,0,none⟩) a.toNat b.toNat,σ.push (.cells (BN b.toNat z) esz true true)) else none
  |_,_=>none
 |.len x=>match ev x with
  |.slice _ n _=>some (.int .i64 n,σ)
  |_=>none
 |.lenStr x=>match ev x with
  |.string s=>some (.int .i64 s.size,σ)
  |_=>none
 |.append esz bytes s x =>
  match σ.sl esz.sz (ev x),ev x with
  |some xs,.slice _ m _=>if xs.all cellOk then Yb esz bytes σ (ev s) m xs else none
  |_,_=>none
 |.max4 x y z w=>match ev x,ev y,ev z,ev w with|.int k a,.int k2 b,.int k3 c,.int k4 d=>if k=k2∧k=k3∧k=k4 then some (.int k (F5 (F5 (F5 a b) c) d),σ) else none|_,_,_,_=>none
 |.max x y=>match ev x,ev y with|.int k a,.int k' b=>if k=k' then some (.int k (if b > a then b else a),σ) else none|_,_=>none
 |.min x y=>match ev x,ev y with|.int k a,.int k' b=>if k=k' then some (.int k (if b<a then b else a),σ) else none|_,_=>none
 |.makeFunc fn first cap=>some (.func fn (first.map ev).toArray (cap.map ev).toArray,σ)
 |.iface t x=>match ev x with|.chan _=>none|v=>some (.iface t v,σ)
 |.extract x i=>match ev x with
  |.tuple vs=>match vs.toList[i]? with|some v=>some (v,σ)|none=>none
  |_=>none
 |.nilCheck x=>match ev x with
  |.pointer (some a)=>some (.pointer (some a),σ)
  |.func (.func f) first cap=>some (.func (.func f) first cap,σ)
  |_=>none
 |.ext o=>Zj o ev σ
 |.callF ..|.callV ..|.bad=>none
def QZ {α:Type}(o:Option α) (f:α→Prop):Prop:=match o with|some a=>f a|none=>False
def vif (b:Bool) (A B:Prop):Prop:=(b=true→A)∧(b=false→B)
def FC (v:Value) (A B:Prop):Prop:=match v with|.bool t=>vif t A B|_=>False
abbrev Tk:=List Value→Heap→(Value→Heap→Prop)→Prop
structure VSpecs where
 fn:FuncId→Option Tk
 yl:Nat→Option Tk
 it:FuncId→Option (Nat→Tk→Tk)
def vcall (S:VSpecs) (f:FuncId) (args:List Value) (σ:Heap) (K:Value→Heap→Prop):Prop :=
 match S.fn f with
 |some s=>s args σ K
 |none=>False
def Af (S:VSpecs) (i:Nat) (args:List Value) (σ:Heap) (K:Value→Heap→Prop):Prop :=
 match S.yl i with
 |some s=>s args σ K
 |none=>False
def CD (x:Value) (σ:Heap) (K:Value→Heap→Prop):Prop :=
 match x with
 |.pointer (some ⟨i,0,none⟩)=>match σ.get i with
  |some (.obj (.iter m since seen last) true)=>match σ.mapAt m with
   |some (es,clock,_)=>(seen.isEmpty||es.isEmpty||es.any (fun e=>decide (e.2.2<last)))=true∧es.all (fun e=>KF e.1)=true ∧
     (es.all (fun e=>seen.contains e.2.2||decide (since≤e.2.2))=true→K (.tuple #[.bool false]) σ) ∧
     ∀ e∈es,seen.contains e.2.2=false→K (.tuple #[.bool true,e.1,e.2.1]) (σ.upd i (.obj (.iter m since (seen++[e.2.2]) clock) true))
   |none=>False
  |_=>False
 |_=>False
def JS (env:Env) (d:Option Nat) (v:Value):Env :=
 match d with
 |some d=>env.set d v
 |none=>env
def vop (S:VSpecs) (o:VOp) (env:Env) (σ:Heap) (K:Value→Heap→Prop):Prop :=
 match o with
 |.callF f args=>vcall S f (args.map (Q3 env)) σ K
 |.callV f args=>match Q3 env f with
  |.func (.func g) first cap=>vcall S g (first.toList++args.map (Q3 env)++cap.toList) σ K
  |.func (.yield i) _ _=>Af S i (args.map (Q3 env)) σ K
  |_=>False
 |.ext (.nextMap x)=>CD (Q3 env x) σ K
 |o=>QZ (Q6 o (Q3 env) σ) fun p=>K p.1 p.2
def Z_ (env:Env):Option (Nat×Bool)→Option Bool
 |none=>some true
 |some (d,want)=>match env.getD d undef with
  |.bool b=>some (b==want)
  |.tuple _=>some false
  |_=>none
def PM (S:VSpecs):List VOper→Env→Heap→(Env→Heap→Prop)→Prop
 |[],env,σ,K=>K env σ
 |o::rest,env,σ,K=>QZ (Z_ env o.guard) fun b =>
   vif b (vop S o.op env σ fun v σ'=>PM S rest (JS env o.dst v) σ' K) (PM S rest (JS env o.dst undef) σ K)
def Ea:Value→Bool
 |.bool _|.int _ _|.string _|.pointer none|.slice none 0 0|.map none|.nilFunc|.nilIface=>true
 |.tuple vs=>vs.toList.all QQ
 |_=>false
def Heap.Le (σ σ':Heap):Prop:=σ.n≤σ'.n∧∀ i b,σ.get i=some b→σ'.get i=some b
def GZ (A:(Value→Heap→Prop)→Prop) (R:Value→Heap→Prop):Prop:=∃ v σ',A (fun v' aC=>v'=v∧aC=σ')∧R v σ'
def JQ (op:VOp) (ev:Operand→Value) (v:Value) (τ:Heap):Prop:=QZ (Q6 op ev τ) fun q=>q.1=v
def JO (r:Nat) (σ:Heap):List (Nat×(Heap→Prop))→Prop
 |[]=>True
 |c::l=>(r≤c.1→c.2 σ)∧JO r σ l
def waits:List Nat→List DOper→Bool
 |_,[]=>true
 |xs,o::r=>((o.kind==2)||(II o.op.opds++(o.guard.map (·.1)).toList).any (fun x=>xs.contains x))&&waits (o.dst.toList++xs) r
def Zr (S:VSpecs):List DOper→Env→List Heap→Heap→List (Nat×(Heap→Prop))→(Env→Heap→Prop)→Prop
 |[],env,_,σ,_,K=>K env σ
 |o::rest,env,hs,σ,pend,K=>QZ (Z_ env o.guard) fun b =>
   vif b (if o.kind=2 then (GZ (fun R=>vop S o.op env σ R) fun v σ'=>JO hs.length σ' pend∧Zr S rest (JS env o.dst v) (hs++[σ']) σ' pend K) ∨
      (waits o.dst.toList rest=true∧vop S o.op env σ fun v σ'=>JO hs.length σ' pend∧Zr S rest (JS env o.dst v) (hs++[σ']) σ' pend K)
     else if o.kind=1 then QZ (Q6 o.op (Q3 env) σ) fun p=>(∀ τ∈hs.drop o.kmin,JQ o.op (Q3 env) p.1 τ) ∧
      Zr S rest (JS env o.dst p.1) hs σ (if hs.length≤o.kmax then (o.kmax,JQ o.op (Q3 env) p.1)::pend else pend) K
     else QZ (Q6 o.op (Q3 env) σ) fun p=>Zr S rest (JS env o.dst p.1) hs σ pend K)
    (if o.kind=2 then JO hs.length σ pend∧Zr S rest (JS env o.dst undef) (hs++[σ]) σ pend K else Zr S rest (JS env o.dst undef) hs σ pend K)
def DropE (σ0:Heap) (env:Env) (σ:Heap) (af:Env) (σ':Heap):Prop :=
 ∀ ρ0 w0 ρ w cs,HRel ρ0 σ0 w0→Ext ρ0 σ0 w0 ρ σ w→HRel ρ σ w→LRel ρ σ.n env cs→∃ ρ',LRel ρ' σ'.n af cs∧HRel ρ' σ' w∧Ext ρ0 σ0 w0 ρ' σ' w
theorem DropE.refl (σ0:Heap) (env:Env) (σ:Heap):DropE σ0 env σ env σ:=fun _ _ ρ _ _ _ hE hH hL=>⟨ρ,hL,hH,hE⟩
def M1 (S:VSpecs):List DSeg→Env→Heap→(Env→Heap→Prop)→Prop
 |[],env,σ,K=>K env σ
 |.one o::rest,env,σ,K=>PM S [o] env σ fun env σ=>M1 S rest env σ K
 |.alts l::rest,env,σ,K=>∀ ops∈l,Zr S ops env [σ] σ [] fun bp σ1=>∃ aQ σ2,DropE σ bp σ1 aQ σ2∧M1 S rest aQ σ2 K
def BH (live:List Nat) (env:Env):List Value:=live.map fun i=>env.getD i poison
def Xn:List Nat→List Value→Env→Env
 |i::l,v::vs,env=>Xn l vs (env.set i v)
 |_,_,env=>env
def Z39 (W:(Exit→Env→Heap→Prop)→Env→Heap→Prop) (Q:Exit→Env→Heap→Prop) (env:Env) (σ:Heap):Prop :=
 ∃ (live:List Nat) (I:Nat→List Value→Heap→Prop) (n0:Nat),I n0 (BH live env) σ ∧
  ∀ n vs σ',I n vs σ'→W (fun e af aC=>match e with
   |.normal=>∃ n',n'<n∧I n' (BH live af) aC
   |e=>Q e af aC) (Xn live vs (List.replicate env.length poison)) σ'
def Z4h (R:Env→Heap→Prop) (Q:Exit→Env→Heap→Prop):Exit→Env→Heap→Prop
 |.normal,env,σ=>R env σ
 |e,env,σ=>Q e env σ
def Ar (id:Nat) (Q:Exit→Env→Heap→Prop):Exit→Env→Heap→Prop
 |.exit gC,env,σ=>if gC=id then Q .normal env σ else Q (.exit gC) env σ
 |e,env,σ=>Q e env σ
def H6:Env→List Nat→List Value→Env
 |env,p::ps,v::vs=>H6 (env.set p v) ps vs
 |env,_,_=>env
def Q8h (env:Env) (r:Loop) (i:Nat) (K:Value→Heap→Prop):Exit→Env→Heap→Prop:=fun e _ σ =>
 σ.get i=some (.obj (.lp env r .busy none) true)∧match e with
  |.normal=>K (.bool true) (σ.upd i (.obj (.lp env r .ready none) true))
  |.ret=>K (.bool false) (σ.upd i (.obj (.lp env r .done (some .ret)) true))
  |.exit id=>K (.bool false) (σ.upd i (.obj (.lp env r .done (some (.exit id))) true))
  |_=>False
def Ah (A B:(Exit→Env→Heap→Prop)→Env→Heap→Prop) (ps:List Nat) (env:Env) (r:Loop) (i:Nat):Tk:=fun args σ K =>
 σ.get i=some (.obj (.lp env r .ready none) true)∧args.length=ps.length ∧
  A (Z4h (fun bp σ1=>σ1.get i=some (.obj (.lp env r .ready none) true)∧B (Q8h env r i K) bp (σ1.upd i (.obj (.lp env r .busy none) true))) (fun _ _ _=>False)) (H6 env ps args) σ
def Q10 (Q:Exit→Env→Heap→Prop) (env:Env) (i:Nat):Value→Heap→Prop:=fun _ σ =>
 match σ.get i with
 |some (.obj (.lp _ _ st pend) true)=>st≠.busy∧match pend with
  |none=>Q .normal env (σ.kill i)
  |some .ret=>Q .ret env (σ.kill i)
  |some (.exit id)=>Q (.exit id) env (σ.kill i)
  |some _=>False
 |_=>False
def Z45 (σ:Heap):Option Nat→Prop
 |none=>True
 |some i=>∃ env r st pend,σ.get i=some (.obj (.lp env r st pend) true)
def LA (S:VSpecs) (ro:Option Nat) (A B:Option Nat→(Exit→Env→Heap→Prop)→Env→Heap→Prop) (g:Value) (ps:List Nat) (Q:Exit→Env→Heap→Prop) (env:Env) (σ:Heap):Prop :=
 match g with
 |.func (.func f) first cap=>match S.it f with
  |some T=>Z45 σ ro∧∀ r:Loop,T σ.n (Ah (A (some σ.n)) (B (some σ.n)) ps env r σ.n) (first.toList++[.func (.yield σ.n) #[] #[]]++cap.toList) (σ.push (.obj (.lp env r .ready none) true)) (Q10 Q env σ.n)
  |none=>False
 |_=>False
def vwp (S:VSpecs):VCode→Option Nat→(Exit→Env→Heap→Prop)→Env→Heap→Prop
 |.skip,_,Q,env,σ=>Q .normal env σ
 |.region ops,_,Q,env,σ=>PM S ops env σ fun env σ=>Q .normal env σ
 |.regionD aP,_,Q,env,σ=>M1 S aP env σ fun env σ=>Q .normal env σ
 |.seq a b,ro,Q,env,σ=>vwp S a ro (Z4h (vwp S b ro Q) Q) env σ
 |.cond c a b,ro,Q,env,σ=>FC (Q3 env c) (vwp S a ro Q env σ) (vwp S b ro Q env σ)
 |.block id b,ro,Q,env,σ=>vwp S b ro (Ar id Q) env σ
 |.loop b,ro,Q,env,σ=>Z39 (vwp S b ro) Q env σ
 |.rangeF g ps a b,ro,Q,env,σ=>LA S ro (vwp S a) (vwp S b) (Q3 env g) ps Q env σ
 |.exit id,_,Q,env,σ=>Q (.exit id) env σ
 |.ret,_,Q,env,σ=>Q .ret env σ
 |.bad,_,_,_,_=>False
inductive VResult where
 |tmp (t:Nat)
 |cell (a:Nat) (agg:Bool) (size:Nat)
def Js (P:Program):ResultVar→Option VResult
 |.tmp t=>some (.tmp t)
 |.cell a t =>
  match P.info? t,P.underlying t with
  |some i,some d=>some (.cell a (U2 d) i.size)
  |_,_=>none
def VE (P:Program) (rs:List ResultVar):Option (List VResult):=rs.mapM (Js P)
def Ji (env:Env) (σ:Heap):VResult→Option Value
 |.tmp t=>some (env.getD t undef)
 |.cell a agg size=>(Q6 (.load agg size (.tmp a)) (Q3 env) σ).map (·.1)
def ZQ (env:Env) (σ:Heap) (rs:List VResult):Option Value :=
 match rs with
 |[r]=>Ji env σ r
 |rs=>(rs.mapM (Ji env σ)).map fun vs=>.tuple vs.toArray
def Q7i (rs:List VResult) (R:Value→Heap→Prop):Exit→Env→Heap→Prop
 |.normal,env,σ|.ret,env,σ=>QZ (ZQ env σ rs) fun v=>R v σ
 |_,_,_=>False
theorem X4 (b:Nat):∀ (vs:List Value) (o:Nat) (w:World) (k:Nat),k≠b→(w.setCells b o vs).heap[k]?=w.heap[k]?
 |[],_,_,_,_=>rfl
 |v::r,o,w,k,h=>by rw[World.setCells,X4 b r (o+1) _ k h];exact heap_setCell_other w ⟨b,o,none⟩ k v h
theorem X_ (b:Nat):∀ (vs:List Value) (o:Nat) (w:World),(w.setCells b o vs).heap.size=w.heap.size
 |[],_,_=>rfl
 |v::r,o,w=>by rw[World.setCells,X_ b r];exact World.size_setCell w _ _
theorem G9 (b:Nat):∀ (vs:List Value) (o:Nat) (w:World),(w.setCells b o vs).os=w.os∧(w.setCells b o vs).tape=w.tape∧(w.setCells b o vs).output=w.output
 |[],_,_=>⟨rfl,rfl,rfl⟩
 |v::r,o,w=>by rw[World.setCells];exact G9 b r (o+1) _
theorem KN (b:Nat):∀ (vs:List Value) (o:Nat) (w:World) (C:Array Value) (e:TypeId) (f:Nat×Nat),w.heap[b]?=some (.cells C e f) →
  ∃ C',(w.setCells b o vs).heap[b]?=some (.cells C' e f)∧C'.size=C.size
 |[],_,_,C,_,_,h=>⟨C,h,rfl⟩
 |v::r,o,w,C,e,f,h=>by
  have h1:(w.setCell ⟨b,o,none⟩ v).heap[b]?=some (.cells (C.setIfInBounds o v) e f):=by simp only[World.setCell,Array.getElem?_modify,if_true,h];simp
  obtain⟨C',h2,h3⟩:=KN b r (o+1) _ _ e f h1;exact⟨C',by rw[World.setCells];exact h2,by rw[h3];simp⟩
theorem WB (vs:List Value):∀ (c:List Value) (o:Nat),(Yp c o vs).length=c.length:=by
 induction vs with
 |nil=>intro c o;rfl
 |cons v r ih=>intro c o;rw[Yp,ih];simp
theorem WI (vs:List Value):∀ (c:List Value) (o k:Nat),(k<o∨o+vs.length≤k)→(Yp c o vs)[k]?=c[k]?:=by
 induction vs with
 |nil=>intro c o k _;rfl
 |cons v r ih =>intro c o k h;rw[Yp,ih _ _ _ (by simp at h;omega),List.getElem?_set_ne (by simp at h;omega)]
theorem S9 (vs:List Value):∀ (c:List Value) (o k:Nat),o+vs.length≤c.length→k<vs.length→(Yp c o vs)[o+k]?=vs[k]?:=by
 induction vs with
 |nil=>intro c o k _ h;simp at h
 |cons v r ih =>
  intro c o k h hk;simp at h hk;cases k with
  |zero=>rw[Yp,WI _ _ _ _ (by left;omega),Nat.add_zero,List.getElem?_set_self (by omega)];rfl
  |succ k =>rw[Yp,show o+(k+1)=o+1+k by omega,ih _ _ _ (by simp;omega) (by omega)];simp
theorem BRel.cells_ext {ρ:Plc}{n:Nat}{p:Pl}{w:World}{c:List Value}{esz:El}{wr tight:Bool}(h:BRel ρ n p w (.cells c esz wr tight)) (k:Nat) (hk:k<p.ext):(w.cell? ⟨p.blk,p.shift+k,none⟩).isSome=true:=by
 obtain⟨_,_,_,⟨C,e,f,h1,h2⟩,_⟩:=h;have h3:p.shift+k<C.size:=by omega
 simp[World.cell?,h1,h3]
theorem BRel.other {ρ ρ':Plc}{n n':Nat}{q:Pl}{w w':World}{b:Blk}(hn:n≤n') (hρ:∀ i,i<n→∀ p,ρ' i=some p→ρ i=some p) (B:Nat) (C:Array Value) (e:TypeId) (f:Nat×Nat) (hB:w.heap[B]?=some (.cells C e f))
  (aA:0<q.ext→B≠q.blk) (hC:∃ C' f',w'.heap[B]?=some (.cells C' e f')∧C.size≤C'.size) (ho:∀ k,k≠B→k<w.heap.size→w'.heap[k]?=w.heap[k]?) (hq:q.blk<w.heap.size) (h:BRel ρ n q w b):BRel ρ' n' q w' b:=by
 by_cases hk:q.blk=B
 ·have h0:q.ext=0:=by
   rcases Nat.eq_zero_or_pos q.ext with h'|h'
   ·exact h'
   ·exact absurd hk.symm (aA h')
  cases b with
  |cells c esz wr tight =>
   obtain⟨h1,h2,h3,⟨C0,e0,f0,h4,gp⟩,h5,h6⟩:=h;have hc:c=[]:=List.length_eq_zero_iff.1 (by omega);obtain⟨C',f',j_,n_⟩:=hC;have ri:C0=C∧e0=e:=by rw[hk,hB] at h4;simp at h4;exact⟨h4.1.symm,h4.2.1.symm⟩
   obtain⟨rfl,rfl⟩:=ri;refine⟨h1,h2,by omega,⟨C',e0,f',by rw[hk];exact j_,by omega,gp.2⟩,fun k v hv=>by simp[hc] at hv,fun hw=>⟨(h6 hw).1,fun k hk=>by omega⟩⟩
  |obj o wr=>have:=h.1;omega
 ·exact h.mono hn hρ (ho _ hk hq)
theorem HRel0.store {ρ:Plc}{σ:Heap}{w:World}(h:HRel0 ρ σ w) {i:Nat}{p:Pl}{c:List Value}{esz:El}{tight:Bool}(hp:ρ i=some p) (hb:σ.get i=some (.cells c esz true tight))
  {o:Nat}{vs cs:List Value}(hv:LRel ρ σ.n vs cs) (ho:o+vs.length≤c.length) :
  HRel0 ρ (σ.upd i (.cells (Yp c o vs) esz true tight)) (w.setCells p.blk (p.shift+o) cs)∧Ext ρ σ w ρ (σ.upd i (.cells (Yp c o vs) esz true tight)) (w.setCells p.blk (p.shift+o) cs):=by
 have hi:=σ.lt hb;obtain⟨p',bg,hB⟩:=h.live i _ hb;obtain rfl:p=p':=osj (hp.symm.trans bg);obtain⟨h1,h2,h3,⟨C,e,f,h4,gp⟩,h5,h6⟩:=hB;obtain⟨C',j_,n_⟩:=KN p.blk cs (p.shift+o) w C e f h4;have cy:vs.length=cs.length:=hv.1;refine⟨⟨fun j b hj=>?_,fun j hj=>?_,fun j q hq=>by rw[X_];exact h.lt j q hq,fun j k q r b ew hq hr b9 hw hx=>?_⟩,?_⟩
 ·by_cases aJ:j=i
  ·subst aJ;rw[Heap.get_upd_self _ _ hi] at hj;obtain rfl:=osj hj;refine⟨p,hp,h1,h2,by rw[WB];exact h3,⟨C',e,f,j_,by omega,gp.2⟩,fun k v hk=>?_,fun _=>⟨(h6 rfl).1,fun k hk=>by rw[World.frozen?_setCells];exact(h6 rfl).2 k hk⟩⟩;have a_:k<c.length:=by have:=(List.getElem?_eq_some_iff.1 hk).1;rwa [WB] at this
   by_cases bM:k<o∨o+vs.length≤k
   ·rw[WI _ _ _ _ bM] at hk;obtain⟨u,hu,cz⟩:=h5 k v hk;exact⟨u,by rw[World.cell?_setCells_out _ _ _ _ _ (fun _ _=>by show p.shift+k<p.shift+o∨_;simp;omega)];exact hu,cz⟩
   ·have l_:k=o+(k-o):=by omega
    rw[l_,S9 _ _ _ _ ho (by omega)] at hk;obtain⟨u,hu,cz⟩:=hv.get hk;have lH:k-o<cs.length:=(List.getElem?_eq_some_iff.1 hu).1;refine⟨u,?_,cz⟩;have:=World.cell?_setCells_in p.blk cs (p.shift+o) w (fun j hj=>by
     rw[Nat.add_assoc];exact BRel.cells_ext (ρ:=ρ) (n:=σ.n) ⟨h1,h2,h3,⟨C,e,f,h4,gp⟩,h5,h6⟩ _ (by omega)) (k-o) lH
    rw[show p.shift+o+(k-o)=p.shift+k by omega] at this;rw[this,←List.getElem?_eq_getElem lH,hu]
  ·rw[Heap.get_upd_ne _ _ aJ] at hj;obtain⟨q,hq,fw⟩:=h.live j b hj;refine⟨q,hq,fw.other (by exact Nat.le_refl _) (fun _ _ _ h=>h) p.blk C e f h4 (fun hx=>h.sep i j p q _ (Ne.symm aJ) hp hq hb rfl hx) ⟨C',f,j_,by omega⟩ (fun k hk _=>X4 _ _ _ _ _ hk) (h.lt j q hq)⟩
 ·by_cases aJ:j=i
  ·subst aJ;rw[Heap.get_upd_self _ _ hi] at hj;cases hj
  ·rw[Heap.get_upd_ne _ _ aJ] at hj;exact h.dead j hj
 ·by_cases aJ:j=i
  ·subst aJ;exact h.sep j k q r _ ew hq hr hb rfl hx
  ·rw[Heap.get_upd_ne _ _ aJ] at b9;exact h.sep j k q r b ew hq hr b9 hw hx
 ·obtain⟨e1,e2,e3⟩:=G9 p.blk cs (p.shift+o) w;refine⟨e1,e2,e3,by rw[X_];exact Nat.le_refl _,fun B hB hW=>X4 _ _ _ _ _ (fun e=>hW ⟨i,p,_,hp,hb,rfl,e.symm⟩),?_,Nat.le_refl _,fun _ _ _ h=>h⟩;rintro B _ ⟨j,q,b,hq,cY,hw,rfl⟩;by_cases aJ:j=i
  ·subst aJ;exact⟨j,q,_,hq,hb,rfl,rfl⟩
  ·rw[Heap.get_upd_ne _ _ aJ] at cY;exact⟨j,q,b,hq,cY,hw,rfl⟩
theorem HRel0.onto {ρ:Plc}{σ:Heap}{w:World}(h:HRel0 ρ σ w) {i:Nat}{p:Pl}{c:List Value}{esz:El}(hp:ρ i=some p) (hb:σ.get i=some (.cells c esz true false))
  (o':Nat) {aV vs cs:List Value}(hold:∀ k v,aV[k]?=some v→∃ u,w.cell? ⟨p.blk,p.shift+o'+k,none⟩=some u∧VRel ρ σ.n v u) (hv:LRel ρ σ.n vs cs) (ho:o'+aV.length+vs.length≤p.ext) :
  ∃ ρ',ρ' σ.n=some ⟨p.blk,p.shift+o',p.ext-o',esz,false⟩∧HRel0 ρ' ((σ.kill i).push (.cells (aV++vs) esz true false)) (w.setCells p.blk (p.shift+o'+aV.length) cs) ∧
   Ext ρ σ w ρ' ((σ.kill i).push (.cells (aV++vs) esz true false)) (w.setCells p.blk (p.shift+o'+aV.length) cs):=by
 have hi:=σ.lt hb;obtain⟨p',bg,hB⟩:=h.live i _ hb;obtain rfl:p=p':=osj (hp.symm.trans bg);have dz:=hB;obtain⟨h1,h2,h3,⟨C,e,f,h4,gp⟩,h5,h6⟩:=hB;obtain⟨C',j_,n_⟩:=KN p.blk cs (p.shift+o'+aV.length) w C e f h4;have cy:vs.length=cs.length:=hv.1;let P':Pl:=⟨p.blk,p.shift+o',p.ext-o',esz,false⟩;let ρ':Plc:=(ρ.put i none).put σ.n (some P');have gb:ρ' σ.n=some P':=by simp[ρ',Plc.put]
 have fx:ρ' i=none:=by simp only[ρ',Plc.put];rw[if_neg (by omega)];simp
 have eT:∀ j,j≠σ.n→j≠i→ρ' j=ρ j:=fun j h1 h2=>by simp[ρ',Plc.put,h1,h2]
 have aT:∀ j,j<σ.n→∀ q,ρ' j=some q→ρ j=some q:=fun j hj q hq=>by
  by_cases aJ:j=i
  ·subst aJ;rw[fx] at hq;cases hq
  ·rwa [eT j (by omega) aJ] at hq
 refine⟨ρ',gb,⟨fun j b hj=>?_,fun j hj=>?_,fun j q hq=>?_,fun j k q r b ew hq hr b9 hw hx=>?_⟩,?_⟩
 ·by_cases a7:j=σ.n
  ·subst a7;have eU:((σ.kill i).push (.cells (aV++vs) esz true false)).get σ.n=some (.cells (aV++vs) esz true false):=Heap.get_push_self (σ.kill i) _;rw[eU] at hj;obtain rfl:=osj hj;refine⟨P',gb,rfl,rfl,by simp[P'];omega,⟨C',e,f,j_,by simp[P'];omega,gp.2⟩,fun k v hk=>?_,fun _=>⟨(fun h=>by cases h),fun k hk=>?_⟩⟩
   ·by_cases bM:k<aV.length
    ·rw[List.getElem?_append_left bM] at hk;obtain⟨u,hu,cz⟩:=hold k v hk;exact⟨u,by rw[World.cell?_setCells_out _ _ _ _ _ (fun _ _=>by left;simp[P'];omega)];exact hu,cz.mono (by simp) aT⟩
    ·rw[List.getElem?_append_right (by omega)] at hk;obtain⟨u,hu,cz⟩:=hv.get hk;have lH:k-aV.length<cs.length:=(List.getElem?_eq_some_iff.1 hu).1;refine⟨u,?_,cz.mono (by simp) aT⟩;have:=World.cell?_setCells_in p.blk cs (p.shift+o'+aV.length) w (fun j hj=>by
      rw[Nat.add_assoc,Nat.add_assoc];exact dz.cells_ext _ (by omega)) (k-aV.length) lH
     rw[show p.shift+o'+aV.length+(k-aV.length)=P'.shift+k by simp[P'];omega] at this;rw[this,←List.getElem?_eq_getElem lH,hu]
   ·rw[World.frozen?_setCells,show P'.shift+k=p.shift+(o'+k) by simp[P'];omega];exact(h6 rfl).2 _ (by simp[P'] at hk;omega)
  ·have dj:(σ.kill i).get j=some b:=by rw[←hj];exact(Heap.get_push_ne (σ.kill i) _ a7).symm
   by_cases aJ:j=i
   ·subst aJ;rw[Heap.get_kill_self] at dj;cases dj
   ·rw[Heap.get_kill_ne _ aJ] at dj;obtain⟨q,hq,fw⟩:=h.live j b dj;exact⟨q,by rw[eT j a7 aJ];exact hq,fw.other (by simp) aT p.blk C e f h4 (fun hx=>h.sep i j p q _ (Ne.symm aJ) hp hq hb rfl hx) ⟨C',f,j_,by omega⟩ (fun k hk _=>X4 _ _ _ _ _ hk) (h.lt j q hq)⟩
 ·by_cases a7:j=σ.n
  ·subst a7;have eU:((σ.kill i).push (.cells (aV++vs) esz true false)).get σ.n=some (.cells (aV++vs) esz true false):=Heap.get_push_self (σ.kill i) _;rw[eU] at hj;cases hj
  ·have dj:(σ.kill i).get j=none:=by rw[←hj];exact(Heap.get_push_ne (σ.kill i) _ a7).symm
   by_cases aJ:j=i
   ·subst aJ;exact fx
   ·rw[Heap.get_kill_ne _ aJ] at dj;rw[eT j a7 aJ];exact h.dead j dj
 ·rw[X_];by_cases a7:j=σ.n
  ·subst a7;rw[gb] at hq;obtain rfl:=osj hq;exact h.lt i p hp
  ·by_cases aJ:j=i
   ·subst aJ;rw[fx] at hq;cases hq
   ·rw[eT j a7 aJ] at hq;exact h.lt j q hq
 ·by_cases a7:j=σ.n
  ·subst a7;rw[gb] at hq;obtain rfl:=osj hq;by_cases jl:k=i
   ·subst jl;rw[fx] at hr;cases hr
   ·rw[eT k (Ne.symm ew) jl] at hr;exact h.sep i k p r _ (Ne.symm jl) hp hr hb rfl hx
  ·have cu:(σ.kill i).get j=some b:=by rw[←b9];exact(Heap.get_push_ne (σ.kill i) _ a7).symm
   by_cases aJ:j=i
   ·subst aJ;rw[fx] at hq;cases hq
   rw[Heap.get_kill_ne _ aJ] at cu;rw[eT j a7 aJ] at hq;by_cases ka:k=σ.n
   ·subst ka;rw[gb] at hr;obtain rfl:=osj hr;have ma:0<p.ext:=by simp[P'] at hx;omega
    exact h.sep j i q p b aJ hq hp cu hw ma
   ·by_cases jl:k=i
    ·subst jl;rw[fx] at hr;cases hr
    ·rw[eT k ka jl] at hr;exact h.sep j k q r b ew hq hr cu hw hx
 ·obtain⟨e1,e2,e3⟩:=G9 p.blk cs (p.shift+o'+aV.length) w;refine⟨e1,e2,e3,by rw[X_];exact Nat.le_refl _,fun B hB hW=>X4 _ _ _ _ _ (fun e=>hW ⟨i,p,_,hp,hb,rfl,e.symm⟩),?_,by simp,aT⟩;rintro B _ ⟨j,q,b,hq,cY,hw,rfl⟩;by_cases a7:j=σ.n
  ·subst a7;rw[gb] at hq;obtain rfl:=osj hq;exact⟨i,p,_,hp,hb,rfl,rfl⟩
  ·have cu:(σ.kill i).get j=some b:=by rw[←cY];exact(Heap.get_push_ne (σ.kill i) _ a7).symm
   by_cases aJ:j=i
   ·subst aJ;rw[fx] at hq;cases hq
   rw[Heap.get_kill_ne _ aJ] at cu;rw[eT j a7 aJ] at hq;exact⟨j,q,b,hq,cu,hw,rfl⟩
section
variable {ρ:Plc}{σ:Heap}{w:World}
theorem HRel.store (h:HRel ρ σ w) {i:Nat}{p:Pl}{c:List Value}{esz:El}{tight:Bool}(hp:ρ i=some p) (hb:σ.get i=some (.cells c esz true tight))
  {o:Nat}{vs cs:List Value}(hv:LRel ρ σ.n vs cs) (ho:o+vs.length≤c.length) :
  HRel ρ (σ.upd i (.cells (Yp c o vs) esz true tight)) (w.setCells p.blk (p.shift+o) cs)∧Ext ρ σ w ρ (σ.upd i (.cells (Yp c o vs) esz true tight)) (w.setCells p.blk (p.shift+o) cs) :=
 let ⟨h2,h3⟩:=h.core.store hp hb hv ho
 ⟨h.ext h2 h3,h3⟩
theorem HRel.onto (h:HRel ρ σ w) {i:Nat}{p:Pl}{c:List Value}{esz:El}(hp:ρ i=some p) (hb:σ.get i=some (.cells c esz true false))
  (o':Nat) {aV vs cs:List Value}(hold:∀ k v,aV[k]?=some v→∃ u,w.cell? ⟨p.blk,p.shift+o'+k,none⟩=some u∧VRel ρ σ.n v u) (hv:LRel ρ σ.n vs cs) (ho:o'+aV.length+vs.length≤p.ext) :
  ∃ ρ',ρ' σ.n=some ⟨p.blk,p.shift+o',p.ext-o',esz,false⟩∧HRel ρ' ((σ.kill i).push (.cells (aV++vs) esz true false)) (w.setCells p.blk (p.shift+o'+aV.length) cs) ∧
   Ext ρ σ w ρ' ((σ.kill i).push (.cells (aV++vs) esz true false)) (w.setCells p.blk (p.shift+o'+aV.length) cs) :=
 let ⟨ρ',h1,h2,h3⟩:=h.core.onto hp hb o' hold hv ho
 ⟨ρ',h1,h.ext h2 h3,h3⟩
end
end Go.V
namespace Go.V
open Go
structure Like (ρ:Plc) (w w':World):Prop where
 size:w.heap.size≤w'.heap.size
 blk:∀ i p,ρ i=some p→w'.heap[p.blk]?=w.heap[p.blk]?
 tab:∀ g cs,OM g=some cs→w'.heap[g]?=w.heap[g]?
theorem Like.refl (ρ:Plc) (w:World):Like ρ w w:=⟨Nat.le_refl _,fun _ _ _=>rfl,fun _ _ _=>rfl⟩
section inv
variable {ρ:Plc}{n:Nat}{c:Value}
theorem VRel.int_inv {k:IntKind}{x:Int}(h:VRel ρ n (.int k x) c):c=.int k x:=by cases h;rfl
theorem VRel.bool_inv {b:Bool}(h:VRel ρ n (.bool b) c):c=.bool b:=by cases h;rfl
theorem VRel.string_inv {s:ByteArray}(h:VRel ρ n (.string s) c):c=.string s:=by cases h;rfl
theorem VRel.nilSl_inv {l k:Nat}(h:VRel ρ n (.slice none l k) c):l=0∧k=0∧c=.slice none 0 0:=by cases h;exact⟨rfl,rfl,rfl⟩
theorem VRel.ptr_inv {i o:Nat}{p:Pl}(hp:ρ i=some p) (h:VRel ρ n (.pointer (some ⟨i,o,none⟩)) c):(none:Option Nat)=none∧i<n∧c=.pointer (some ⟨p.blk,p.shift+o,none⟩):=by
 cases h with
 |ptr _ _ a hi h=>exact⟨rfl,hi,by rw[h p hp]⟩
theorem VRel.agg_inv {cs:Array Value}(h:VRel ρ n (.agg cs) c):∃ ds:Array Value,c=.agg ds∧LRel ρ n cs.toList ds.toList:=by
 cases h with
 |agg _ ds hc h=>exact⟨ds,rfl,LRel.of_array hc h⟩
theorem VRel.tuple_inv {cs:Array Value}(h:VRel ρ n (.tuple cs) c):∃ ds:Array Value,c=.tuple ds∧LRel ρ n cs.toList ds.toList:=by
 cases h with
 |tuple _ ds hc h=>exact⟨ds,rfl,LRel.of_array hc h⟩
end inv
theorem XM {ρ:Plc}{n:Nat}{v:Value}(h:QQ v=true):VRel ρ n v v:=by unfold QQ at h;split at h<;>first|constructor|cases h
theorem JX {ρ:Plc}{n:Nat}{l:List Value}(h:l.all QQ=true):LRel ρ n l l:=by refine⟨rfl,fun i v c hv hc=>?_⟩;obtain rfl:v=c:=osj (hv.symm.trans hc);exact XM (List.all_eq_true.1 h v (List.mem_of_getElem? hv))
theorem KZ {ρ:Plc}{n:Nat}{v:Value}(h:KF v=true):VRel ρ n v v:=by
 unfold KF at h;split at h
 ·rename_i cs;have:=VRel.agg_of (JX (ρ:=ρ) (n:=n) h);simpa using this
 ·rename_i cs;have:=VRel.tuple_of (JX (ρ:=ρ) (n:=n) h);simpa using this
 ·exact XM h
theorem Jm {ρ:Plc}{n:Nat}:VRel ρ n undef undef:=KZ rfl
theorem XS {ρ:Plc}{n:Nat}{env:Env}{a:Act}(h:LRel ρ n env a.tmps.toList) {x:Operand}(hx:JW x=true):VRel ρ n (Q3 env x) (a.eval x):=by
 cases x with
 |tmp t =>
  simp only[Q3,Act.eval];have e:List.length env=a.tmps.size:=by have:=h.1;rw[Array.length_toList] at this;exact this
  rcases Nat.lt_or_ge t (List.length env) with ht|ht
  ·have lJ:t<a.tmps.size:=by rw[←e];exact ht
   have:=h.2 t env[t] a.tmps[t] (List.getElem?_eq_getElem ht) (by simp[lJ]);simpa [List.getD,ht,lJ,Array.getD] using this
  ·have lJ:¬ t<a.tmps.size:=by rw[←e];exact Nat.not_lt.2 ht
   simp[List.getD,List.getElem?_eq_none ht,Array.getD,lJ];exact Jm
 |const v=>exact KZ hx
 |global g=>exact .glob g 0 0
 |func f=>exact .func _ #[] #[] #[] #[] rfl rfl (fun i h1=>by simp at h1) (fun i h1=>by simp at h1)
theorem Hm {ρ:Plc}{w w':World}(hl:Like ρ w w') {i:Nat}{p:Pl}(hp:ρ i=some p) (o:Nat):w'.cell? ⟨p.blk,o,none⟩=w.cell? ⟨p.blk,o,none⟩ :=
 World.cell?_of_block (a:=⟨p.blk,o,none⟩) (hl.blk i p hp)
section
variable {P:Program}{ρ:Plc}{σ:Heap}{w:World}
theorem V3 {t:TypeId}{d:TypeDesc}(h:P.underlying t=some d) (w:World):(isAgg t).run P w=.ok (U2 d) w:=by cases d<;>simp[isAgg,run_underlying h,U2]
theorem Qf {t:TypeId}{i:TypeInfo}(h:P.info? t=some i) (w:World):(sizeOf t).run P w=.ok i.size w:=by simp[sizeOf,run_typeInfo w h]
theorem Xd (b o n:Nat):(⟨b,o,none⟩:Addr).add n=⟨b,o+n,none⟩:=by unfold Addr.add;split<;>simp_all
theorem CR (hH:HRel ρ σ w) {t:TypeId}{ti:TypeInfo}{d:TypeDesc}(h1:P.info? t=some ti) (h2:P.underlying t=some d) {i o:Nat}{c:List Value}{esz:El}{wr tight:Bool}{v x:Value}
  (hb:σ.get i=some (.cells c esz wr tight)) (hv:W5 (U2 d) ti.size c o=some v) (hx:VRel ρ σ.n (.pointer (some ⟨i,o,none⟩)) x) :
  ∃ u,VRel ρ σ.n v u∧∀ w',Like ρ w w'→(Instr.loadAt t x).run P w'=.ok u w':=by
 obtain⟨p,hp,_,_,_,_,h5,_⟩:=hH.live i _ hb;obtain⟨_,_,rfl⟩:=hx.ptr_inv hp;unfold W5 at hv;cases eO:U2 d with
 |false =>
  simp[eO] at hv;obtain⟨u,hu,cz⟩:=h5 o v hv;refine⟨u,cz,fun w' hl=>?_⟩;have:w'.cell? ⟨p.blk,p.shift+o,none⟩=some u:=by rw[Hm hl hp];exact hu
  simp[Instr.loadAt,Instr.sureAddr,loadVar,V3 h2,eO,this]
 |true =>
  simp only[eO,if_true] at hv;split at hv
  ·rename_i hlen;simp at hv;subst hv;have hex:∃ us:List Value,us.length=ti.size∧∀ k,k<ti.size→∃ u,us[k]?=some u∧w.cell? ⟨p.blk,p.shift+o+k,none⟩=some u∧∀ v,c[o+k]?=some v→VRel ρ σ.n v u:=by
    refine⟨(List.range ti.size).map fun k=>(w.cell? ⟨p.blk,p.shift+o+k,none⟩).getD undef,by simp,fun k hk=>?_⟩;obtain⟨u,hu,cz⟩:=h5 (o+k) _ (List.getElem?_eq_getElem (by omega));rw[←Nat.add_assoc] at hu;refine⟨u,by simp[hk,hu],hu,fun v hv=>?_⟩;rw[List.getElem?_eq_getElem (by omega)] at hv;obtain rfl:=osj hv;exact cz
   obtain⟨us,rj,dS⟩:=hex;refine⟨.agg us.toArray,VRel.agg_of ⟨by simp;omega,fun k v u hk hu=>?_⟩,fun w' hl=>?_⟩
   ·have a_:k<ti.size:=by have:=(List.getElem?_eq_some_iff.1 hu).1;omega
    rw[List.getElem?_take,if_pos a_,List.getElem?_drop] at hk;obtain⟨u',b_,_,fP⟩:=dS k a_;rw[hu] at b_;obtain rfl:=osj b_;exact fP v hk
   ·have cI:∀ j v,us[j]?=some v→w'.cell? ((⟨p.blk,p.shift+o,none⟩:Addr).add j)=some v:=fun j v hj=>by
     have cf:j<ti.size:=by have:=(List.getElem?_eq_some_iff.1 hj).1;omega
     obtain⟨u',b_,cK,_⟩:=dS j cf;rw[hj] at b_;obtain rfl:=osj b_;rw[Xd,Hm hl hp];exact cK
    have:=run_loadCells_list (P:=P) w' ⟨p.blk,p.shift+o,none⟩ us cI;rw[rj] at this;simp[Instr.loadAt,Instr.sureAddr,loadVar,V3 h2,eO,Qf h1,this]
  ·cases hv
theorem Ll (hH:HRel ρ σ w) {t:TypeId}{ti:TypeInfo}{d:TypeDesc}(h1:P.info? t=some ti) (h2:P.underlying t=some d) {g o s:Nat}{c:List Value}{v x:Value}
  (hb:OM g=some c) (aT:c.all QQ=true) (hv:W5 (U2 d) ti.size c o=some v) (hx:VRel ρ σ.n (.pointer (some ⟨g,o,some s⟩)) x) :
  ∃ u,VRel ρ σ.n v u∧∀ w',Like ρ w w'→(Instr.loadAt t x).run P w'=.ok u w':=by
 obtain⟨⟨e,f,hw⟩,_⟩:=hH.tab g c hb;obtain rfl:x=.pointer (some ⟨g,o,none⟩):=by cases hx;rfl
 have bu:∀ w',Like ρ w w'→∀ k,w'.cell? ⟨g,k,none⟩=c[k]?:=fun w' hl k=>by have:=hl.tab g c hb;simp[World.cell?,this,hw]
 unfold W5 at hv;cases eO:U2 d with
 |false =>
  simp[eO] at hv;refine⟨v,XM (List.all_eq_true.1 aT v (List.mem_of_getElem? hv)),fun w' hl=>?_⟩;have:w'.cell? ⟨g,o,none⟩=some v:=by rw[bu w' hl];exact hv
  simp[Instr.loadAt,Instr.sureAddr,loadVar,V3 h2,eO,this]
 |true =>
  simp only[eO,if_true] at hv;split at hv
  ·rename_i hlen;simp at hv;subst hv;have ae:((c.drop o).take ti.size).all QQ=true:=List.all_eq_true.2 fun x hx=>List.all_eq_true.1 aT x (List.mem_of_mem_drop (List.mem_of_mem_take hx));refine⟨_,VRel.agg_of (JX ae),fun w' hl=>?_⟩;have cI:∀ j v,((c.drop o).take ti.size)[j]?=some v→w'.cell? ((⟨g,o,none⟩:Addr).add j)=some v:=fun j v hj=>by
    rw[Xd,bu w' hl];rw[List.getElem?_take] at hj;split at hj
    ·rw[List.getElem?_drop] at hj;exact hj
    ·cases hj
   have:=run_loadCells_list (P:=P) w' ⟨g,o,none⟩ _ cI;have cA:((c.drop o).take ti.size).length=ti.size:=by rw[List.length_take,List.length_drop];omega
   rw[cA] at this;simp[Instr.loadAt,Instr.sureAddr,loadVar,V3 h2,eO,Qf h1,this]
  ·cases hv
theorem AA {t:TypeId}{ti:TypeInfo}{d:TypeDesc}(h1:P.info? t=some ti) (h2:P.underlying t=some d) {cs ds:Array Value}{o:Nat}{v:Value}{n:Nat}
  (hv:W5 (U2 d) ti.size cs.toList o=some v) (hl:LRel ρ n cs.toList ds.toList):∃ u,VRel ρ n v u∧∀ w',(part t ds o).run P w'=.ok u w':=by
 unfold W5 at hv;cases eO:U2 d with
 |false =>
  simp only[eO,Bool.false_eq_true,if_false] at hv;obtain⟨u,hu,cz⟩:=hl.get hv;refine⟨u,cz,fun w'=>?_⟩;have:ds[o]?=some u:=by simpa using hu
  simp[part,V3 h2,eO,this]
 |true =>
  simp only[eO,if_true] at hv;split at hv
  ·rename_i hlen;simp at hv;subst hv;refine⟨.agg (ds.extract o (o+ti.size)),?_,fun w'=>by simp[part,V3 h2,eO,Qf h1]⟩;have:LRel ρ n ((cs.toList.drop o).take ti.size) ((ds.toList.drop o).take ti.size):=by
    refine⟨by have:=hl.1;simp at this ⊢;omega,fun k v u hk hu=>?_⟩;rw[List.getElem?_take] at hk hu;split at hk
    ·rename_i a_;rw[if_pos a_,List.getElem?_drop] at hu;rw[List.getElem?_drop] at hk;exact hl.2 _ v u hk hu
    ·cases hk
   have h3:=VRel.agg_of this;have h4:((ds.toList.drop o).take ti.size).toArray=ds.extract o (o+ti.size):=by apply Array.ext';simp[Array.toList_extract,List.extract_eq_take_drop]
   rwa [h4] at h3
  ·cases hv
end
end Go.V
namespace Go.V
open Go
theorem Dy {ρ:Plc}{n:Nat}{v c:Value}{vs:List Value}(h:K8 v=some vs) (hv:VRel ρ n v c):LRel ρ n vs c.cells.toList:=by
 unfold K8 at h;split at h
 ·obtain⟨ds,rfl,hl⟩:=hv.agg_inv;simp at h;subst h;exact hl
 ·cases h
 ·cases h
 ·rename_i h1 h2 h3;simp at h;subst h;have hc:c.cells.toList=[c]:=by
   cases hv<;>first|rfl|(exact absurd rfl (h1 _))|(exact absurd rfl (h2 _))|(exact absurd rfl (h3 _))
  rw[hc];exact LRel.cons hv (LRel.nil _ _)
theorem EH (off:Nat):∀ (vs:List Value) (k:Nat) (cells:Array Value),
  (((vs.zipIdx k).foldl (fun (cs:Array Value) (p:Value×Nat)=>cs.setIfInBounds (off+p.2) p.1) cells)).toList=Yp cells.toList (off+k) vs:=by
 intro vs;induction vs with
 |nil=>intro k cells;rfl
 |cons v r ih =>intro k cells;simp only[List.zipIdx_cons,List.foldl_cons];rw[ih,Yp];simp[Nat.add_assoc]
theorem Q0f {ρ:Plc}{n:Nat}:∀ (vs us c d:List Value) (o:Nat),LRel ρ n c d→LRel ρ n vs us→LRel ρ n (Yp c o vs) (Yp d o us):=by
 intro vs;induction vs with
 |nil=>intro us c d o hc hv;cases us with
  |nil=>exact hc
  |cons _ _=>have:=hv.1;simp at this
 |cons v r ih =>
  intro us c d o hc hv;cases us with
  |nil=>have:=hv.1;simp at this
  |cons u us =>rw[Yp,Yp];have h0:VRel ρ n v u:=hv.2 0 v u rfl rfl;have hr:LRel ρ n r us:=⟨by have:=hv.1;simpa using this,fun i a b ha hb=>hv.2 (i+1) a b (by simpa using ha) (by simpa using hb)⟩;exact ih us _ _ _ (hc.set o h0) hr
theorem S7 {ρ:Plc}{n:Nat}(place:Nat→Option (Nat×Nat)):∀ (l:List (Nat×Nat×Value)) (l':List (Nat×Value)) (c c':List Value) (cells:Array Value),
  l.length=l'.length→(∀ (k:Nat) (a:Nat×Nat×Value) (b:Nat×Value),l[k]?=some a→l'[k]?=some b→place b.1=some (a.1,a.2.1)∧VRel ρ n a.2.2 b.2) →
  Nm c l=some c'→LRel ρ n c cells.toList→∃ bq,Instr.fill place cells l'=some bq∧LRel ρ n c' bq.toList:=by
 intro l;induction l with
 |nil =>
  intro l' c c' cells hl _ hf hc;cases l' with
  |nil=>simp[Nm] at hf;subst hf;exact⟨cells,rfl,hc⟩
  |cons _ _=>simp at hl
 |cons a r ih =>
  intro l' c c' cells hl hk hf hc;cases l' with
  |nil=>simp at hl
  |cons b r' =>
   obtain⟨o,s,v⟩:=a;obtain⟨j,u⟩:=b;obtain⟨hp,hv⟩:=hk 0 _ _ rfl rfl;simp only at hp hv;simp only[Nm] at hf;split at hf
   ·rename_i vs cB;split at hf
    ·rename_i ak;obtain⟨hs,hle⟩:=ak;have dZ:=Dy cB hv;have az:u.cells.size=s:=by have:=dZ.1;simp at this;omega
     have hlen:cells.size=c.length:=by have:=hc.1;simp at this;omega
     obtain⟨bq,h1,h2⟩:=ih r' (Yp c o vs) c' (u.cells.zipIdx.foldl (fun cs (c,j)=>cs.setIfInBounds (o+j) c) cells) (by simpa using hl)
      (fun k a b ha hb=>hk (k+1) a b (by simpa using ha) (by simpa using hb)) hf (by
       have:=EH o u.cells.toList 0 cells;rw[←Array.foldl_toList,Array.toList_zipIdx];rw[show (o+0)=o from rfl] at this;refine Eq.subst (motive:=fun x=>LRel ρ n (Yp c o vs) x) this.symm ?_;exact Q0f _ _ _ _ _ hc dZ)
     refine⟨bq,?_,h2⟩;simp only[Instr.fill,hp];rw[if_neg (by simp;omega)];exact h1
    ·cases hf
   ·cases hf
theorem RN {ρ:Plc}{n:Nat}{env:Env}{ev:Operand→Value}(hE:∀ x,JW x=true→VRel ρ n (Q3 env x) (ev x)) {l:List Operand}(h:l.all JW=true):LRel ρ n (l.map (Q3 env)) (l.map ev):=by
 refine⟨by simp,fun i v c hv hc=>?_⟩;rw[List.getElem?_map] at hv hc;cases hx:l[i]? with
 |none=>simp[hx] at hv
 |some x =>simp[hx] at hv hc;subst hv;subst hc;exact hE x (List.all_eq_true.1 h x (List.mem_of_getElem? hx))
theorem Q0 {P:Program}{t:TypeId}{d:TypeDesc}(h:P.underlying t=some d) (w:World):(underlying t).run P w=.ok d w:=run_underlying h w
def LR (P:Program) (ρ:Plc) (σ:Heap) (w:World) (v:Value) (s:Sem Next):Prop :=
 ∃ c,VRel ρ σ.n v c∧∀ w',Like ρ w w'→s.run P w'=.ok (.value c) w'
theorem W1 {α β:Type}(f:α→Option β):∀ (l:List α) (r:List β),l.mapM f=some r→r.length=l.length∧∀ (i:Nat) (a:α),l[i]?=some a→∃ b,r[i]?=some b∧f a=some b:=by
 intro l;induction l with
 |nil=>intro r h;simp at h;subst h;exact⟨rfl,fun i a h=>by simp at h⟩
 |cons a l ih =>
  intro r h;rw[List.mapM_cons] at h;cases hf:f a with
  |none=>simp[hf] at h
  |some b =>
   cases hm:l.mapM f with
   |none=>simp[hf,hm] at h
   |some r' =>
    simp[hf,hm] at h;subst h;obtain⟨h1,h2⟩:=ih r' hm;refine⟨by simp[h1],fun i x hx=>?_⟩;cases i with
    |zero=>simp at hx;subst hx;exact⟨b,rfl,hf⟩
    |succ i=>simp at hx;simpa using h2 i x hx
theorem Q0c {P:Program}{α β:Type}(g:α→Sem β) (f:α→β) (w:World):∀ (l:List α),(∀ a∈l,(g a).run P w=.ok (f a) w)→(l.mapM g).run P w=.ok (l.map f) w:=by
 intro l;induction l with
 |nil=>intro _;rfl
 |cons a l ih =>intro h;rw[List.mapM_cons];simp[h a (by simp),ih (fun b hb=>h b (by simp[hb]))]
theorem Wt {P:Program}{t:TypeId}{z:List Value}(h:zeroOf P t=some z):∃ i zv,P.info? t=some i∧i.zero=some zv∧zv.cells.toList=z∧z.length=i.size∧z.all QQ=true:=by
 unfold zeroOf at h;cases hi:P.info? t with
 |none=>simp[hi] at h
 |some i =>
  cases hz:i.zero with
  |none=>simp[hi,hz] at h
  |some zv =>simp[hi,hz] at h;obtain⟨h1,h2⟩:=h;subst h2;exact⟨i,zv,rfl,hz,rfl,by simpa using h1.1,by simpa using h1.2⟩
theorem Z5 {P:Program}{t:TypeId}{i:TypeInfo}{zv:Value}(h:P.info? t=some i) (hz:i.zero=some zv) (w:World):(zeroValue t).run P w=.ok zv w:=by simp[zeroValue,run_typeInfo w h,hz]
section
variable {P:Program}{ρ:Plc}{σ σ':Heap}{w:World}{ev:Operand→Value}{env:Env}{v:Value}
theorem Qj {s:Sem Next}{v c:Value}(h:∀ w',s.run P w'=.ok (.value c) w') (hc:VRel ρ σ.n v c):LR P ρ σ w v s:=⟨c,hc,fun w' _=>h w'⟩
theorem UK (op:BinOp) (t:TypeId) (x y:Operand) (yt:TypeId) (ty:TypeId) (pos:String) (after:Array Edge) (dst:Option Tmp) (g:Option (Nat×Bool)) {v c a b:Value}(hx:ev x=a) (hy:ev y=b)
  (qm:(∃ k n k' n',a=.int k n∧b=.int k' n')∨(∃ s s',a=.string s∧b=.string s')∨(∃ s s',a=.bool s∧b=.bool s'))
  (h:∀ w',(binOp op t a b).run P w'=.ok c w') (hc:VRel ρ σ.n v c):LR P ρ σ w v (execOp ev ⟨dst,.binOp op t x y yt,ty,pos,after,g⟩):=by
 refine Qj (c:=c) (fun w'=>?_) hc;have he:∀ w',(eqGuard op t x y a b).run P w'=.ok () w':=fun w'=>by rcases qm with⟨k,n,k',n',rfl,rfl⟩|⟨s,s',rfl,rfl⟩|⟨s,s',rfl,rfl⟩<;>(unfold eqGuard;cases op<;>simp)
 simp only[execOp,hx,hy];simp[he,h]
theorem Br {t:TypeId}(h:P.underlying t=some .bool) (a b:Bool) (d:Nat) (w:World):(Op.equalIn (d+1) t (.bool a) (.bool b)).run P w=.ok (a==b) w:=by simp only[Op.equalIn,Sem.run_bind,Q0 h,Result.andThen_ok,Sem.run_pure]
theorem Tl {t:TypeId}(h:P.underlying t=some .bool) (a b:Bool) (w:World):(Op.equal t (.bool a) (.bool b)).run P w=.ok (a==b) w :=
 Br h a b 9999 w
theorem VRel.ptr_inv' {n:Nat}{i o:Nat}{c:Value}(h:VRel ρ n (.pointer (some ⟨i,o,none⟩)) c):∃ a:Addr,c=.pointer (some a)∧i<n∧∀ p,ρ i=some p→a=⟨p.blk,p.shift+o,none⟩:=by
 cases h with
 |ptr _ _ a hi h=>exact⟨a,rfl,hi,h⟩
theorem VRel.sl_inv {n:Nat}{i o len cap:Nat}{c:Value}(h:VRel ρ n (.slice (some ⟨i,o,none⟩) len cap) c):∃ (a:Addr) (au:Nat),c=.slice (some a) len au∧i<n ∧
  ∀ p,ρ i=some p→cap≤au∧(p.tight=true→au=cap)∧∃ o',a=⟨p.blk,p.shift+o',none⟩∧o'+au*p.esz.sz≤p.ext∧(o'=o∨(len=0∧cap=0)):=by
 cases h with
 |sl _ _ _ _ a au hi h=>exact⟨a,au,rfl,hi,h⟩
theorem VRel.slx_sl {n:Nat}{i o len cap:Nat}{c:Value}(h:VRel ρ n (.slice (some ⟨i,o,some 0⟩) len cap) c):∃ a:Addr,c=.slice (some a) len cap∧i<n∧(∀ p,ρ i=some p→a=⟨p.blk,p.shift+o,none⟩∧o+cap*p.esz.sz≤p.ext)∧VRel ρ n (.slice (some ⟨i,o,none⟩) len cap) c:=by
 cases h with
 |slx _ _ _ _ a hi h=>exact⟨a,rfl,hi,h,.sl _ _ _ _ _ _ hi fun p hp=>⟨Nat.le_refl _,fun _=>rfl,o,(h p hp).1,(h p hp).2,.inl rfl⟩⟩
theorem VRel.sl_len {n:Nat}{a:Option Addr}{len cap:Nat}{c:Value}(h:VRel ρ n (.slice a len cap) c):∃ a' au,c=.slice a' len au:=by
 cases h with
 |sl _ _ _ _ a au hi h=>exact⟨_,au,rfl⟩
 |slx _ _ _ _ a hi h=>exact⟨_,_,rfl⟩
 |nilSl=>exact⟨_,_,rfl⟩
theorem Wv {op:Option Operand}{d l:Nat}(hE:∀ x,JW x=true→VRel ρ σ.n (Q3 env x) (ev x)) (ah:∀ x,op=some x→JW x=true) (h:Jc (Q3 env) op d=some l) :
  (op=none∧l=d)∨∃ x k i,op=some x∧ev x=.int k i∧0≤i∧l=i.toNat:=by
 cases op with
 |none=>simp[Jc] at h;exact .inl ⟨rfl,h.symm⟩
 |some x =>
  have hr:=hE x (ah x rfl);simp only[Jc] at h;split at h
  ·rename_i k i heq;rw[heq] at hr;split at h
   ·rename_i hi;simp at h;exact .inr ⟨x,k,i,rfl,hr.int_inv,hi,h.symm⟩
   ·cases h
  ·cases h
theorem Z4 (k:IntKind) (i:Int) (y:Nat) (code:BoundsCode) (h:0≤i) (h':i.toNat≤y) (w:World):(Instr.sliceBound (.int k i) y code).run P w=.ok i.toNat w:=by
 have:i≤y:=by omega
 simp[Instr.sliceBound,asIntOf,h,this]
theorem YK {lo hi:Option Operand}{isSlice:Bool}{n cap l h:Nat}(oG:(lo=none∧l=0)∨∃ x k i,lo=some x∧ev x=.int k i∧0≤i∧l=i.toNat)
  (ke:(hi=none∧h=n)∨∃ x k i,hi=some x∧ev x=.int k i∧0≤i∧h=i.toNat) (h1:l≤h) (h2:h≤cap) (w:World) :
  (Instr.sliceBounds isSlice n cap (lo.map ev) (hi.map ev) none).run P w=.ok (l,h,cap) w:=by
 rcases oG with⟨rfl,rfl⟩|⟨x,k,i,rfl,hx,oa,rfl⟩<;>rcases ke with⟨rfl,rfl⟩|⟨y,k',i',rfl,hy,ia,rfl⟩
 ·simp[Instr.sliceBounds]
 ·simp[Instr.sliceBounds,hy,Z4 k' i' _ _ ia h2]
 ·simp[Instr.sliceBounds,hx,Z4 k i _ _ oa h1]
 ·simp[Instr.sliceBounds,hx,hy,Z4 k i _ _ oa h1,Z4 k' i' _ _ ia h2]
set_option maxHeartbeats 1000000 in
theorem Cz {o:Oper}{vo:VOp}(hc:KY P o.op = some vo) (hq:vo.quiet = true) (hH:HRel ρ σ w) (hE:∀ x, JW x = true → VRel ρ σ.n (Q3 env x) (ev x))
    (h:Q6 vo (Q3 env) σ = some (v, σ')):σ' = σ ∧ LR P ρ σ w v (execOp ev o):=by
  obtain ⟨dst, op, ty, pos, after, guard⟩:=o;simp only at hc;unfold KY at hc;split at hc
  · cases hc
  rename_i ah;simp only [Bool.not_eq_true, Bool.not_eq_false'] at ah;cases op <;> simp only [Op.operands] at ah hc
  case move x =>
    have hx:=hE x (by simpa using ah);simp at hc; subst hc;simp [Q6] at h;obtain ⟨rfl, rfl⟩:=h;exact ⟨rfl, Qj (fun w' => by simp [execOp]) hx⟩
  case assign x =>
    have hx:=hE x (by simpa using ah);simp at hc; subst hc;simp [Q6] at h;obtain ⟨rfl, rfl⟩:=h;exact ⟨rfl, Qj (fun w' => by simp [execOp]) hx⟩
  case pick c a b =>
    simp at ah;have hx:=hE c ah.1;have ha:=hE a ah.2.1;have hb:=hE b ah.2.2;simp at hc; subst hc;simp only [Q6] at h;split at h
    · rename_i t heq
      rw [heq] at hx;simp at h;obtain ⟨h1, rfl⟩:=h;refine ⟨rfl, Qj (c:=if t then ev a else ev b) (fun w' => by simp [execOp, hx.bool_inv, asBool]) ?_⟩;rw [← h1]; split <;> assumption
    · cases h
  case binOp iD t x y yt =>
    simp at ah;have hx:=hE x ah.1;have hy:=hE y ah.2;split at hc
    ·
      cases iD <;> simp at hc <;> subst hc <;> simp only [Q6] at h <;> split at h <;> first
        | (cases h; done)
        | (rename_i k a k' b h1 h2
           rw [h1] at hx; rw [h2] at hy;have ex:=hx.int_inv;have ey:=hy.int_inv;split at h
           · rename_i ak
             simp at h; obtain ⟨rfl, rfl⟩:=h;refine ⟨rfl, ?_⟩
             first
              | refine UK _ t x y yt ty pos after dst guard ex ey (.inl ⟨_, _, _, _, rfl, rfl⟩) (fun w' => ?_) (VRel.int _ _)
              | refine UK _ t x y yt ty pos after dst guard ex ey (.inl ⟨_, _, _, _, rfl, rfl⟩) (fun w' => ?_) (VRel.bool _)
             first
              | (obtain rfl:=ak; simp [binOp, Op.intArith, R5]; done)
              | (obtain ⟨rfl, rk⟩:=ak; simp [binOp, Op.intDiv, Q67, rk]; done)
              | (obtain rfl:=ak; simp [binOp, Op.intBits, Q8]; done)
              | (obtain rfl:=ak; simp [binOp, Op.intCmp, Z0n]; done)
              | (simp [binOp, Op.shift, TC, Int.not_lt.2 ak, Nat.min_def]; done)
           · cases h)
    ·
      simp at hc; subst hc;simp only [Q6] at h;split at h
      · rename_i a b h1 h2
        rw [h1] at hx; rw [h2] at hy;have ex:=hx.string_inv;have ey:=hy.string_inv
        cases iD <;> simp only at h <;> first
          | (cases h; done)
          | (split at h
             · rename_i aI
               simp at h; obtain ⟨rfl, rfl⟩:=h;refine ⟨rfl, UK _ t x y yt ty pos after dst guard ex ey (.inr (.inl ⟨_, _, rfl, rfl⟩)) (c:=.string (a ++ b)) (fun w' => ?_) (VRel.string _)⟩;have:¬ (((a.size + b.size:Nat):Int) > IntKind.i64.max):=by
                 have:IntKind.i64.max = 9223372036854775807:=by decide
                 omega
               simp only [binOp, Op.stringOp, if_neg this]; rfl
             · cases h)
          | (simp at h; obtain ⟨rfl, rfl⟩:=h
             exact ⟨rfl, UK _ t x y yt ty pos after dst guard ex ey (.inr (.inl ⟨_, _, rfl, rfl⟩)) (fun w' => by simp [binOp, Op.stringOp, ByteArray.toList_eq]) (VRel.bool _)⟩)
      · cases h
    ·
      rename_i oH
      cases iD <;> simp at hc <;> subst hc <;> simp only [Q6] at h <;> split at h <;> first
        | (cases h; done)
        | (rename_i a b h1 h2
           rw [h1] at hx; rw [h2] at hy;have ex:=hx.bool_inv;have ey:=hy.bool_inv;simp at h; obtain ⟨rfl, rfl⟩:=h;refine ⟨rfl, UK _ t x y yt ty pos after dst guard ex ey (.inr (.inr ⟨_, _, rfl, rfl⟩)) (fun w' => ?_) (VRel.bool _)⟩;simp [binOp, Tl oH])
    · cases hc
  case unOp tI t x =>
    have hx:=hE x (by simpa using ah);simp at hc; subst hc;simp only [Q6] at h
    split at h <;> first
      | (cases h; done)
      | (rename_i h1; rw [h1] at hx; simp at h; obtain ⟨rfl, rfl⟩:=h
         refine ⟨rfl, ?_⟩
         first
          | (have e:=hx.bool_inv; refine Qj (fun w' => ?_) (VRel.bool _); simp [execOp, e, Op.unary]; done)
          | (have e:=hx.int_inv; refine Qj (fun w' => ?_) (VRel.int _ _); simp [execOp, e, Op.unary, Op.intArith]; done)
          | (have e:=hx.int_inv; refine Qj (fun w' => ?_) (VRel.int _ _); simp [execOp, e, Op.unary, Op.intBits, Q8]; done))
  case convert s d x =>
    have hx:=hE x (by simpa using ah);split at hc
    · rename_i k0 k hs hd
      simp at hc; subst hc;simp only [Q6] at h;split at h
      · rename_i h1; rw [h1] at hx; simp at h; obtain ⟨rfl, rfl⟩:=h
        exact ⟨rfl, Qj (fun w' => by simp [execOp, hx.int_inv, convert, Q0 hs, Q0 hd, Conv.intToInt]) (VRel.int _ _)⟩
      · cases h
    · rename_i hs hd
      simp at hc; subst hc;simp only [Q6] at h;split at h
      · rename_i h1; rw [h1] at hx; simp at h; obtain ⟨rfl, rfl⟩:=h
        exact ⟨rfl, Qj (fun w' => by simp [execOp, hx.string_inv, convert, Q0 hs, Q0 hd]) (VRel.string _)⟩
      · cases h
    · cases hc
  case alloc t =>
    cases hz:zeroOf P t <;> simp [hz] at hc;subst hc; cases hq
  case box t x => simp at hc; subst hc; cases hq
  case buildSlice t len parts =>
    split at hc
    · rename_i e _
      cases hz:zeroOf P e with
      | none => simp [hz] at hc
      | some z =>
        simp only [hz, Option.bind_eq_bind, Option.bind_some] at hc;split at hc
        · cases hc
        · simp at hc; subst hc; cases hq
    · cases hc
  case store t a x =>
    cases hi:P.info? t <;> simp [hi] at hc;subst hc; cases hq
  case makeSlice t l c =>
    split at hc
    · rename_i e _
      cases hi:P.info? e with
      | none => simp [hi] at hc
      | some ei =>
        cases hz:zeroOf P e with
        | none => simp [hi, hz] at hc
        | some z =>
          simp only [hi, hz, Option.bind_eq_bind, Option.bind_some] at hc;split at hc
          · cases hc
          · simp at hc; subst hc; cases hq
    · cases hc
  case load t a =>
    have ha:=hE a (by simpa using ah);cases hi:P.info? t with
    | none => simp [hi] at hc
    | some ti =>
      cases hu:P.underlying t with
      | none => simp [hi, hu] at hc
      | some d =>
        simp [hi, hu] at hc; subst hc;simp only [Q6] at h;split at h
        · rename_i g o s h1
          rw [h1] at ha;split at h
          · rename_i c hb
            split at h
            · rename_i ae
              split at h
              · rename_i v0 hv
                simp at h; obtain ⟨rfl, rfl⟩:=h;obtain ⟨u, cz, hr⟩:=Ll hH hi hu hb ae hv ha;exact ⟨rfl, u, cz, fun w' hl => by simp [execOp, hr w' hl]⟩
              · cases h
            · cases h
          · cases h
        · rename_i i o h1
          rw [h1] at ha;split at h
          · rename_i c esz wr tight hb
            split at h
            · rename_i v0 hv
              simp at h; obtain ⟨rfl, rfl⟩:=h;obtain ⟨u, cz, hr⟩:=CR hH hi hu hb hv ha;exact ⟨rfl, u, cz, fun w' hl => by simp [execOp, hr w' hl]⟩
            · cases h
          · cases h
        · cases h
  case fieldAddr t a f =>
    have ha:=hE a (by simpa using ah);cases hf:Dh P t f with
    | none => simp [hf] at hc
    | some fd =>
      cases hi:P.info? fd.type with
      | none => simp [hf, hi] at hc
      | some fi =>
        simp only [hf, hi, Option.bind_eq_bind, Option.bind_some] at hc;split at hc
        · cases hc
        · rename_i aI
          simp at hc; subst hc;simp only [Q6] at h;split at h
          · rename_i i o h1
            rw [h1] at ha;simp at h; obtain ⟨rfl, rfl⟩:=h;unfold Dh at hf;split at hf
            · rename_i fs hu
              simp at aI;obtain ⟨ad, heq, aM, aT⟩:=ha.ptr_inv';cases hρ:ρ i with
              | none =>refine ⟨rfl, .pointer (some (ad.add fd.offset)), .ptr _ _ _ aM (fun p hp => by rw [hρ] at hp; cases hp), fun w' _ => ?_⟩;simp [execOp, heq, Instr.fieldAt, Q0 hu, hf, Instr.sureAddr, fieldPlace, Qf hi, aI]
              | some p =>obtain rfl:=aT p hρ;refine ⟨rfl, .pointer (some ⟨p.blk, p.shift + (o + fd.offset), none⟩), .ptr _ _ _ aM (fun q hq => by rw [hρ] at hq; obtain rfl:=osj hq; rfl), fun w' _ => ?_⟩;simp [execOp, heq, Instr.fieldAt, Q0 hu, hf, Instr.sureAddr, fieldPlace, Qf hi, aI, Xd, Nat.add_assoc]
            · cases hf
          · cases h
  case field t x f =>
    have hx:=hE x (by simpa using ah);cases hf:Dh P t f with
    | none => simp [hf] at hc
    | some fd =>
      cases hi:P.info? fd.type with
      | none => simp [hf, hi] at hc
      | some fi =>
        cases hu:P.underlying fd.type with
        | none => simp [hf, hi, hu] at hc
        | some d =>
          simp [hf, hi, hu] at hc; subst hc;simp only [Q6] at h;split at h
          · rename_i cs h1
            rw [h1] at hx;obtain ⟨ds, hds, hl⟩:=hx.agg_inv;split at h
            · rename_i v0 hv
              simp at h; obtain ⟨rfl, rfl⟩:=h;obtain ⟨u, cz, hr⟩:=AA hi hu hv hl;unfold Dh at hf;split at hf
              · rename_i fs oI
                exact ⟨rfl, u, cz, fun w' _ => by simp [execOp, hds, Instr.field, Q0 oI, hf, asAgg, hr]⟩
              · cases hf
            · cases h
          · cases h
  case makeFunc fn first cap =>
    rw [Array.toList_append, List.all_append, Bool.and_eq_true] at ah;cases fn <;> simp at hc;rename_i f;subst hc;simp only [Q6] at h;simp at h; obtain ⟨rfl, rfl⟩:=h;have h1:=RN hE (l:=first.toList) ah.1;have h2:=RN hE (l:=cap.toList) ah.2;refine ⟨rfl, Qj (c:=.func (.func f) (first.map ev) (cap.map ev)) (fun w' => by simp [execOp, Instr.makeFunc]) ?_⟩;refine .func _ _ _ _ _ (by simp) (by simp) (fun i h3 h4 => ?_) (fun i h3 h4 => ?_)
    · exact h1.2 i _ _ (by simp at h3 ⊢; exact ⟨_, Array.getElem?_eq_getElem h3, rfl⟩) (by simp at h4 ⊢; exact ⟨_, Array.getElem?_eq_getElem h4, rfl⟩)
    · exact h2.2 i _ _ (by simp at h3 ⊢; exact ⟨_, Array.getElem?_eq_getElem h3, rfl⟩) (by simp at h4 ⊢; exact ⟨_, Array.getElem?_eq_getElem h4, rfl⟩)
  case build t parts =>
    cases hz:zeroOf P t with
    | none => simp [hz] at hc
    | some z =>
      obtain ⟨ti, zv, hi, dR, eW, _, ib⟩:=Wt hz;have aT:LRel ρ σ.n z zv.cells.toList:=by rw [eW]; exact JX ib
      have ez:∀ q ∈ parts.toList, JW q.2 = true:=fun q hq => List.all_eq_true.1 ah q.2 (by simp; exact ⟨q.1, by simpa using hq⟩);simp only [hz, Option.bind_eq_bind, Option.bind_some] at hc;split at hc
      · rename_i fs hu
        cases jm:fs.toList.mapM (fun f => (P.info? f.type).map fun i => (f.offset, i.size)) with
        | none => simp [jm] at hc
        | some places =>
          cases dT:parts.toList.mapM (fun q => (places[q.1]?).map fun os => (os.1, os.2, q.2)) with
          | none => simp [jm, dT] at hc
          | some ps =>
            simp [jm, dT] at hc; subst hc;simp only [Q6] at h;split at h
            · rename_i cs d_
              simp at h; obtain ⟨rfl, rfl⟩:=h;obtain ⟨eA, gu⟩:=W1 _ _ _ jm;obtain ⟨cA, cZ⟩:=W1 _ _ _ dT
              obtain ⟨bq, kf, jo⟩:=S7 (ρ:=ρ) (n:=σ.n) (fun (i:Nat) => places[i]?) _ ((parts.map fun q => (q.1, ev q.2)).toList) z cs zv.cells (by simp [cA])
                (fun k a b ha hb => by
                  simp only [List.getElem?_map, Array.toList_map] at ha hb;cases hq:parts.toList[k]? with
                  | none => simp only [hq, Option.map_none] at hb; cases hb
                  | some q =>
                    obtain ⟨c0, rn, fk⟩:=cZ k q hq;simp only [hq, Option.map_some, Option.some.injEq] at hb;simp only [rn, Option.map_some, Option.some.injEq] at ha;subst hb; subst ha;cases lK:places[q.1]? with
                    | none => simp [lK] at fk
                    | some os =>
                      simp [lK] at fk; subst fk;exact ⟨by simp, hE _ (ez q (List.mem_of_getElem? hq))⟩) d_ aT
              refine ⟨rfl, .agg bq, by have:=VRel.agg_of jo; simpa using this, fun w' _ => ?_⟩;have aE:(fs.mapM fun (f:Field) => do pure (f.offset, ← sizeOf f.type)).run P w' = .ok places.toArray w':=by
                rw [Array.mapM_eq_mapM_toList];have ob:∀ f ∈ fs.toList, ((do pure (f.offset, ← sizeOf f.type):Sem (Nat × Nat))).run P w' = .ok (f.offset, ((P.info? f.type).map (·.size)).getD 0) w':=fun f hf => by
                  obtain ⟨k, hk⟩:=List.getElem?_of_mem hf;obtain ⟨b, hb, b9⟩:=gu k f hk;cases iE:P.info? f.type with
                  | none => simp [iE] at b9
                  | some fi => simp [Qf iE]
                have:=Q0c (P:=P) _ _ w' fs.toList ob;simp only [Sem.run_map, this, Result.andThen_ok];congr 2;apply List.ext_getElem?;intro k;rw [List.getElem?_map];cases hk:fs.toList[k]? with
                | none =>
                  have:places.length ≤ k:=by rw [eA]; exact List.getElem?_eq_none_iff.1 hk
                  simp [List.getElem?_eq_none this]
                | some f =>
                  obtain ⟨b, hb, b9⟩:=gu k f hk;cases iE:P.info? f.type with
                  | none => simp [iE] at b9
                  | some fi => simp [iE] at b9 ⊢; rw [hb, ← b9]
              have iF:(fun (i:Nat) => places.toArray[i]?) = (fun (i:Nat) => places[i]?):=by funext i; simp
              simp only [execOp];simp only [Instr.build, Sem.run_bind, Z5 hi dR, Result.andThen_ok, Q0 hu, aE];have oJ:Instr.fill (fun (i:Nat) => places.toArray[i]?) zv.cells (parts.map fun q => (q.1, ev q.2)).toList = some bq:=by rw [iF]; exact kf
              simp only [oJ];rfl
            · cases h
      · rename_i n e hu
        cases cG:P.info? e with
        | none => simp [cG] at hc
        | some ei =>
          simp [cG] at hc; subst hc;simp only [Q6] at h;split at h
          · rename_i cs d_
            simp at h; obtain ⟨rfl, rfl⟩:=h
            obtain ⟨bq, kf, jo⟩:=S7 (ρ:=ρ) (n:=σ.n) (fun i => some (i * ei.size, ei.size)) _ ((parts.map fun q => (q.1, ev q.2)).toList) z cs zv.cells (by simp)
              (fun k a b ha hb => by
                simp only [List.getElem?_map, Array.toList_map] at ha hb;cases hq:parts.toList[k]? with
                | none => simp only [hq, Option.map_none] at hb; cases hb
                | some q =>
                  simp only [hq, Option.map_some, Option.some.injEq] at ha hb;subst hb; subst ha;exact ⟨rfl, hE _ (ez q (List.mem_of_getElem? hq))⟩) d_ aT
            refine ⟨rfl, .agg bq, by have:=VRel.agg_of jo; simpa using this, fun w' _ => ?_⟩;simp only [execOp];simp only [Instr.build, Sem.run_bind, Z5 hi dR, Result.andThen_ok, Q0 hu, Qf cG, kf];rfl
          · cases h
      · cases hc
  case index t x i =>
    simp at ah;have hx:=hE x ah.1;have hi:=hE i ah.2;split at hc
    · rename_i hu
      simp at hc; subst hc;simp only [Q6] at h;split at h
      · rename_i s k n h1 h2
        rw [h1] at hx; rw [h2] at hi;split at h
        · rename_i hn
          split at h
          · rename_i b hb
            simp at h; obtain ⟨rfl, rfl⟩:=h;have b9:s[n.toNat]? = some b:=by rw [← hb]; simp [getElem?_def]; split <;> rfl
            refine ⟨rfl, Qj (fun w' => ?_) (VRel.int _ _)⟩;simp [execOp, hx.string_inv, hi.int_inv, Instr.index, asIntOf, Q0 hu, hn, b9]
          · cases h
        · cases h
      · cases h
    · rename_i len e hu
      cases cG:P.info? e with
      | none => simp [cG] at hc
      | some ei =>
        cases iG:P.underlying e with
        | none => simp [cG, iG] at hc
        | some d =>
          simp [cG, iG] at hc; subst hc;simp only [Q6] at h;split at h
          · rename_i cs k n h1 h2
            rw [h1] at hx; rw [h2] at hi;obtain ⟨ds, hds, hl⟩:=hx.agg_inv;split at h
            · rename_i hn
              split at h
              · rename_i v0 hv
                simp at h; obtain ⟨rfl, rfl⟩:=h;obtain ⟨u, cz, hr⟩:=AA cG iG hv hl;refine ⟨rfl, u, cz, fun w' _ => ?_⟩;simp [execOp, hds, hi.int_inv, Instr.index, asIntOf, Q0 hu, hn, Qf cG, hr]
              · cases h
            · cases h
          · cases h
    · cases hc
  case indexAddr t x i =>
    simp at ah;have hx:=hE x ah.1;have hi:=hE i ah.2;split at hc
    · rename_i e hu
      cases cG:P.info? e with
      | none => simp [cG] at hc
      | some ei =>
        simp [cG] at hc; subst hc;simp only [Q6] at h;split at h
        · rename_i b o n cap k j h1 h2
          rw [h1] at hx; rw [h2] at hi;split at h
          · rename_i hj
            simp at h; obtain ⟨rfl, rfl⟩:=h;obtain ⟨a, au, br, aM, aT⟩:=hx.sl_inv;refine ⟨rfl, .pointer (some (a.add (j.toNat * ei.size))), .ptr _ _ _ aM (fun p hp => ?_), fun w' _ => ?_⟩
            · obtain ⟨_, _, o', rfl, _, ho⟩:=aT p hp
              have:o' = o:=by
                rcases ho with ho | ⟨h0, _⟩
                · exact ho
                · omega
              subst this;rw [Xd, Nat.add_assoc]
            · simp [execOp, br, hi.int_inv, Instr.indexAt, asIntOf, Q0 hu, hj, Qf cG]
          · cases h
        · cases h
    · rename_i len e hu
      cases cG:P.info? e with
      | none => simp [cG] at hc
      | some ei =>
        simp [cG] at hc; subst hc;simp only [Q6] at h;split at h
        · rename_i g o s k j h1 h2
          rw [h1] at hx; rw [h2] at hi;split at h
          · rename_i hj
            simp at h; obtain ⟨rfl, rfl⟩:=h;have br:ev x = .pointer (some ⟨g, o, none⟩):=by generalize ev x = c at hx; cases hx; rfl
            refine ⟨rfl, .pointer (some ((⟨g, o, none⟩:Addr).add (j.toNat * ei.size))), by rw [Xd]; exact .glob _ _ _, fun w' _ => ?_⟩;simp [execOp, br, hi.int_inv, Instr.indexAt, Instr.sureAddr, asIntOf, Q0 hu, hj, Qf cG]
          · cases h
        · rename_i b o k j h1 h2
          rw [h1] at hx; rw [h2] at hi;split at h
          · rename_i hj
            simp at h; obtain ⟨rfl, rfl⟩:=h;obtain ⟨a, br, aM, aT⟩:=hx.ptr_inv';refine ⟨rfl, .pointer (some (a.add (j.toNat * ei.size))), .ptr _ _ _ aM (fun p hp => ?_), fun w' _ => ?_⟩
            · obtain rfl:=aT p hp
              rw [Xd, Nat.add_assoc]
            · simp [execOp, br, hi.int_inv, Instr.indexAt, Instr.sureAddr, asIntOf, Q0 hu, hj, Qf cG]
          · cases h
        · cases h
    · cases hc
  case slice t x lo hi mx =>
    have kg:JW x = true:=by simp at ah; exact ah.1
    have fQ:∀ y, lo = some y → JW y = true:=fun y hy => by subst hy; simp at ah; first | exact ah.2.1 | exact ah.2
    have fR:∀ y, hi = some y → JW y = true:=fun y hy => by subst hy; cases lo <;> simp at ah <;> first | exact ah.2.1 | exact ah.2.2.1 | exact ah.2.2 | exact ah.2
    have hx:=hE x kg;split at hc
    · rename_i e hu
      cases cG:P.info? e with
      | none => simp [cG] at hc
      | some ei =>
        simp [cG] at hc; subst hc;cases mx with
        | some m => simp [VOp.quiet] at hq
        | none =>
          simp only [Q6] at h;split at h
          · rename_i a n cap h1
            rw [h1] at hx;split at h
            · rename_i l hh hl ke _
              have lL:=Wv hE fQ hl;have lM:=Wv hE fR ke;unfold Yh at h;split at h
              · rename_i heq
                simp at heq; obtain ⟨rfl, rfl, rfl⟩:=heq;obtain ⟨_, _, br⟩:=hx.nilSl_inv;split at h
                · rename_i ak
                  obtain ⟨rfl, rfl, _⟩:=ak;simp at h; obtain ⟨rfl, rfl⟩:=h;refine ⟨rfl, Qj (fun w' => ?_) VRel.nilSl⟩;have:=YK (P:=P) (isSlice:=true) (cap:=0) lL lM (Nat.le_refl _) (Nat.le_refl _) w';simp [execOp, br, Instr.sliceAt, Instr.slice, Q0 hu, this, Qf cG]
                · cases h
              · rename_i i o n' iH heq
                simp at heq; obtain ⟨rfl, rfl, rfl⟩:=heq;simp only at h;split at h
                · rename_i c esz wr tight hb
                  split at h
                  · rename_i ak
                    obtain ⟨mb, oK, rp⟩:=ak;simp at h; obtain ⟨rfl, rfl⟩:=h;obtain ⟨ad, au, br, aM, aT⟩:=hx.sl_inv;obtain ⟨p, hp, hB⟩:=hH.live i _ hb;obtain ⟨dU, mc, o', rfl, cQ, ho⟩:=aT p hp;have dD:p.esz.sz = ei.size:=by rw [hB.1]; exact mb
                    rw [dD] at cQ;have b6:=fun w' => YK (P:=P) (isSlice:=true) (cap:=au) lL lM oK (Nat.le_trans rp dU) w';refine ⟨rfl, .slice (some (if au = l then ⟨p.blk, p.shift + o', none⟩ else ⟨p.blk, p.shift + (o' + l * ei.size), none⟩)) (hh - l) (au - l), .sl _ _ _ _ _ _ aM (fun q hq => ?_), fun w' _ => ?_⟩
                    · obtain rfl:p = q:=osj (hp.symm.trans hq)
                      refine ⟨by omega, fun ht => by have:=mc ht; omega, ?_⟩;rw [dD];by_cases cy:au = l
                      · refine ⟨o', by rw [if_pos cy], by rw [cy, Nat.sub_self]; omega, .inr (by omega)⟩
                      · refine ⟨o' + l * ei.size, by rw [if_neg cy], ?_, ?_⟩
                        · have:au = l + (au - l):=by omega
                          rw [this, Nat.add_mul] at cQ;omega
                        · rcases ho with rfl | ⟨h0, rr⟩
                          · exact .inl rfl
                          · exact .inr (by omega)
                    · simp only [execOp, br, Instr.sliceAt, Sem.run_bind, Q0 hu, Result.andThen_ok, Instr.slice, Option.map_none, b6, Qf cG]
                      by_cases cy:au = l
                      · simp [cy]
                      · simp [cy, Xd, Nat.add_assoc]
                  · cases h
                · cases h
              · cases h
            · simp_all
            · cases h
          · cases h
    · rename_i hu
      split at hc
      · rename_i oL
        cases mx with
        | some m => simp at oL
        | none =>
          simp at hc; subst hc;simp only [Q6] at h;split at h
          · rename_i s h1
            rw [h1] at hx;split at h
            · rename_i l hh hl ke
              have lL:=Wv hE fQ hl;have lM:=Wv hE fR ke;split at h
              · rename_i ak
                simp at h; obtain ⟨rfl, rfl⟩:=h;refine ⟨rfl, Qj (fun w' => ?_) (VRel.string _)⟩;have:=YK (P:=P) (isSlice:=false) (cap:=s.size) lL lM ak.1 ak.2 w';simp [execOp, hx.string_inv, Instr.sliceAt, Instr.slice, Q0 hu, this]
              · cases h
            · cases h
          · cases h
      · cases hc
    · cases hc
  case makeInterface t x =>
    have hx:=hE x (by simpa using ah);cases hu:P.underlying t with
    | none => simp [hu] at hc
    | some d =>
      have fy:∀ ms, d ≠ .interface ms:=fun ms e => by subst e; simp [hu] at hc
      have cK:vo = .iface t x:=by cases d <;> simp [hu] at hc <;> exact hc.symm
      subst cK;simp only [Q6] at h;split at h
      · cases h
      · simp at h; obtain ⟨rfl, rfl⟩:=h
        refine ⟨rfl, Qj (fun w' => ?_) (VRel.iface t _ _ hx)⟩;have:(Instr.makeInterface t (ev x)).run P w' = .ok (.iface t (ev x)) w':=by cases d <;> first | (exact absurd rfl (fy _)) | simp [Instr.makeInterface, Q0 hu]
        simp [execOp, this]
  case extract x i =>
    have hx:=hE x (by simpa using ah);simp at hc; subst hc;simp only [Q6] at h;split at h
    · rename_i vs h1
      rw [h1] at hx;obtain ⟨ds, hds, hl⟩:=hx.tuple_inv;split at h
      · rename_i v0 hv
        simp at h; obtain ⟨rfl, rfl⟩:=h;obtain ⟨u, hu, cz⟩:=hl.get hv;have b_:ds[i]? = some u:=by simpa using hu
        exact ⟨rfl, u, cz, fun w' _ => by simp [execOp, hds, Instr.extract, b_]⟩
      · cases h
    · cases h
  case nilCheck x =>
    have hx:=hE x (by simpa using ah);simp at hc; subst hc;simp only [Q6] at h;split at h
    · rename_i a h1
      rw [h1] at hx;simp at h; obtain ⟨rfl, rfl⟩:=h;have:∃ a', ev x = .pointer (some a'):=by generalize ev x = c at hx;cases hx <;> exact ⟨_, rfl⟩
      obtain ⟨a', jq⟩:=this;exact ⟨rfl, ev x, hx, fun w' _ => by simp [execOp, jq]⟩
    · rename_i f first cap h1
      rw [h1] at hx;simp at h; obtain ⟨rfl, rfl⟩:=h;have:∃ g' c', ev x = .func (.func f) g' c':=by generalize ev x = c at hx;cases hx; exact ⟨_, _, rfl⟩
      obtain ⟨g', c', jq⟩:=this;exact ⟨rfl, ev x, hx, fun w' _ => by simp [execOp, jq]⟩
    · cases h
  case call c =>
    split at hc
    · simp at hc; subst hc; simp [Q6] at h
    · simp at hc; subst hc; simp [Q6] at h
    · rename_i aG
      split at hc
      · rename_i t x ht aw
        have cL:c.args = #[x]:=by apply Array.ext'; simpa using aw
        have hx:=hE x (by simp [Call.operands, aG, cL] at ah; exact ah);split at hc
        · rename_i hu
          simp at hc; subst hc;simp only [Q6] at h;split at h
          · rename_i s h1
            rw [h1] at hx; simp at h; obtain ⟨rfl, rfl⟩:=h;refine ⟨rfl, Qj (fun w' => ?_) (VRel.int _ _)⟩;simp [execOp, resolve, aG, cL, invoke, builtin, Builtin.len_, ht, hx.string_inv, Q0 hu, goInt]
          · cases h
        · rename_i e hu
          simp at hc; subst hc;simp only [Q6] at h;split at h
          · rename_i a n cap h1
            rw [h1] at hx; simp at h; obtain ⟨rfl, rfl⟩:=h;obtain ⟨a', au, br⟩:=hx.sl_len;refine ⟨rfl, Qj (fun w' => ?_) (VRel.int _ _)⟩;simp [execOp, resolve, aG, cL, invoke, builtin, Builtin.len_, ht, br, Q0 hu, goInt]
          · cases h
        · cases hc
      · cases hc
    · rename_i aG
      split at hc
      · rename_i t u s x ht hu aw
        split at hc
        · rename_i e f _ _
          cases hi:P.info? e with
          | none => simp [hi] at hc
          | some ei =>
            cases hz:zeroOf P e with
            | none => simp [hi, hz] at hc
            | some z =>
              simp only [hi, hz, Option.bind_eq_bind, Option.bind_some] at hc;split at hc
              · cases hc
              · simp at hc; subst hc; cases hq
        · cases hc
      · cases hc
    · rename_i aG
      split at hc
      · rename_i x y aw
        have cL:c.args = #[x, y]:=by apply Array.ext'; simpa using aw
        simp [Call.operands, aG, cL] at ah;have hx:=hE x ah.1;have hy:=hE y ah.2;simp at hc; subst hc;simp only [Q6] at h;split at h
        · rename_i k a k' b h1 h2
          rw [h1] at hx; rw [h2] at hy;split at h
          · simp at h; obtain ⟨rfl, rfl⟩:=h
            refine ⟨rfl, Qj (fun w' => ?_) (VRel.int _ _)⟩;simp [execOp, resolve, aG, cL, invoke, builtin, Builtin.max_, Builtin.max2, hx.int_inv, hy.int_inv]
          · cases h
        · cases h
      · rename_i x y z aw
        have cL:c.args = #[x, y, z]:=by apply Array.ext'; simpa using aw
        simp [Call.operands, aG, cL] at ah;have hx:=hE x ah.1;have hy:=hE y ah.2.1;have hz:=hE z ah.2.2;simp at hc; subst hc;simp only [Q6] at h;split at h
        · rename_i k a k2 b k3 c' k4 d h1 h2 h3 h4
          rw [h1] at hx; rw [h2] at hy; rw [h3] at hz;split at h
          · rename_i hk; obtain ⟨rfl, rfl, rfl⟩:=hk
            simp at h; obtain ⟨rfl, rfl⟩:=h;refine ⟨rfl, Qj (fun w' => ?_) (VRel.int _ _)⟩;have ru:=(Value.int.inj (h3.symm.trans h4)).2;subst ru;simp only [FP];simp [execOp, resolve, aG, cL, invoke, builtin, Builtin.max_, Builtin.max2, hx.int_inv, hy.int_inv, hz.int_inv, F5]
          · cases h
        · cases h
      · rename_i x y z w aw
        have cL:c.args = #[x, y, z, w]:=by apply Array.ext'; simpa using aw
        simp [Call.operands, aG, cL] at ah;have hx:=hE x ah.1;have hy:=hE y ah.2.1;have hz:=hE z ah.2.2.1;have hw:=hE w ah.2.2.2;simp at hc; subst hc;simp only [Q6] at h;split at h
        · rename_i k a k2 b k3 c' k4 d h1 h2 h3 h4
          rw [h1] at hx; rw [h2] at hy; rw [h3] at hz; rw [h4] at hw;split at h
          · rename_i hk; obtain ⟨rfl, rfl, rfl⟩:=hk
            simp at h; obtain ⟨rfl, rfl⟩:=h;refine ⟨rfl, Qj (fun w' => ?_) (VRel.int _ _)⟩;simp [execOp, resolve, aG, cL, invoke, builtin, Builtin.max_, Builtin.max2, hx.int_inv, hy.int_inv, hz.int_inv, hw.int_inv, F5]
          · cases h
        · cases h
      · cases hc
    · rename_i aG
      split at hc
      · rename_i x y aw
        have cL:c.args = #[x, y]:=by apply Array.ext'; simpa using aw
        simp [Call.operands, aG, cL] at ah;have hx:=hE x ah.1;have hy:=hE y ah.2;simp at hc; subst hc;simp only [Q6] at h;split at h
        · rename_i k a k' b h1 h2
          rw [h1] at hx; rw [h2] at hy;split at h
          · simp at h; obtain ⟨rfl, rfl⟩:=h
            refine ⟨rfl, Qj (fun w' => ?_) (VRel.int _ _)⟩;simp [execOp, resolve, aG, cL, invoke, builtin, Builtin.min_, Builtin.min2, hx.int_inv, hy.int_inv]
          · cases h
        · cases h
      · cases hc
    · cases hc
  all_goals (first | (cases hc; done) | (split at hc <;> cases hc; done))
end
end Go.V
namespace Go.V
open Go
section
variable {P:Program}{ρ:Plc}{σ σ':Heap}{w:World}{ev:Operand→Value}{env:Env}{v:Value}
def Sj (P:Program) (ρ:Plc) (σ:Heap) (w:World) (v:Value) (σ':Heap) (s:Sem Next):Prop :=
 ∃ c w' ρ',(s.run P w=.ok (.value c) w'∨(s.run P w=.ok .skip w'∧c=undef))∧VRel ρ' σ'.n v c∧HRel ρ' σ' w'∧Ext ρ σ w ρ' σ' w'
theorem SH (z:List Value) (hz:z≠[]):∀ n,(List.range (n*z.length)).map (fun i=>z[i % z.length]!)=(List.replicate n z).flatten:=by
 intro n;have bA:0<z.length:=List.length_pos_iff.2 hz;induction n with
 |zero=>simp
 |succ n ih =>
  rw[List.replicate_succ,List.flatten_cons,←ih,Nat.succ_mul,Nat.add_comm,List.range_add,List.map_append,List.map_map];congr 1
  ·apply List.ext_getElem?;intro k;by_cases hk:k<z.length
   ·simp[hk,Nat.mod_eq_of_lt hk]
   ·simp[hk]
  ·apply List.map_congr_left;intro i _;simp
theorem Vg (n:Nat) (z:List Value):BN n z=(List.replicate n z).flatten:=by
 unfold BN;split
 ·rename_i x;induction n with
  |zero=>rfl
  |succ n ih=>rw[List.replicate_succ,List.replicate_succ,List.flatten_cons,←ih];rfl
 ·rfl
theorem Dp (zero:Array Value) (z:List Value) (h:zero.toList=z) (hz:z≠[]) (n:Nat):((Array.range (n*z.length)).map (fun i=>zero[i % zero.size]!)).toList=BN n z:=by rw[Vg,←SH z hz n];subst h;simp;intro a _;rw[getElem!_def];cases zero[a % zero.size]?<;>rfl
theorem HC (n:Nat) (z:List Value):(BN n z).length=n*z.length:=by rw[Vg];simp[List.length_flatten,List.map_replicate,List.sum_replicate_nat]
theorem EI (n:Nat) (z:List Value) (h:z.all cellOk=true):(BN n z).all cellOk=true:=by
 rw[Vg];simp only[List.all_eq_true,List.mem_flatten,List.mem_replicate] at *
 rintro x ⟨l,⟨_,rfl⟩,hx⟩;exact h x hx
theorem Du (n:Nat) (z:List Value) (h:z.all QQ=true):(BN n z).all QQ=true:=by rw[Vg,List.all_flatten];simp[List.all_replicate,h]
theorem Bu {lo:Option Operand}{yh ym:Operand}{n cap l h m:Nat}{kh km:IntKind}{ih im:Int}(oG:(lo=none∧l=0)∨∃ x k i,lo=some x∧ev x=.int k i∧0≤i∧l=i.toNat)
  (iI:ev yh=.int kh ih) (oc:0≤ih) (hh:h=ih.toNat) (iJ:ev ym=.int km im) (od:0≤im) (hm:m=im.toNat) (h1:l≤h) (h2:h≤m) (h3:m≤cap) (w:World) :
  (Instr.sliceBounds true n cap (lo.map ev) ((some yh).map ev) ((some ym).map ev)).run P w=.ok (l,h,m) w:=by
 subst hh;subst hm;rcases oG with⟨rfl,rfl⟩|⟨x,k,i,rfl,hx,oa,rfl⟩
 ·simp[Instr.sliceBounds,iI,iJ,Z4 km im _ _ od h3,Z4 kh ih _ _ oc h2]
 ·simp[Instr.sliceBounds,hx,iI,iJ,Z4 km im _ _ od h3,Z4 kh ih _ _ oc h2,Z4 k i _ _ oa h1]
theorem Lb (hH:HRel ρ σ w) {c:List Value}{C:Array Value}{esz:El}(hc:LRel ρ σ.n c C.toList) {s:Sem Next}
  (hs:s.run P w=.ok (.value (.pointer (some ⟨w.heap.size,0,none⟩))) (w.alloc (.cells C esz.ty))) :
  Sj P ρ σ w (.pointer (some ⟨σ.n,0,none⟩)) (σ.push (.cells c esz true true)) s:=by
 have hl:c.length=C.size:=by have:=hc.1;simpa using this
 obtain⟨ρ',h1,h2,h3⟩:=hH.alloc c C esz.ty esz true rfl (by
  have:C.toList.take C.size=C.toList:=by rw[←Array.length_toList];exact List.take_length
  rw[hl,this];exact hc) (by omega)
 refine⟨_,_,ρ',.inl hs,.ptr _ _ _ (by simp) (fun p hp=>?_),h2,h3⟩;rw[h1] at hp;obtain rfl:=osj hp;rfl
theorem P0 (hH:HRel ρ σ w) {c:List Value}{C:Array Value}{esz:El}{n cap:Nat}(hc:LRel ρ σ.n c C.toList) (hn:cap*esz.sz≤C.size) {s:Sem Next}
  (hs:s.run P w=.ok (.value (.slice (some ⟨w.heap.size,0,none⟩) n cap)) (w.alloc (.cells C esz.ty))) :
  Sj P ρ σ w (.slice (some ⟨σ.n,0,none⟩) n cap) (σ.push (.cells c esz true true)) s:=by
 have hl:c.length=C.size:=by have:=hc.1;simpa using this
 obtain⟨ρ',h1,h2,h3⟩:=hH.alloc c C esz.ty esz true rfl (by
  have:C.toList.take C.size=C.toList:=by rw[←Array.length_toList];exact List.take_length
  rw[hl,this];exact hc) (by omega)
 refine⟨_,_,ρ',.inl hs,.sl _ _ _ _ _ _ (by simp) (fun p hp=>?_),h2,h3⟩;rw[h1] at hp;obtain rfl:=osj hp;exact⟨Nat.le_refl _,fun _=>rfl,0,rfl,by simpa using hn,.inl rfl⟩
theorem SX (hH:HRel ρ σ w) {esz n cap:Nat}{a:Option Addr}{xs:List Value}{c:Value}(h:σ.sl esz (.slice a n cap)=some xs) (hv:VRel ρ σ.n (.slice a n cap) c) :
  xs.length=n*esz∧∃ us:List Value,LRel ρ σ.n xs us∧(∃ a' au,c=.slice a' n au)∧∀ w',Like ρ w w'→(Builtin.firstCells esz n c).run P w'=.ok us.toArray w':=by
 unfold Heap.sl at h;split at h
 ·rename_i heq;simp at heq;obtain⟨rfl,rfl,rfl⟩:=heq;simp at h;subst h;obtain⟨_,_,rfl⟩:=hv.nilSl_inv;exact⟨by simp,[],LRel.nil _ _,⟨_,_,rfl⟩,fun w' _=>by simp[Builtin.firstCells]⟩
 ·rename_i i o n' iH heq;simp at heq;obtain⟨rfl,rfl,rfl⟩:=heq;split at h
  ·rename_i c0 e wr tight hb;split at h
   ·rename_i ak;obtain⟨mb,hlen⟩:=ak;simp at h;obtain⟨p,hp,_,_,_,_,h5,_⟩:=hH.live i _ hb;obtain⟨ad,au,rfl,aM,aT⟩:=hv.sl_inv;obtain⟨_,_,o',rfl,_,ho⟩:=aT p hp;have gv:xs.length=n*esz:=by rw[←h];simp;omega
    refine⟨gv,?_⟩;have jr:n*esz=0∨o'=o:=by
     rcases ho with ho|⟨h0,_⟩
     ·exact .inr ho
     ·left;rw[h0,Nat.zero_mul]
    have hex:∀ k,k<n*esz→∃ u,w.cell? ⟨p.blk,p.shift+o'+k,none⟩=some u∧∀ v,xs[k]?=some v→VRel ρ σ.n v u:=fun k hk=>by have me:o'=o:=jr.resolve_left (by omega);subst me;obtain⟨u,hu,cz⟩:=h5 (o'+k) _ (List.getElem?_eq_getElem (by omega));rw[←Nat.add_assoc] at hu;refine⟨u,hu,fun v hv=>?_⟩;rw[←h,List.getElem?_take,if_pos hk,List.getElem?_drop,List.getElem?_eq_getElem (by omega)] at hv;obtain rfl:=osj hv;exact cz
    let us:List Value:=(List.range (n*esz)).map fun k=>(w.cell? ⟨p.blk,p.shift+o'+k,none⟩).getD undef;have mf:us.length=n*esz:=by simp[us]
    have dS:∀ k,k<n*esz→∀ u,w.cell? ⟨p.blk,p.shift+o'+k,none⟩=some u→us[k]?=some u:=fun k hk u hu=>by simp[us,hk,hu]
    refine⟨us,⟨by omega,fun k v u hk hu=>?_⟩,⟨_,_,rfl⟩,fun w' hl=>?_⟩
    ·have a_:k<n*esz:=by have:=(List.getElem?_eq_some_iff.1 hk).1;omega
     obtain⟨u',b_,fP⟩:=hex k a_;rw[dS k a_ u' b_] at hu;obtain rfl:=osj hu;exact fP v hk
    ·have cI:∀ j v,us[j]?=some v→w'.cell? ((⟨p.blk,p.shift+o',none⟩:Addr).add j)=some v:=fun j v hj=>by
      have cf:j<n*esz:=by have:=(List.getElem?_eq_some_iff.1 hj).1;omega
      obtain⟨u',b_,_⟩:=hex j cf;rw[dS j cf u' b_] at hj;obtain rfl:=osj hj;rw[Xd,Hm hl hp];exact b_
     have:=run_loadCells_list (P:=P) w' ⟨p.blk,p.shift+o',none⟩ us cI;rw[mf] at this;simp[Builtin.firstCells,this]
   ·cases h
  ·cases h
 ·cases h
theorem EZ (fz aV:Nat) (h:aV<fz):Builtin.nextslicecap fz aV≤2*fz:=by
 unfold Builtin.nextslicecap;split
 ·omega
 ·split
  ·omega
  ·have key:∀ r c,c≤2*fz→256≤fz→Builtin.growBy fz r c≤2*fz:=by
    intro r;induction r with
    |zero=>intro c hc _;exact hc
    |succ r ih =>
     intro c hc h2;unfold Builtin.growBy;split
     ·exact hc
     ·exact ih _ (by omega) h2
   exact key 4 aV (by omega) (by omega)
theorem AU {n:Nat}{v c:Value}(h:cellOk v=true) (hv:VRel ρ n v c):c.oneCell'=true:=by cases hv<;>first|rfl|(simp[cellOk,poison] at h)
theorem YR {n:Nat}{vs cs:List Value}(h:vs.all cellOk=true) (hv:LRel ρ n vs cs):∀ c∈cs,c.oneCell'=true:=by
 intro c hc;obtain⟨k,hk⟩:=List.getElem?_of_mem hc;have a_:k<vs.length:=by have:=(List.getElem?_eq_some_iff.1 hk).1;have:=hv.1;omega
 exact AU (List.all_eq_true.1 h _ (List.getElem_mem a_)) (hv.2 k _ _ (List.getElem?_eq_getElem a_) hk)
theorem XQ {t u e f:TypeId}{ei:TypeInfo}(ht:P.underlying t=some (.slice e)) (hu:P.underlying u=some (.slice f)) (hi:P.info? e=some ei) (ty:TypeId) (base:Option Addr) (n cap m:Nat) (x:Value) (us:List Value)
  (hx:∃ a' au,x=.slice a' m au) (fS:(Builtin.firstCells ei.size m x).run P w=.ok us.toArray w) (aY:n+m≤cap) (w':World)
  (bc:(match base with|some a=>storeCells (a.add (n*ei.size)) us|none=>pure ()).run P w=.ok () w') :
  (Builtin.append_ #[t,u] ty #[.slice base n cap,x]).run P w=.ok (.slice base (n+m) cap) w':=by
 obtain⟨a',au,rfl⟩:=hx;unfold Builtin.append_;cases base with
 |none =>simp at bc;subst bc;simp[Q0 ht,Q0 hu,Qf hi,Builtin.lenOf,aY,fS]
 |some a =>simp at bc;simp[Q0 ht,Q0 hu,Qf hi,Builtin.lenOf,aY,fS,bc]
theorem WM {t u e f:TypeId}{ei:TypeInfo}{zv:Value}(ht:P.underlying t=some (.slice e)) (hu:P.underlying u=some (.slice f)) (hi:P.info? e=some ei) (hz:ei.zero=some zv) (hb:ei.bytes≠0) (ty:TypeId) (base:Option Addr) (n cap m:Nat) (x:Value) (us os:List Value)
  (hx:∃ a' au,x=.slice a' m au) (fS:(Builtin.firstCells ei.size m x).run P w.drew=.ok us.toArray w.drew) (jt:(Builtin.firstCells ei.size n (.slice base n cap)).run P w.drew=.ok os.toArray w.drew)
  (aY:¬ n+m≤cap) (aI:(n+m)*ei.bytes≤2 ^ 46) :
  ∃ aW,n+m≤aW∧(Builtin.append_ #[t,u] ty #[.slice base n cap,x]).run P w =
   .ok (.slice (some ⟨w.heap.size,0,none⟩) (n+m) aW) (w.drew.alloc (.cells ((os++us).toArray++Builtin.zeroCells zv.cells (aW-(n+m))) e)):=by
 obtain⟨a',au,rfl⟩:=hx;refine⟨(Question.appendCap (n+m) cap e).cut (w.tape w.drawn (.appendCap (n+m) cap e)),by simp[Question.cut],?_⟩;have h1:¬ (2 ^ 48<Builtin.nextslicecap (n+m) cap*ei.bytes):=by have:=EZ (n+m) cap (by omega);have h2:Builtin.nextslicecap (n+m) cap*ei.bytes≤2*(n+m)*ei.bytes:=Nat.mul_le_mul_right _ this;rw[Nat.mul_assoc] at h2;omega
 have ju:∀ w:World,(typeInfo e).run P w=.ok ei w:=fun w=>run_typeInfo w hi;have dR:∀ w:World,(zeroValue e).run P w=.ok zv w:=fun w=>Z5 hi hz w;unfold Builtin.append_;simp[Q0 ht,Q0 hu,Qf hi,Builtin.lenOf,aY,ju,hb,h1,Question.forced,jt,fS,dR,newRow];congr 2;apply Array.ext';simp
theorem Ks (_hH:HRel ρ σ w) (_hE:Ext ρ σ w ρ σ w) {σ1:Heap}{ρ1:Plc}(ic:HRel ρ1 σ1 w) (fl:Ext ρ σ w ρ1 σ1 w) (fT:σ1.n=σ.n) {aV xs os us:List Value}{zs:Array Value}{esz:El}{n aW:Nat}
  (ho:LRel ρ σ.n aV os) (hx:LRel ρ σ.n xs us) (hlen:aV.length+xs.length=n*esz.sz) (eB:zs.size=(aW-n)*esz.sz) (gd:n≤aW) {s:Sem Next}
  (hs:s.run P w=.ok (.value (.slice (some ⟨w.heap.size,0,none⟩) n aW)) (w.drew.alloc (.cells ((os++us).toArray++zs) esz.ty))) :
  Sj P ρ σ w (.slice (some ⟨σ.n,0,none⟩) n n) (σ1.push (.cells (aV++xs) esz true false)) s:=by
 have hl:(aV++xs).length=(os++us).length:=by simp[ho.1,hx.1]
 have aF:LRel ρ1 σ1.n (aV++xs) (((os++us).toArray++zs).toList.take (aV++xs).length):=by
  have h1:((os++us).toArray++zs).toList.take (aV++xs).length=os++us:=by rw[Array.toList_append,hl];show ((os++us)++zs.toList).take (os++us).length=_;exact List.take_left
  rw[h1];exact(ho.append hx).mono fl.n fl.pl
 have aI:((os++us).toArray++zs).size=n*esz.sz+(aW-n)*esz.sz:=by simp[eB];have:=ho.1;have:=hx.1;omega
 have cy:(aV++xs).length≤((os++us).toArray++zs).size:=by rw[aI,List.length_append];omega
 obtain⟨ρ',h1,h2,h3⟩:=(ic.drew).alloc (aV++xs) ((os++us).toArray++zs) esz.ty esz false rfl aF cy;have hh:w.drew.heap.size=w.heap.size:=rfl;rw[fT] at h1;refine⟨_,_,ρ',.inl hs,.sl _ _ _ _ _ _ (by simp[fT]) (fun p hp=>?_),h2,(fl.trans (Ext.drew ρ1 σ1 w)).trans h3⟩;rw[h1] at hp;obtain rfl:=osj hp;refine⟨gd,⟨fun h=>(by cases h),⟨0,rfl,?_,Or.inl rfl⟩⟩⟩;show 0+aW*esz.sz≤((os++us).toArray++zs).size;rw[aI,←Nat.add_mul];have:n+(aW-n)=aW:=by omega
 rw[this];omega
theorem LD (hH:HRel ρ σ w) {t u e f:TypeId}{ei:TypeInfo}{zv:Value}{z:List Value}(ht:P.underlying t=some (.slice e)) (hu:P.underlying u=some (.slice f)) (hi:P.info? e=some ei) (hz:ei.zero=some zv) (eW:zv.cells.toList=z) (eB:z.length=ei.size) (hb:ei.bytes≠0) (ty:TypeId)
  {s:Value}{a:Option Addr}{m ki:Nat}{xs:List Value}{cs cx:Value}(hs:VRel ρ σ.n s cs) (hx:VRel ρ σ.n (.slice a m ki) cx) (bt:σ.sl z.length (.slice a m ki)=some xs) (ah:xs.all cellOk=true)
  (h:Yb ⟨z.length,e⟩ ei.bytes σ s m xs=some (v,σ')) {oM:Sem Next}(aX:∀ r w',(Builtin.append_ #[t,u] ty #[cs,cx]).run P w=.ok r w'→oM.run P w=.ok (.value r) w'):Sj P ρ σ w v σ' oM:=by
 obtain⟨gv,us,eC,eX,fS⟩:=SX (P:=P) hH bt hx;rw[eB] at fS gv;have hL:=Like.refl ρ w;have kj:Like ρ w w.drew:=⟨Nat.le_refl _,fun _ _ _=>rfl,fun _ _ _=>rfl⟩;have mf:us.length=m*ei.size:=by have:=eC.1;omega
 have hzero:∀ k,(Builtin.zeroCells zv.cells k).size=k*z.length:=fun k=>by rw[size_zeroCells];rw[←eW];simp
 unfold Yb at h;split at h
 ·
  obtain⟨_,_,rfl⟩:=hs.nilSl_inv;split at h
  ·rename_i eY;subst eY;simp at h;obtain⟨rfl,rfl⟩:=h;have:us=[]:=List.length_eq_zero_iff.1 (by omega);subst this;have hr:=XQ (w:=w) ht hu hi ty none 0 0 0 cx [] eX (fS w hL) (Nat.le_refl _) w rfl;exact⟨_,w,ρ,.inl (aX _ _ hr),VRel.nilSl,hH,Ext.refl _ _ _⟩
  ·rename_i eY;split at h
   ·rename_i aI;simp at h;obtain⟨rfl,rfl⟩:=h;obtain⟨aW,gd,hr⟩:=WM (w:=w) ht hu hi hz hb ty none 0 0 m cx us [] eX (fS _ kj) (by simp[Builtin.firstCells]) (by omega) (by simpa using aI);simp only[Nat.zero_add,List.nil_append] at hr gd;have:=Ks (P:=P) hH (Ext.refl _ _ _) hH (Ext.refl _ _ _) rfl (LRel.nil ρ σ.n) eC (by simp;rw[gv,←eB]) (esz:=⟨z.length,e⟩) (n:=m) (hzero (aW-m)) gd (s:=oM) (by simpa using aX _ _ hr);simpa using this
   ·cases h
 ·
  rename_i i o n cap;obtain⟨ad,au,rfl,aM,aT⟩:=hs.sl_inv;split at h
  ·rename_i c e' wr tight aD;obtain⟨p,hp,hB⟩:=hH.live i _ aD;obtain⟨dU,mc,o',rfl,cQ,eD⟩:=aT p hp;have dD:p.esz=e':=hB.1;split at h
   ·rename_i ak;obtain⟨rfl,mg,gF⟩:=ak;rw[dD] at cQ;dsimp only at cQ gF h;split at h
    ·
     rename_i eY;subst eY;simp at h;obtain⟨rfl,rfl⟩:=h;have:us=[]:=List.length_eq_zero_iff.1 (by omega);subst this;have hr:=XQ (w:=w) ht hu hi ty (some ⟨p.blk,p.shift+o',none⟩) n au 0 cx [] eX (fS w hL) (by omega) w rfl;exact⟨_,w,ρ,.inl (aX _ _ hr),hs,hH,Ext.refl _ _ _⟩
    ·rename_i eY;split at h
     ·
      rename_i aY;split at h
      ·rename_i hw;obtain⟨rfl,eZ⟩:=hw;simp at h;obtain⟨rfl,rfl⟩:=h;have jr:o'=o:=by
        rcases eD with h0|⟨_,h0⟩
        ·exact h0
        ·omega
       subst jr;have hmul:(n+m)*z.length=n*z.length+m*z.length:=Nat.add_mul _ _ _;have rv:m*ei.size=m*z.length:=by rw[eB]
       obtain⟨h2,h3⟩:=hH.store hp aD eC (o:=o'+n*z.length) (by omega)
       have bc:=run_storeCells_cells (P:=P) p.blk (p.shift+o'+n*z.length) us 0 w
        (fun j hj=>by rw[Nat.add_zero,Nat.add_assoc,Nat.add_assoc];exact hB.cells_ext _ (by have:=hB.2.2.1;omega))
        (fun j hj=>by rw[Nat.add_zero,Nat.add_assoc,Nat.add_assoc];exact(hB.2.2.2.2.2 rfl).2 _ (by have:=hB.2.2.1;omega))
        (YR ah eC)
       have hr:=XQ (w:=w) ht hu hi ty (some ⟨p.blk,p.shift+o',none⟩) n au m cx us eX (fS w hL) (by omega) _ (by
        simp only[Xd,←eB];exact bc)
       refine⟨_,_,ρ,.inl (aX _ _ hr),.sl _ _ _ _ _ _ aM (fun q hq=>?_),by rw[Nat.add_zero,Nat.add_assoc];exact h2,by rw[Nat.add_zero,Nat.add_assoc];exact h3⟩;obtain rfl:p=q:=osj (hp.symm.trans hq);exact⟨dU,mc,o',rfl,by rw[dD];exact cQ,.inl rfl⟩
      ·cases h
     ·rename_i aY;split at h
      ·rename_i aI;have hold:∀ k v,((c.drop o).take (n*z.length))[k]?=some v→∃ u,w.cell? ⟨p.blk,p.shift+o'+k,none⟩=some u∧VRel ρ σ.n v u:=fun k v hk=>by
        rw[List.getElem?_take] at hk;split at hk
        ·rename_i a_;rw[List.getElem?_drop] at hk;have jr:o'=o:=by
          rcases eD with h0|⟨h0,_⟩
          ·exact h0
          ·rw[h0,Nat.zero_mul] at a_;omega
         subst jr;obtain⟨u,hu,cz⟩:=hB.2.2.2.2.1 _ v hk;exact⟨u,by rw[Nat.add_assoc];exact hu,cz⟩
        ·cases hk
       have ec:((c.drop o).take (n*z.length)).length=n*z.length:=by simp;omega
       have lN:σ.sl z.length (.slice (some ⟨i,o,none⟩) n cap)=some ((c.drop o).take (n*z.length)):=by simp[Heap.sl,aD,gF]
       obtain⟨_,os,iK,_,jt⟩:=SX (P:=P) hH lN hs;rw[eB] at jt;have hlen:((c.drop o).take (n*z.length)).length+xs.length=(n+m)*z.length:=by rw[ec,gv,Nat.add_mul,eB]
       split at h
       ·
        rename_i fA;simp at h;obtain⟨rfl,rfl⟩:=h;have oN:au=cap:=mc (by rw[hB.2.1];exact fA);subst oN;obtain⟨aW,gd,hr⟩:=WM (w:=w) ht hu hi hz hb ty (some ⟨p.blk,p.shift+o',none⟩) n au m cx us os eX (fS _ kj) (jt _ kj) aY aI;exact Ks hH (Ext.refl _ _ _) hH (Ext.refl _ _ _) rfl iK eC hlen (hzero _) gd (aX _ _ hr)
       ·rename_i fA;have ry:tight=false:=by simpa using fA
        subst ry;split at h
        ·rename_i gm;subst gm;simp at h;obtain⟨rfl,rfl⟩:=h;by_cases fB:n+m≤au
         ·
          have hmul:au*z.length=(n+m)*z.length+(au-(n+m))*z.length:=by rw[←Nat.add_mul];congr 1;omega
          have qn:(n+m)*z.length=n*z.length+m*z.length:=Nat.add_mul _ _ _;have rv:m*ei.size=m*z.length:=by rw[eB]
          obtain⟨ρ',h1,h2,h3⟩:=hH.onto hp aD o' hold eC (by rw[ec];omega)
          have bc:=run_storeCells_cells (P:=P) p.blk (p.shift+o'+n*z.length) us 0 w
           (fun j hj=>by rw[Nat.add_zero,Nat.add_assoc,Nat.add_assoc];exact hB.cells_ext _ (by omega))
           (fun j hj=>by rw[Nat.add_zero,Nat.add_assoc,Nat.add_assoc];exact(hB.2.2.2.2.2 rfl).2 _ (by omega))
           (YR ah eC)
          have hr:=XQ (w:=w) ht hu hi ty (some ⟨p.blk,p.shift+o',none⟩) n au m cx us eX (fS w hL) fB _ (by
           simp only[Xd,←eB];exact bc)
          refine⟨_,_,ρ',.inl (aX _ _ hr),.sl _ _ _ _ _ _ (by simp) (fun q hq=>?_),by rw[Nat.add_zero];rw[ec] at h2;exact h2,by rw[Nat.add_zero];rw[ec] at h3;exact h3⟩;rw[h1] at hq;obtain rfl:=osj hq;refine⟨fB,⟨fun h=>(by cases h),⟨0,rfl,?_,Or.inl rfl⟩⟩⟩;show 0+au*z.length≤p.ext-o';omega
         ·obtain⟨aW,gd,hr⟩:=WM (w:=w) ht hu hi hz hb ty (some ⟨p.blk,p.shift+o',none⟩) n au m cx us os eX (fS _ kj) (jt _ kj) fB aI;obtain⟨bG,aq⟩:=hH.kill i;exact Ks hH (Ext.refl _ _ _) bG aq rfl iK eC hlen (hzero _) gd (aX _ _ hr)
        ·cases h
      ·cases h
   ·cases h
  ·cases h
 ·
  rename_i i o n cap;obtain⟨ad,rfl,aM,aT,dE⟩:=hs.slx_sl;split at h
  ·rename_i c e' wr tight aD;obtain⟨p,hp,hB⟩:=hH.live i _ aD;obtain⟨rfl,cQ⟩:=aT p hp;have dD:p.esz=e':=hB.1;split at h
   ·rename_i ak;obtain⟨rfl,mg,gF,eY,aI⟩:=ak;rw[dD] at cQ;dsimp only at cQ gF h;simp at h;obtain⟨rfl,rfl⟩:=h;have ec:((c.drop o).take (n*z.length)).length=n*z.length:=by simp;omega
    have lN:σ.sl z.length (.slice (some ⟨i,o,none⟩) n cap)=some ((c.drop o).take (n*z.length)):=by simp[Heap.sl,aD,gF]
    obtain⟨_,os,iK,_,jt⟩:=SX (P:=P) hH lN dE;rw[eB] at jt;have hlen:((c.drop o).take (n*z.length)).length+xs.length=(n+m)*z.length:=by rw[ec,gv,Nat.add_mul,eB]
    obtain⟨aW,gd,hr⟩:=WM (w:=w) ht hu hi hz hb ty (some ⟨p.blk,p.shift+o,none⟩) n cap m cx us os eX (fS _ kj) (jt _ kj) (by omega) aI;exact Ks hH (Ext.refl _ _ _) hH (Ext.refl _ _ _) rfl iK eC hlen (hzero _) gd (aX _ _ hr)
   ·cases h
  ·cases h
 ·cases h
set_option maxHeartbeats 1000000 in
theorem EU {o:Oper}{vo:VOp}(hc:KY P o.op=some vo) (hq:vo.quiet=false) (hH:HRel ρ σ w) (hE:∀ x,JW x=true→VRel ρ σ.n (Q3 env x) (ev x))
  (h:Q6 vo (Q3 env) σ=some (v,σ')):Sj P ρ σ w v σ' (execOp ev o):=by
 obtain⟨dst,op,ty,pos,after,guard⟩:=o;simp only at hc;unfold KY at hc;split at hc
 ·cases hc
 rename_i ah;simp only[Bool.not_eq_true,Bool.not_eq_false'] at ah;cases op<;>simp only[Op.operands] at ah hc
 case alloc t =>
  cases hz:zeroOf P t with
  |none=>simp[hz] at hc
  |some z =>simp[hz] at hc;subst hc;obtain⟨ti,zv,hi,dR,eW,_,ib⟩:=Wt hz;simp[Q6] at h;obtain⟨rfl,rfl⟩:=h;refine Lb hH (C:=zv.cells) (esz:=⟨z.length,t⟩) (by rw[eW];exact JX ib) ?_;simp[execOp,Instr.alloc,Z5 hi dR,newVar,newRow]
 case box t x =>
  have hx:=hE x (by simpa using ah);simp at hc;subst hc;simp only[Q6] at h;split at h
  ·rename_i vs cB;simp at h;obtain⟨rfl,rfl⟩:=h;refine Lb hH (C:=(ev x).cells) (esz:=⟨vs.length,t⟩) (Dy cB hx) ?_;simp[execOp,Instr.box,newVar,newRow]
  ·cases h
 case buildSlice t len parts =>
  split at hc
  ·rename_i e hu;cases hz:zeroOf P e with
   |none=>simp[hz] at hc
   |some z =>
    obtain⟨ti,zv,hi,dR,eW,eB,ib⟩:=Wt hz;simp only[hz,Option.bind_eq_bind,Option.bind_some] at hc;split at hc
    ·cases hc
    ·rename_i ak;simp at ak;obtain⟨jv,hlen⟩:=ak;simp at hc;subst hc;simp only[Q6] at h;split at h
     ·rename_i cs d_;simp at h;obtain⟨rfl,rfl⟩:=h;have ez:∀ q∈parts.toList,JW q.2=true:=fun q hq=>List.all_eq_true.1 ah q.2 (by simp;exact⟨q.1,by simpa using hq⟩);have jx:=Dp zv.cells z eW jv len
      obtain⟨bq,kf,jo⟩:=S7 (ρ:=ρ) (n:=σ.n) (fun i=>some (i*z.length,z.length)) _ ((parts.map fun q=>(q.1,ev q.2)).toList) (BN len z) cs ((Array.range (len*z.length)).map (fun i=>zv.cells[i % zv.cells.size]!)) (by simp)
       (fun k a b ha hb=>by
        simp only[List.getElem?_map,Array.toList_map] at ha hb;cases hq:parts.toList[k]? with
        |none=>simp only[hq,Option.map_none] at hb;cases hb
        |some q =>
         simp only[hq,Option.map_some,Option.some.injEq] at ha hb;subst hb;subst ha;exact⟨rfl,hE _ (ez q (List.mem_of_getElem? hq))⟩) d_ (by rw[jx];exact JX (Du _ _ ib))
      have cy:cs.length=len*z.length:=by
       have h1:∀ (l:List (Nat×Nat×Value)) (c c':List Value),Nm c l=some c'→c'.length=c.length:=by
        intro l;induction l with
        |nil=>intro c c' h;simp[Nm] at h;rw[h]
        |cons a r ih =>
         intro c c' h;obtain⟨o1,s1,v1⟩:=a;simp only[Nm] at h;split at h
         ·split at h
          ·rw[ih _ _ h,WB]
          ·cases h
         ·cases h
       rw[h1 _ _ _ d_,HC]
      refine P0 hH (C:=bq) (esz:=⟨z.length,e⟩) jo (by have:=jo.1;simp at this;show len*z.length≤_;omega) ?_;have hle:¬ (len*ti.size > 2 ^ 24):=by
       rw[←eB];have:(2:Nat) ^ 24=16777216:=by decide
       omega
      have oO:Instr.fill (fun i=>some (i*ti.size,ti.size)) ((Array.range (len*ti.size)).map (fun i=>zv.cells[i % zv.cells.size]!)) (parts.map fun q=>(q.1,ev q.2)).toList=some bq:=by rw[←eB];exact kf
      by_cases aR:len*ti.size=0
      ·have ie:∀ f:Nat→Value,(Array.range 0).map f=#[]:=fun f=>by simp
       simp only[execOp];simp only[Instr.buildSlice,Sem.run_bind,Q0 hu,Result.andThen_ok,Qf hi,aR,if_true,Sem.run_pure];rw[aR,ie] at oO;simp only[ie,oO];simp[newRow]
      ·simp only[execOp];simp only[Instr.buildSlice,Sem.run_bind,Q0 hu,Result.andThen_ok,Qf hi,if_neg hle,if_neg aR,Z5 hi dR,Sem.run_pure,oO];simp[newRow]
     ·cases h
  ·cases hc
 case store t a x =>
  simp at ah;have ha:=hE a ah.1;have hx:=hE x ah.2;cases hi:P.info? t with
  |none=>simp[hi] at hc
  |some ti =>
   simp[hi] at hc;subst hc;simp only[Q6] at h;split at h
   ·rename_i i o vs h1 cB;rw[h1] at ha;split at h
    ·rename_i c e wr tight hb;split at h
     ·rename_i ak;obtain⟨rfl,oP,iL,gG⟩:=ak;simp at h;obtain⟨rfl,rfl⟩:=h;obtain⟨p,hp,hB⟩:=hH.live i _ hb;obtain⟨_,aM,oe⟩:=ha.ptr_inv hp;have hl:=Dy cB hx;have az:(ev x).cells.size=ti.size:=by have:=hl.1;simp at this;omega
      obtain⟨h2,h3⟩:=hH.store hp hb hl (o:=o) (by omega);refine⟨undef,_,ρ,.inr ⟨?_,rfl⟩,Jm,h2,h3⟩
      have hr:=run_storeCells_cells (P:=P) p.blk (p.shift+o) (ev x).cells.toList 0 w
       (fun j hj=>by rw[Nat.add_zero,Nat.add_assoc];exact hB.cells_ext _ (by have:=hB.2.2.1;simp at hj;omega))
       (fun j hj=>by rw[Nat.add_zero,Nat.add_assoc];exact(hB.2.2.2.2.2 rfl).2 _ (by have:=hB.2.2.1;simp at hj;omega))
       (YR gG hl)
      simp only[execOp];simp only[Instr.storeAt,oe,Instr.sureAddr,Sem.run_bind,Sem.run_pure,Result.andThen_ok,storeVar,Qf hi];rw[if_neg (by simp[az])];rw[hr];rfl
     ·cases h
    ·cases h
   ·cases h
 case makeSlice t l c =>
  simp at ah;have hl:=hE l ah.1;have dU:=hE c ah.2;split at hc
  ·rename_i e hu;cases hi:P.info? e with
   |none=>simp[hi] at hc
   |some ei =>
    cases hz:zeroOf P e with
    |none=>simp[hi,hz] at hc
    |some z =>
     obtain⟨ti,zv,cC,dR,eW,eB,ib⟩:=Wt hz;obtain rfl:ei=ti:=osj (hi.symm.trans cC);simp only[hi,hz,Option.bind_eq_bind,Option.bind_some] at hc;split at hc
     ·cases hc
     ·rename_i jv;simp at jv;simp at hc;subst hc;simp only[Q6] at h;split at h
      ·rename_i k a k' b h1 h2;rw[h1] at hl;rw[h2] at dU;split at h
       ·rename_i ak;obtain⟨tJ,qm,og,cu⟩:=ak;simp at h;obtain⟨rfl,rfl⟩:=h;have jx:=Dp zv.cells z eW jv b.toNat;have tK:(2:Int) ^ 46=70368744177664:=by decide
        have tL:(2:Int) ^ 48=281474976710656:=by decide
        have rz:IntKind.i64.wrap a=a:=IntWalk.i64_in _ (by omega);have rA:IntKind.i64.wrap b=b:=IntWalk.i64_in _ (by omega);refine P0 hH (C:=(Array.range (b.toNat*z.length)).map (fun i=>zv.cells[i % zv.cells.size]!)) (esz:=⟨z.length,e⟩) (by rw[jx];exact JX (Du _ _ ib)) (by simp) ?_;have rB:((ei.bytes:Int)*b > 2 ^ 48)=False:=by rw[eq_iff_iff,iff_false,Int.mul_comm];omega
        have oQ:(b<0)=False:=by rw[eq_iff_iff,iff_false];omega
        have mh:(a<0)=False:=by rw[eq_iff_iff,iff_false];omega
        have oR:(a > b)=False:=by rw[eq_iff_iff,iff_false];omega
        simp only[execOp];simp only[Instr.makeSlice,Sem.run_bind,Q0 hu,Result.andThen_ok,hl.int_inv,dU.int_inv,asInt,asIntOf,Sem.run_pure,run_typeInfo w hi,rz,rA,rB,oQ,mh,oR];simp only[decide_false,Bool.or_false,Bool.false_or,Bool.false_eq_true,if_false,run_askRoom,Sem.run_bind,Result.andThen_ok,Qf hi];rw[←eB];by_cases aR:b.toNat*z.length=0
        ·have ie:∀ f:Nat→Value,(Array.range 0).map f=#[]:=fun f=>by simp
         simp only[aR,if_true,ie];simp[newRow]
        ·simp only[aR,if_false,Z5 hi dR,Sem.run_bind,Sem.run_pure,Result.andThen_ok];simp[newRow]
       ·cases h
      ·cases h
  ·cases hc
 case slice t x lo hi mx =>
  have kg:JW x=true:=by simp at ah;exact ah.1
  have fQ:∀ y,lo=some y→JW y=true:=fun y hy=>by subst hy;simp at ah;first|exact ah.2.1|exact ah.2
  have fR:∀ y,hi=some y→JW y=true:=fun y hy=>by subst hy;cases lo<;>simp at ah<;>first|exact ah.2.1|exact ah.2.2.1|exact ah.2.2|exact ah.2
  have oS:∀ y,mx=some y→JW y=true:=fun y hy=>by subst hy;cases lo<;>cases hi<;>simp at ah<;>first|exact ah.2.2.2|exact ah.2.2|exact ah.2
  have hx:=hE x kg;split at hc
  ·rename_i e hu;cases cG:P.info? e with
   |none=>simp[cG] at hc
   |some ei =>
    simp[cG] at hc;subst hc;cases mx with
    |none=>simp[VOp.quiet] at hq
    |some mo =>
     simp only[Q6] at h;split at h
     ·rename_i a n cap h1;rw[h1] at hx;split at h
      ·simp_all
      ·rename_i l hh tM hl ke rC;split at h
       ·rename_i m ho hm;have lL:=Wv hE fQ hl;have lM:=Wv hE fR ke;have rD:=Wv hE oS hm;obtain⟨ym,km,im,rE,iJ,od,kn⟩:=rD.resolve_left (fun hh=>by cases hh.1);obtain rfl:=osj rE;obtain⟨yh,kh,ih,rF,iI,oc,oT⟩:=lM.resolve_left (fun hh=>by cases hh.1);obtain rfl:=osj rF;have mi:=fun (au:Nat) (h1:l≤hh) (h2:hh≤m) (h3:m≤au) w'=>Bu (P:=P) (n:=n) (cap:=au) lL iI oc oT iJ od kn h1 h2 h3 w';unfold Yh at h;split at h
        ·rename_i heq;simp at heq;obtain⟨rfl,rfl,rfl⟩:=heq;obtain⟨_,_,br⟩:=hx.nilSl_inv;split at h
         ·rename_i ak;obtain⟨rfl,rfl,eY⟩:=ak;simp at eY;simp at h;obtain⟨rfl,rfl⟩:=h;subst eY;refine⟨.slice none 0 0,w,ρ,.inl ?_,VRel.nilSl,hH,Ext.refl _ _ _⟩;have:=mi 0 (Nat.le_refl _) (Nat.le_refl _) (Nat.le_refl _) w;simp only[Option.map_some] at this;simp[execOp,br,Instr.sliceAt,Instr.slice,Q0 hu,this,Qf cG]
         ·cases h
        ·rename_i i o n' iH heq;simp at heq;obtain⟨rfl,rfl,rfl⟩:=heq;simp only at h;split at h
         ·rename_i c esz wr tight hb;split at h
          ·rename_i ak;obtain⟨mb,oK,rG,ef⟩:=ak;obtain⟨ad,au,br,aM,aT⟩:=hx.sl_inv;obtain⟨p,hp,hB⟩:=hH.live i _ hb;obtain⟨dU,mc,o',rfl,cQ,eD⟩:=aT p hp;have dD:p.esz.sz=ei.size:=by rw[hB.1];exact mb
           rw[dD] at cQ;have b6:=mi au oK rG (Nat.le_trans ef dU) w;simp only[Option.map_some] at b6;split at h
           ·rename_i iM;subst iM;simp at h;obtain⟨rfl,rfl⟩:=h;have rH:hh=m:=by omega
            subst rH;have iF:∀ j,j<σ.n→∀ q,(ρ.put σ.n (some ⟨p.blk,p.shift+o',0,esz,true⟩)) j=some q→ρ j=some q:=fun j hj q hq=>by unfold Plc.put at hq;rwa [if_neg (by omega)] at hq
            have bQ:∀ j,j≠σ.n→(ρ.put σ.n (some ⟨p.blk,p.shift+o',0,esz,true⟩)) j=ρ j:=fun j hj=>by simp[Plc.put,hj]
            have fU:(ρ.put σ.n (some ⟨p.blk,p.shift+o',0,esz,true⟩)) σ.n=some ⟨p.blk,p.shift+o',0,esz,true⟩:=by simp[Plc.put]
            have gm:∀ B,Wr (ρ.put σ.n (some ⟨p.blk,p.shift+o',0,esz,true⟩)) (σ.push (.cells [] esz false true)) B→Wr ρ σ B:=by
             rintro B ⟨j,q,b,hq,cY,hw,rfl⟩;by_cases a7:j=σ.n
             ·subst a7;rw[Heap.get_push_self] at cY;obtain rfl:=osj cY;cases hw
             ·rw[Heap.get_push_ne _ _ a7] at cY;rw[bQ j a7] at hq;exact⟨j,q,b,hq,cY,hw,rfl⟩
            refine⟨.slice (some ⟨p.blk,p.shift+o',none⟩) 0 0,w,ρ.put σ.n (some ⟨p.blk,p.shift+o',0,esz,true⟩),.inl ?_,.sl _ _ _ _ _ _ (by simp) (fun q hq=>?_),⟨⟨?_,?_,?_,?_⟩,fun g cs hg=>⟨(hH.tab g cs hg).1,fun hw=>(hH.tab g cs hg).2 (gm g hw)⟩⟩,
             ⟨rfl,rfl,rfl,Nat.le_refl _,fun _ _ _=>rfl,fun B _=>gm B,by simp,iF⟩⟩
            ·simp[execOp,br,Instr.sliceAt,Instr.slice,Q0 hu,b6,Qf cG]
            ·rw[fU] at hq;obtain rfl:=osj hq;exact⟨Nat.le_refl _,fun _=>rfl,0,rfl,by simp,.inl rfl⟩
            ·intro j b hj;by_cases a7:j=σ.n
             ·subst a7;rw[Heap.get_push_self] at hj;obtain rfl:=osj hj;obtain⟨C,e0,f0,hC,n_⟩:=hB.2.2.2.1;refine⟨_,fU,rfl,rfl,Nat.le_refl _,⟨C,e0,f0,hC,?_⟩,fun k v hk=>by simp at hk,fun hw=>by cases hw⟩;have h6:o'≤p.ext:=Nat.le_trans (Nat.le_add_right _ _) cQ;refine⟨?_,n_.2⟩;show p.shift+o'+0≤C.size;omega
             ·rw[Heap.get_push_ne _ _ a7] at hj;obtain⟨q,hq,fw⟩:=hH.live j b hj;exact⟨q,by rw[bQ j a7];exact hq,fw.mono (by simp) iF rfl⟩
            ·intro j hj;by_cases a7:j=σ.n
             ·subst a7;rw[Heap.get_push_self] at hj;cases hj
             ·rw[Heap.get_push_ne _ _ a7] at hj;rw[bQ j a7];exact hH.dead j hj
            ·intro j q hq;by_cases a7:j=σ.n
             ·subst a7;rw[fU] at hq;obtain rfl:=osj hq;exact hH.lt i p hp
             ·rw[bQ j a7] at hq;exact hH.lt j q hq
            ·intro j k q r b ew hq hr cY hw qo;by_cases a7:j=σ.n
             ·subst a7;rw[Heap.get_push_self] at cY;obtain rfl:=osj cY;cases hw
             ·rw[Heap.get_push_ne _ _ a7] at cY;rw[bQ j a7] at hq;by_cases ka:k=σ.n
              ·subst ka;rw[fU] at hr;obtain rfl:=osj hr;simp at qo
              ·rw[bQ k ka] at hr;exact hH.sep j k q r b ew hq hr cY hw qo
           rename_i iM;split at h
           ·rename_i rI;obtain⟨_,rfl⟩:=rI;simp at h;obtain⟨rfl,rfl⟩:=h;have jr:o'=o:=by
             rcases eD with h0|⟨_,h0⟩
             ·exact h0
             ·omega
            subst jr;refine⟨.slice (some ⟨p.blk,p.shift+(o'+l*ei.size),none⟩) (hh-l) (hh-l),w,ρ,.inl ?_,.slx _ _ _ _ _ aM (fun q hq=>?_),hH,Ext.refl _ _ _⟩
            ·simp[execOp,br,Instr.sliceAt,Instr.slice,Q0 hu,b6,Qf cG,iM,Xd,Nat.add_assoc]
            ·obtain rfl:p=q:=osj (hp.symm.trans hq);refine⟨rfl,?_⟩;rw[dD];have:au=l+((hh-l)+(au-hh)):=by omega
             rw[this,Nat.add_mul,Nat.add_mul] at cQ;omega
           ·simp at h;obtain⟨rfl,rfl⟩:=h;refine⟨.slice (some ⟨p.blk,p.shift+(o'+l*ei.size),none⟩) (hh-l) (m-l),w,ρ,.inl ?_,.sl _ _ _ _ _ _ aM (fun q hq=>?_),hH,Ext.refl _ _ _⟩
            ·simp[execOp,br,Instr.sliceAt,Instr.slice,Q0 hu,b6,Qf cG,iM,Xd,Nat.add_assoc]
            ·obtain rfl:p=q:=osj (hp.symm.trans hq);refine⟨Nat.le_refl _,fun _=>rfl,o'+l*ei.size,rfl,?_,?_⟩
             ·rw[dD];have:au=l+((m-l)+(au-m)):=by omega
              rw[this,Nat.add_mul,Nat.add_mul] at cQ;omega
             ·rcases eD with rfl|⟨h0,rr⟩
              ·exact .inl rfl
              ·exact .inr (by omega)
          ·cases h
         ·cases h
        ·cases h
       ·cases h
      ·cases h
     ·cases h
  ·rename_i hu;split at hc
   ·rename_i oL;cases mx with
    |some m=>simp at oL
    |none=>simp at hc;subst hc;simp[VOp.quiet] at hq
   ·cases hc
  ·cases hc
 case call c =>
  split at hc
  ·simp at hc;subst hc;simp[VOp.quiet] at hq
  ·simp at hc;subst hc;simp[VOp.quiet] at hq
  ·split at hc
   ·split at hc
    ·simp at hc;subst hc;simp[VOp.quiet] at hq
    ·simp at hc;subst hc;simp[VOp.quiet] at hq
    ·cases hc
   ·cases hc
  ·rename_i aG;split at hc
   ·rename_i t u s x ht oI aw;split at hc
    ·rename_i e f hu rJ;cases hi:P.info? e with
     |none=>simp[hi] at hc
     |some ei =>
      cases hz:zeroOf P e with
      |none=>simp[hi,hz] at hc
      |some z =>
       obtain⟨ti,zv,cC,dR,eW,eB,ib⟩:=Wt hz;obtain rfl:ei=ti:=osj (hi.symm.trans cC);simp only[hi,hz,Option.bind_eq_bind,Option.bind_some] at hc;split at hc
       ·cases hc
       ·rename_i ak;simp at ak;obtain⟨jv,rK⟩:=ak;simp at hc;subst hc;have cL:c.args=#[s,x]:=by apply Array.ext';simpa using aw
        simp[Call.operands,aG,cL] at ah;have hs:=hE s ah.1;have hx:=hE x ah.2;have mj:(Builtin.append_ c.argTypes ty #[ev s,ev x])=(Builtin.append_ #[t,u] ty #[ev s,ev x]):=by unfold Builtin.append_;simp[ht,oI]
        have aX:∀ r w',(Builtin.append_ #[t,u] ty #[ev s,ev x]).run P w=.ok r w'→(execOp ev {dst:=dst,op:=.call c,type:=ty,pos:=pos,after:=after,guard:=guard}).run P w=.ok (.value r) w':=fun r w' hr=>by simp[execOp,resolve,aG,cL,invoke,builtin,mj,hr]
        simp only[Q6] at h;split at h
        ·rename_i xs a m ki bt ml;rw[ml] at hx;split at h
         ·rename_i kp;rw[ml] at bt;exact LD hH hu rJ hi dR eW eB rK ty hs hx bt kp h aX
         ·cases h
        ·cases h
    ·cases hc
   ·cases hc
  ·split at hc
   ·simp at hc;subst hc;simp[VOp.quiet] at hq
   ·simp at hc;subst hc;simp[VOp.quiet] at hq
   ·simp at hc;subst hc;simp[VOp.quiet] at hq
   ·cases hc
  ·split at hc
   ·simp at hc;subst hc;simp[VOp.quiet] at hq
   ·cases hc
  ·cases hc
 case move x=>simp at hc;subst hc;simp[VOp.quiet] at hq
 case assign x=>simp at hc;subst hc;simp[VOp.quiet] at hq
 case pick c a b=>simp at hc;subst hc;simp[VOp.quiet] at hq
 case unOp=>simp at hc;subst hc;simp[VOp.quiet] at hq
 case extract=>simp at hc;subst hc;simp[VOp.quiet] at hq
 case nilCheck=>simp at hc;subst hc;simp[VOp.quiet] at hq
 all_goals
  repeat' first
   |(cases hc;done)
   |(simp at hc;subst hc;simp[VOp.quiet] at hq;done)
   |split at hc
 all_goals simp only[Option.bind_eq_bind,Option.bind_eq_some_iff,reduceCtorEq,and_false,exists_false] at hc
 all_goals first
  |(obtain⟨_,_,rfl⟩:=hc;simp[VOp.quiet] at hq;done)
  |(obtain⟨_,_,hc⟩:=hc;simp at hc;subst hc;simp[VOp.quiet] at hq;done)
  |(obtain⟨_,_,_,_,hc⟩:=hc;simp at hc;subst hc;simp[VOp.quiet] at hq;done)
  |(obtain⟨_,_,_,_,_,_,hc⟩:=hc;simp at hc;subst hc;simp[VOp.quiet] at hq;done)
  |(obtain⟨d,_,hc⟩:=hc;cases d<;>simp at hc<;>subst hc<;>simp[VOp.quiet] at hq;done)
  |(obtain⟨_,_,_,_,hc⟩:=hc;split at hc<;>simp at hc;subst hc;simp[VOp.quiet] at hq;done)
end
end Go.V
namespace Go.V
open Go
section
variable {P:Program}{ρ:Plc}{σ σ':Heap}{w:World}{ev:Operand→Value}{env:Env}{v:Value}
theorem VRel.nilPtr_inv {n:Nat}{c:Value}(h:VRel ρ n (.pointer none) c):c=.pointer none:=by cases h;rfl
theorem VRel.somePtr_inv {n:Nat}{a:Addr}{c:Value}(h:VRel ρ n (.pointer (some a)) c):∃ b,c=.pointer (some b):=by cases h<;>exact⟨_,rfl⟩
theorem VRel.nilMap_inv {n:Nat}{c:Value}(h:VRel ρ n (.map none) c):c=.map none:=by cases h;rfl
theorem VRel.someMap_inv {n:Nat}{m:Nat}{c:Value}(h:VRel ρ n (.map (some m)) c):∃ r,c=.map (some r)∧m<n∧∀ p,ρ m=some p→r=p.blk:=by
 cases h with
 |map _ r hi h=>exact⟨r,rfl,hi,h⟩
theorem VRel.nilFunc_inv {n:Nat}{c:Value}(h:VRel ρ n .nilFunc c):c=.nilFunc:=by cases h;rfl
theorem VRel.someFunc_inv {n:Nat}{f:Fn}{a b:Array Value}{c:Value}(h:VRel ρ n (.func f a b) c):∃ g a' b',c=.func g a' b':=by cases h<;>exact⟨_,_,_,rfl⟩
theorem VRel.someSl_inv {n:Nat}{a:Addr}{l k:Nat}{c:Value}(h:VRel ρ n (.slice (some a) l k) c):∃ b k',c=.slice (some b) l k':=by cases h<;>exact⟨_,_,rfl⟩
theorem VRel.noneSl_inv {n:Nat}{l k:Nat}{c:Value}(h:VRel ρ n (.slice none l k) c):c=.slice none 0 0:=by cases h;rfl
theorem Ay (neg:Bool) (t:TypeId) (x y:Operand) (yt:TypeId) (ty:TypeId) (pos:String) (after:Array Edge) (dst:Option Tmp) (g:Option (Nat×Bool)) {a b:Value}{r:Bool}(hx:ev x=a) (hy:ev y=b)
  (hg:∀ op w',(eqGuard op t x y a b).run P w'=.ok () w') (h:∀ w',(binOp (if neg then .neq else .eql) t a b).run P w'=.ok (.bool (if neg then !r else r)) w') :
  LR P ρ σ w (.bool (if neg then !r else r)) (execOp ev ⟨dst,.binOp (if neg then .neq else .eql) t x y yt,ty,pos,after,g⟩):=by
 refine Qj (c:=.bool (if neg then !r else r)) (fun w'=>?_) (.bool _);simp only[execOp,hx,hy];simp[hg,h]
theorem RU (op:BinOp) (t:TypeId) (x y:Operand) {a b:Value}(h:(∀ p q,¬ (a=.nilIface∧b=.nilIface)∧¬ (a=.agg p∧b=.agg q))) (w':World):(eqGuard op t x y a b).run P w'=.ok () w':=by
 have key:∀ op,op=.eql∨op=.neq→(eqGuard op t x y a b).run P w'=.ok () w':=by
  intro op ho;unfold eqGuard;rcases ho with rfl|rfl
  all_goals
   simp only[Bool.not_true,Bool.false_eq_true,if_false];split
   ·exact absurd ⟨rfl,rfl⟩ (h #[] #[]).1
   ·rename_i p q;exact absurd ⟨rfl,rfl⟩ (h p q).2
   ·rfl
 cases op<;>first|exact key _ (.inl rfl)|exact key _ (.inr rfl)|rfl
theorem J1 {t:TypeId}{a b:Value}{r:Bool}(h:∀ d w',(Op.equalIn (d+1) t a b).run P w'=.ok r w')
  (hb:∀ neg:Bool,binOp (if neg then .neq else .eql) t a b=(do let r ←Op.equal t a b;pure (.bool (if neg then !r else r)))) (neg:Bool) (w':World) :
  (binOp (if neg then .neq else .eql) t a b).run P w'=.ok (.bool (if neg then !r else r)) w':=by
 rw[hb,Sem.run_bind];have:(Op.equal t a b).run P w'=.ok r w':=h 9999 w';rw[this];rfl
theorem Ey {kd:Nat}{t:TypeId}{a b c d:Value}{r:Bool}(hH:HRel ρ σ w) (hk:(kd=0∧∃ e i,P.underlying t=some (.pointer e)∧P.info? e=some i)∨(kd=1∧∃ e,P.underlying t=some (.slice e)) ∨
   (kd=2∧∃ k e,P.underlying t=some (.map k e))∨(kd=3∧∃ p q s,P.underlying t=some (.func p q s)))
  (ha:VRel ρ σ.n a c) (hb:VRel ρ σ.n b d) (h:J5 kd a b σ=some r):(∀ (neg:Bool) w',(binOp (if neg then .neq else .eql) t c d).run P w'=.ok (.bool (if neg then !r else r)) w')∧(∀ p q,¬ (c=.nilIface∧d=.nilIface)∧¬ (c=.agg p∧d=.agg q)):=by
 unfold J5 at h;split at h
 ·obtain rfl:=ha.nilPtr_inv;obtain rfl:=hb.nilPtr_inv;simp at h;subst h;rcases hk with⟨_,e,i,h1,h2⟩|⟨h0,_⟩|⟨h0,_⟩|⟨h0,_⟩<;>try (cases h0)
  exact⟨J1 (fun d w'=>by simp[Op.equalIn,Q0 h1]) (fun neg=>by cases neg<;>rfl),by simp⟩
 ·obtain rfl:=ha.nilPtr_inv;obtain⟨q,rfl⟩:=hb.somePtr_inv;simp at h;subst h;rcases hk with⟨_,e,i,h1,h2⟩|⟨h0,_⟩|⟨h0,_⟩|⟨h0,_⟩<;>try (cases h0)
  exact⟨J1 (fun d w'=>by simp[Op.equalIn,Q0 h1]) (fun neg=>by cases neg<;>rfl),by simp⟩
 ·obtain⟨q,rfl⟩:=ha.somePtr_inv;obtain rfl:=hb.nilPtr_inv;simp at h;subst h;rcases hk with⟨_,e,i,h1,h2⟩|⟨h0,_⟩|⟨h0,_⟩|⟨h0,_⟩<;>try (cases h0)
  exact⟨J1 (fun d w'=>by simp[Op.equalIn,Q0 h1]) (fun neg=>by cases neg<;>rfl),by simp⟩
 ·rename_i i o j q;split at h
  ·rename_i hc;obtain⟨rfl,rfl,hs⟩:=hc;simp at h;subst h;rcases hk with⟨_,e,i',h1,h2⟩|⟨h0,_⟩|⟨h0,_⟩|⟨h0,_⟩<;>try (cases h0)
   obtain⟨blk,aD⟩:=Option.isSome_iff_exists.1 hs;obtain⟨p,hp,_⟩:=hH.live _ _ aD;obtain⟨_,_,rfl⟩:=ha.ptr_inv hp;obtain⟨_,_,rfl⟩:=hb.ptr_inv hp;exact⟨J1 (fun d w'=>by simp[Op.equalIn,Q0 h1,sizeOf,typeInfo,h2,run_sameAddr_same]) (fun neg=>by cases neg<;>rfl),by simp⟩
  ·cases h
 ·obtain rfl:=ha.noneSl_inv;obtain rfl:=hb.noneSl_inv;simp at h;subst h;rcases hk with⟨h0,_⟩|⟨_,e,h1⟩|⟨h0,_⟩|⟨h0,_⟩<;>try (cases h0)
  exact⟨J1 (fun d w'=>by simp[Op.equalIn,Q0 h1]) (fun neg=>by cases neg<;>rfl),by simp⟩
 ·obtain rfl:=ha.noneSl_inv;obtain⟨_,_,rfl⟩:=hb.someSl_inv;simp at h;subst h;rcases hk with⟨h0,_⟩|⟨_,e,h1⟩|⟨h0,_⟩|⟨h0,_⟩<;>try (cases h0)
  exact⟨J1 (fun d w'=>by simp[Op.equalIn,Q0 h1]) (fun neg=>by cases neg<;>rfl),by simp⟩
 ·obtain⟨_,_,rfl⟩:=ha.someSl_inv;obtain rfl:=hb.noneSl_inv;simp at h;subst h;rcases hk with⟨h0,_⟩|⟨_,e,h1⟩|⟨h0,_⟩|⟨h0,_⟩<;>try (cases h0)
  exact⟨J1 (fun d w'=>by simp[Op.equalIn,Q0 h1]) (fun neg=>by cases neg<;>rfl),by simp⟩
 ·obtain rfl:=ha.nilMap_inv;obtain rfl:=hb.nilMap_inv;simp at h;subst h;rcases hk with⟨h0,_⟩|⟨h0,_⟩|⟨_,k,e,h1⟩|⟨h0,_⟩<;>try (cases h0)
  exact⟨J1 (fun d w'=>by simp[Op.equalIn,Q0 h1]) (fun neg=>by cases neg<;>rfl),by simp⟩
 ·obtain rfl:=ha.nilMap_inv;obtain⟨_,rfl,_⟩:=hb.someMap_inv;simp at h;subst h;rcases hk with⟨h0,_⟩|⟨h0,_⟩|⟨_,k,e,h1⟩|⟨h0,_⟩<;>try (cases h0)
  exact⟨J1 (fun d w'=>by simp[Op.equalIn,Q0 h1]) (fun neg=>by cases neg<;>rfl),by simp⟩
 ·obtain⟨_,rfl,_⟩:=ha.someMap_inv;obtain rfl:=hb.nilMap_inv;simp at h;subst h;rcases hk with⟨h0,_⟩|⟨h0,_⟩|⟨_,k,e,h1⟩|⟨h0,_⟩<;>try (cases h0)
  exact⟨J1 (fun d w'=>by simp[Op.equalIn,Q0 h1]) (fun neg=>by cases neg<;>rfl),by simp⟩
 ·obtain rfl:=ha.nilFunc_inv;obtain rfl:=hb.nilFunc_inv;simp at h;subst h;rcases hk with⟨h0,_⟩|⟨h0,_⟩|⟨h0,_⟩|⟨_,p,q,s,h1⟩<;>try (cases h0)
  exact⟨J1 (fun d w'=>by simp[Op.equalIn,Q0 h1]) (fun neg=>by cases neg<;>rfl),by simp⟩
 ·obtain rfl:=ha.nilFunc_inv;obtain⟨_,_,_,rfl⟩:=hb.someFunc_inv;simp at h;subst h;rcases hk with⟨h0,_⟩|⟨h0,_⟩|⟨h0,_⟩|⟨_,p,q,s,h1⟩<;>try (cases h0)
  exact⟨J1 (fun d w'=>by simp[Op.equalIn,Q0 h1]) (fun neg=>by cases neg<;>rfl),by simp⟩
 ·obtain⟨_,_,_,rfl⟩:=ha.someFunc_inv;obtain rfl:=hb.nilFunc_inv;simp at h;subst h;rcases hk with⟨h0,_⟩|⟨h0,_⟩|⟨h0,_⟩|⟨_,p,q,s,h1⟩<;>try (cases h0)
  exact⟨J1 (fun d w'=>by simp[Op.equalIn,Q0 h1]) (fun neg=>by cases neg<;>rfl),by simp⟩
 ·cases h
def Q8g (ρ:Plc) (n:Nat) (e:MapEntry) (kv:Jr):Prop:=e.key=kv.1∧e.born=kv.2.2∧VRel ρ n kv.2.1 e.val
def LERel (ρ:Plc) (n:Nat) (E:List MapEntry) (es:List Jr):Prop:=E.length=es.length∧∀ (k:Nat) (e:MapEntry) (kv:Jr),E[k]?=some e→es[k]?=some kv→Q8g ρ n e kv
theorem LERel.cons_inv {n:Nat}{E:List MapEntry}{es:List Jr}{kv:Jr}(h:LERel ρ n E (kv::es)):∃ e E',E=e::E'∧Q8g ρ n e kv∧LERel ρ n E' es:=by
 cases E with
 |nil=>have:=h.1;simp at this
 |cons e E'=>exact⟨e,E',rfl,h.2 0 e kv rfl rfl,by have:=h.1;simpa using this,fun k a b ha hb=>h.2 (k+1) a b (by simpa using ha) (by simpa using hb)⟩
theorem ORel.map_iff {n:Nat}{es:List Jr}{clock:Nat}{O:Obj}:ORel ρ n (.map es clock) O↔∃ entries,O=.map entries clock∧LERel ρ n entries.toList es:=by
 constructor
 ·rintro⟨entries,h1,h2,h3⟩;refine⟨entries,h1,by simpa using h2,fun k e kv he dk=>?_⟩;obtain⟨e',h4,h5,h6,h7⟩:=h3 k kv dk;have:e=e':=by
   rw[Array.getElem?_toList] at he;exact osj (he.symm.trans h4)
  subst this;exact⟨h5,h6,h7⟩
 ·rintro⟨entries,h1,h2,h3⟩;refine⟨entries,h1,by simpa using h2,fun k kv dk=>?_⟩;have hk:k<es.length:=(List.getElem?_eq_some_iff.1 dk).1;have l_:k<entries.toList.length:=by omega
  obtain⟨h4,h5,h6⟩:=h3 k entries.toList[k] kv (List.getElem?_eq_getElem l_) dk;exact⟨entries.toList[k],by rw[←Array.getElem?_toList];exact List.getElem?_eq_getElem l_,h4,h5,h6⟩
theorem Xg:∀ {s:List MK}{l:List Value},fits s l=true→l.length=s.length
 |[],[],_=>rfl
 |_::s,_::l,h=>by simp only[fits,Bool.and_eq_true] at h;simp[Xg h.2]
 |[],_::_,h=>by cases h
 |_::_,[],h=>by cases h
theorem VB:∀ {s r:List MK}{l:List Value},fits (s++r) l=true→fits s (l.take s.length)=true∧fits r (l.drop s.length)=true
 |[],r,l,h=>by simpa [fits] using h
 |k::s,r,[],h=>by cases h
 |k::s,r,v::l,h=>by simp only[List.cons_append,fits,Bool.and_eq_true] at h;obtain⟨h1,h2⟩:=VB h.2;simp only[List.length_cons,List.take_succ_cons,List.drop_succ_cons,fits,Bool.and_eq_true];exact⟨⟨h.1,h1⟩,h2⟩
theorem No:∀ (n:Nat) (l m:List Value),l.length=m.length→Ql l m=(Ql (l.take n) (m.take n)&&Ql (l.drop n) (m.drop n))
 |0,l,m,_=>by simp[Ql]
 |n+1,[],[],_=>by simp[Ql]
 |n+1,a::l,b::m,h=>by simp only[Ql,List.take_succ_cons,List.drop_succ_cons];rw[No n l m (by simpa using h),Bool.and_assoc]
 |n+1,[],_::_,h=>by simp at h
 |n+1,_::_,[],h=>by simp at h
def mkT (P:Program) (t:TypeId) (cs:List Value):Value:=match P.underlying t with
 |some (.struct _)=>.agg cs.toArray
 |some (.array _ _)=>.agg cs.toArray
 |_=>cs.headD undef
theorem NV {m:Nat}{t:TypeId}{s:List MK}(hs:shp P m t=some s) (hc:P.cellsOf t=s.length) {xs:Array Value}{off:Nat}(hf:fits s ((xs.toList.drop off).take s.length)=true) (w:World) :
  (part t xs off).run P w=.ok (mkT P t ((xs.toList.drop off).take s.length)) w:=by
 cases m with
 |zero=>simp[shp] at hs
 |succ m =>
  simp only[shp] at hs;have plain:∀ kd,P.underlying t=some kd→(∀ n e,kd≠.array n e)→(∀ fs,kd≠.struct fs)→s.length=1→(part t xs off).run P w=.ok (mkT P t ((xs.toList.drop off).take s.length)) w:=fun kd hu h1 h2 h3=>by
   have hl:=Xg hf;rw[h3] at hl ⊢;have ai:off<xs.size:=by rw[List.length_take,List.length_drop] at hl;simp at hl;omega
   have e:(xs.toList.drop off).take 1=[xs[off]]:=by rw[List.drop_eq_getElem_cons (by simpa using ai)];simp
   rw[e];have:mkT P t [xs[off]]=xs[off]:=by
    unfold mkT;split
    ·rename_i fs b_;rw[hu] at b_;exact absurd (osj b_) (h2 _)
    ·rename_i n e b_;rw[hu] at b_;exact absurd (osj b_) (h1 _ _)
    ·rfl
   rw[this];cases kd<;>first|(exact absurd rfl (h1 _ _))|(exact absurd rfl (h2 _))|simp[part,isAgg,run_underlying hu,Array.getElem?_eq_getElem ai]
  have agg:∀ kd,P.underlying t=some kd→((∃ n e,kd=.array n e)∨∃ fs,kd=.struct fs)→(part t xs off).run P w=.ok (mkT P t ((xs.toList.drop off).take s.length)) w:=fun kd hu hk=>by
   obtain⟨i,hi⟩:=info_of_underlying hu;have hl:(xs.extract off (off+P.cellsOf t))=((xs.toList.drop off).take s.length).toArray:=by apply Array.toList_inj.1;rw[Array.toList_extract,hc];simp[List.extract]
   rcases hk with⟨n,e,rfl⟩|⟨fs,rfl⟩<;>simp[part,isAgg,run_underlying hu,run_sizeOf w hi,hl,mkT,hu]
  cases hu:P.underlying t with
  |none=>rw[hu] at hs;cases hs
  |some kd =>
   rw[hu] at hs;cases kd
   case bool=>obtain rfl:=osj hs;exact plain _ hu (by simp) (by simp) rfl
   case int q=>obtain rfl:=osj hs;exact plain _ hu (by simp) (by simp) rfl
   case string=>obtain rfl:=osj hs;exact plain _ hu (by simp) (by simp) rfl
   case array n e=>exact agg _ hu (.inl ⟨_,_,rfl⟩)
   case struct fs=>exact agg _ hu (.inr ⟨_,rfl⟩)
   all_goals cases hs
theorem CS {g:TypeId→Option (List MK)}{m d:Nat}(hg:g=shp P m) (ih:∀ t s,shp P m t=some s→∀ (w:World) (cs ds:List Value),fits s cs=true→fits s ds=true→(Op.equalIn (d+m) t (mkT P t cs) (mkT P t ds)).run P w=.ok (Ql cs ds) w) {xs ys:Array Value}(w:World) :
  ∀ (fs:List Field) (off:Nat) (ss:List MK),Cg P g fs off=some ss→fits ss (xs.toList.drop off)=true→fits ss (ys.toList.drop off)=true→(Op.eqFields (d+m) xs ys fs).run P w=.ok (Ql (xs.toList.drop off) (ys.toList.drop off)) w
 |[],off,ss,h,h1,h2=>by simp only[Cg,Option.some.injEq] at h;subst h;have e1:=Xg h1;have e2:=Xg h2;rw[List.eq_nil_of_length_eq_zero e1];simp[Op.eqFields,Ql]
 |f::r,off,ss,h,h1,h2=>by
  simp only[Cg] at h;split at h
  ·rename_i hn;obtain⟨hn,rfl⟩:=hn;split at h
   ·rename_i s hs;split at h
    ·rename_i hc;obtain⟨q,hq,rfl⟩:=Option.map_eq_some_iff.1 h;obtain⟨a1,a2⟩:=VB h1;obtain⟨b1,b2⟩:=VB h2;rw[List.drop_drop] at a2 b2;rw[hg] at hs;have p1:=NV hs hc a1 w;have p2:=NV hs hc b1 w;have p3:=ih f.type s hs w _ _ a1 b1;have hr:=CS hg ih w r (f.offset+s.length) q hq a2 b2;rw[No s.length _ _ (by rw[Xg h1,Xg h2]),List.drop_drop,List.drop_drop];simp only[Op.eqFields,hn,ne_eq,not_false_eq_true,if_true,Sem.run_bind,p1,p2,p3,Result.andThen_ok];cases hb:Ql (List.take s.length (List.drop f.offset xs.toList)) (List.take s.length (List.drop f.offset ys.toList)) with
     |false=>simp
     |true=>simpa using hr
    ·cases h
   ·cases h
  ·cases h
theorem Hb {m d:Nat}{e:TypeId}{s:List MK}(hs:shp P m e=some s) (hc:P.cellsOf e=s.length) (ih:∀ (w:World) (cs ds:List Value),fits s cs=true→fits s ds=true→(Op.equalIn (d+m) e (mkT P e cs) (mkT P e ds)).run P w=.ok (Ql cs ds) w) {xs ys:Array Value}(w:World) :
  ∀ (k i:Nat),fits (List.replicate k s).flatten (xs.toList.drop (i*s.length))=true→fits (List.replicate k s).flatten (ys.toList.drop (i*s.length))=true→(Op.eqItems (d+m) e (P.cellsOf e) xs ys (List.range' i k)).run P w=.ok (Ql (xs.toList.drop (i*s.length)) (ys.toList.drop (i*s.length))) w
 |0,i,h1,h2=>by have e1:=Xg h1;have e2:=Xg h2;simp only[List.replicate_zero,List.flatten_nil,List.length_nil] at e1 e2;rw[List.eq_nil_of_length_eq_zero e1];simp[Op.eqItems,Ql]
 |k+1,i,h1,h2=>by
  rw[List.replicate_succ,List.flatten_cons] at h1 h2;obtain⟨a1,a2⟩:=VB h1;obtain⟨b1,b2⟩:=VB h2;rw[List.drop_drop,←Nat.succ_mul] at a2 b2;have p1:=NV hs hc a1 w;have p2:=NV hs hc b1 w;have p3:=ih w _ _ a1 b1;have hr:=Hb hs hc ih w k (i+1) a2 b2;rw[No s.length _ _ (by rw[Xg h1,Xg h2]),List.drop_drop,List.drop_drop,←Nat.succ_mul];rw[hc] at hr ⊢;simp only[List.range'_succ,Op.eqItems,Sem.run_bind,p1,p2,p3,Result.andThen_ok];cases hb:Ql (List.take s.length (List.drop (i*s.length) xs.toList)) (List.take s.length (List.drop (i*s.length) ys.toList)) with
  |false=>simp
  |true=>simpa using hr
theorem Vo (d:Nat):∀ (m:Nat) (t:TypeId) (s:List MK),shp P m t=some s→∀ (w:World) (cs ds:List Value),fits s cs=true→fits s ds=true→(Op.equalIn (d+m) t (mkT P t cs) (mkT P t ds)).run P w=.ok (Ql cs ds) w
 |0,t,s,h=>by simp[shp] at h
 |m+1,t,s,h=>by
  intro w cs ds h1 h2;simp only[shp] at h;have one:∀ {k:MK}{cs:List Value},fits [k] cs=true→∃ a,cs=[a]∧E4 k a=true:=fun {k cs} h=>by
   cases cs with
   |nil=>cases h
   |cons a l =>
    cases l with
    |nil=>exact⟨a,rfl,by simpa [fits] using h⟩
    |cons b l=>simp[fits] at h
  cases hu:P.underlying t with
  |none=>rw[hu] at h;cases h
  |some kd =>
   rw[hu] at h;cases kd
   case bool =>
    obtain rfl:=osj h;obtain⟨a,rfl,ha⟩:=one h1;obtain⟨b,rfl,hb⟩:=one h2;cases a<;>first|(cases ha;done)|skip
    cases b<;>first|(cases hb;done)|skip
    simp only[mkT,hu,List.headD_cons,Ql,K1,Bool.and_true];exact run_equalIn_bool' w (d+m) t _ _ hu
   case int q =>
    obtain rfl:=osj h;obtain⟨a,rfl,ha⟩:=one h1;obtain⟨b,rfl,hb⟩:=one h2;cases a<;>first|(cases ha;done)|skip
    cases b<;>first|(cases hb;done)|skip
    simp only[E4,decide_eq_true_eq] at ha hb;subst ha;subst hb;simp only[mkT,hu,List.headD_cons,Ql,K1,Bool.and_true];exact run_equalIn_int w (d+m) t _ _ _ _ hu
   case string =>
    obtain rfl:=osj h;obtain⟨a,rfl,ha⟩:=one h1;obtain⟨b,rfl,hb⟩:=one h2;cases a<;>first|(cases ha;done)|skip
    cases b<;>first|(cases hb;done)|skip
    simp only[mkT,hu,List.headD_cons,Ql,K1,Bool.and_true];rw[←ByteArray.toList_eq,←ByteArray.toList_eq];exact run_equalIn_string w (d+m) t _ _ hu
   case array n e =>
    simp only at h;split at h
    ·rename_i s' aZ;split at h
     ·rename_i hc;obtain rfl:=osj h;obtain⟨i,hi⟩:∃ i,P.info? e=some i:=by
       cases m with
       |zero=>simp[shp] at aZ
       |succ m =>
        simp only[shp] at aZ;cases iG:P.underlying e with
        |none=>rw[iG] at aZ;cases aZ
        |some _=>exact info_of_underlying iG
      simp only[mkT,hu];rw[show d+(m+1)=(d+m)+1 from rfl,run_equalIn_array w (d+m) _ _ hu hi,List.range_eq_range'];have:=Hb (d:=d) aZ hc (Vo d m e s' aZ) (xs:=cs.toArray) (ys:=ds.toArray) w n 0 (by simpa using h1) (by simpa using h2);simpa using this
     ·cases h
    ·cases h
   case struct fs =>
    simp only at h;split at h
    ·cases h
    ·rename_i bc;have ob:P.fieldsOf t=fs:=by simp[Program.fieldsOf,hu]
     simp only[mkT,hu];rw[show d+(m+1)=(d+m)+1 from rfl,run_equalIn_struct w (d+m) t _ _ (by rw[ob];exact hu) (by simpa using bc),ob];have:=CS (d:=d) rfl (Vo d m) (xs:=cs.toArray) (ys:=ds.toArray) w fs.toList 0 s h (by simpa using h1) (by simpa using h2);simpa using this
   all_goals cases h
theorem BI {n:Nat}:∀ {s:List MK}{l m:List Value},fits s l=true→LRel ρ n l m→m=l
 |[],[],m,_,hr=>by have:=hr.1;cases m with|nil=>rfl|cons=>simp at this
 |k::s,v::l,[],_,hr=>by have:=hr.1;simp at this
 |k::s,v::l,c::m,h,hr=>by
  simp only[fits,Bool.and_eq_true] at h;have h0:=hr.2 0 v c rfl rfl;have e:c=v:=by cases k<;>cases v<;>first|(cases h.1;done)|(cases h0;rfl)
  have ku:LRel ρ n l m:=⟨by have:=hr.1;simpa using this,fun i a b ha hb=>hr.2 (i+1) a b (by simpa using ha) (by simpa using hb)⟩;rw[e,BI h.2 ku]
 |[],_::_,_,h,_=>by cases h
 |_::_,[],_,h,_=>by cases h
def Q00 (P:Program) (t:TypeId):MK→TypeDesc→Prop
 |.int k,d=>d=.int k
 |.string,d=>d=.string
 |.bool,d=>d=.bool
 |.agg s,d=>shp P 8 t=some s∧((∃ fs,d=.struct fs)∨∃ n e,d=.array n e)
theorem NK {t:TypeId}{mk:MK}(h:Li P t=some mk):∃ d,P.underlying t=some d∧Q00 P t mk d:=by
 unfold Li at h;split at h
 ·rename_i k hk;simp at h;subst h;exact⟨_,hk,rfl⟩
 ·rename_i hk;simp at h;subst h;exact⟨_,hk,rfl⟩
 ·rename_i hk;simp at h;subst h;exact⟨_,hk,rfl⟩
 ·rename_i fs hk;obtain⟨s,hs,rfl⟩:=Option.map_eq_some_iff.1 h;exact⟨_,hk,hs,.inl ⟨fs,rfl⟩⟩
 ·rename_i n e hk;obtain⟨s,hs,rfl⟩:=Option.map_eq_some_iff.1 h;exact⟨_,hk,hs,.inr ⟨n,e,rfl⟩⟩
 ·cases h
theorem Kr {n:Nat}{v c:Value}(h:QQ v=true) (hv:VRel ρ n v c):c=v:=by cases hv<;>first|rfl|(simp[QQ,poison] at h)
theorem Hz {mk:MK}{k c:Value}{n:Nat}(h:Zk mk k=true) (hv:VRel ρ n k c):c=k:=by
 unfold Zk at h;split at h<;>first|(cases h;done)|(exact Kr rfl hv)|skip
 obtain⟨ds,rfl,hl⟩:=hv.agg_inv;have:=BI h hl;congr 1;exact Array.toList_inj.1 this
def MK.plain:MK→Bool
 |.agg _=>false
 |_=>true
theorem E2 {mk:MK}(hp:mk.plain=true) {t:TypeId}{d:TypeDesc}(hd:Q00 P t mk d) {a b:Value}(ha:Zk mk a=true) (hb:Zk mk b=true):Instr.sameNow d a b=some (Xh a b):=by
 cases mk
 case agg=>cases hp
 all_goals
  cases a<;>first|(cases ha;done)|skip
  cases b<;>first|(cases hb;done)|skip
  simp only[Q00] at hd;subst hd
 ·simp[Zk] at ha hb;subst ha;subst hb;simp[Instr.sameNow,Xh]
 ·simp[Instr.sameNow,Xh,beq_toListBytes,ByteArray.toList_eq]
 ·simp[Instr.sameNow,Xh]
theorem TQ:∀ {s:List MK}{l m:List Value},fits s l=true→fits s m=true→Ql l m=true→((m.zip l).all fun p=>Instr.sameBits 9999 p.1 p.2)=true
 |[],[],[],_,_,_=>rfl
 |k::s,a::l,b::m,h1,h2,h3=>by
  simp only[fits,Ql,Bool.and_eq_true] at h1 h2 h3;simp only[List.zip_cons_cons,List.all_cons,Bool.and_eq_true];refine⟨?_,TQ h1.2 h2.2 h3.2⟩;obtain⟨h1,_⟩:=h1;obtain⟨h2,_⟩:=h2;obtain⟨h3,_⟩:=h3;cases k<;>cases a<;>first|(cases h1;done)|(cases b<;>first|(cases h2;done)|skip)
  ·simp only[E4,decide_eq_true_eq] at h1 h2;subst h1;subst h2;simp only[K1,beq_iff_eq] at h3;subst h3;simp[Instr.sameBits]
  ·simp only[K1,beq_iff_eq] at h3;simp[Instr.sameBits,beq_toListBytes,ByteArray.toList_eq,h3]
  ·simp only[K1,beq_iff_eq] at h3;subst h3;simp[Instr.sameBits]
 |[],_::_,_,h,_,_=>by cases h
 |[],[],_::_,_,h,_=>by cases h
 |_::_,[],_,h,_,_=>by cases h
 |_::_,_::_,[],_,h,_=>by cases h
theorem Ga {mk:MK}{a b:Value}(ha:Zk mk a=true) (hb:Zk mk b=true) (h:Xh a b=true):Instr.sameBits 10000 b a=true:=by
 cases mk
 case agg s =>
  cases a<;>first|(cases ha;done)|skip
  cases b<;>first|(cases hb;done)|skip
  rename_i x y;simp only[Zk] at ha hb;simp only[Xh] at h;simp only[Instr.sameBits,Bool.and_eq_true,beq_iff_eq];have h1:=Xg ha;have h2:=Xg hb;exact⟨by simp at h1 h2;omega,TQ ha hb h⟩
 all_goals
  cases a<;>first|(cases ha;done)|skip
  cases b<;>first|(cases hb;done)|skip
 ·simp[Zk] at ha hb;subst ha;subst hb;simp[Xh] at h;subst h;simp[Instr.sameBits]
 ·simp[Xh] at h;simp[Instr.sameBits,beq_toListBytes,ByteArray.toList_eq,h]
 ·simp[Xh] at h;simp[Instr.sameBits,h]
theorem Yr {t:TypeId}{d:TypeDesc}(hd:P.underlying t=some d) {a:Value}(hm:(∃ k,d=.int k)∨d=.string∨d=.bool) (e:Bool) (n:Nat) (w':World):(Instr.checkKey e (n+1) t a).run P w'=.ok () w':=by simp only[Instr.checkKey,Sem.run_bind,Q0 hd,Result.andThen_ok];rcases hm with⟨k,rfl⟩|rfl|rfl<;>rfl
theorem CQ {e:Bool}{g:TypeId→Option (List MK)}{m d:Nat}(hg:g=shp P m) (ih:∀ t s,shp P m t=some s→∀ (w:World) (cs:List Value),fits s cs=true→(Instr.checkKey e (d+m) t (mkT P t cs)).run P w=.ok () w) {xs:Array Value}(w:World) :
  ∀ (fs:List Field) (off:Nat) (ss:List MK),Cg P g fs off=some ss→fits ss (xs.toList.drop off)=true→(forIn fs PUnit.unit fun f (_:PUnit)=>(do
   if f.name≠"_" then Instr.checkKey e (d+m) f.type (←part f.type xs f.offset)
   pure (ForInStep.yield PUnit.unit):Sem (ForInStep PUnit))).run P w=.ok PUnit.unit w
 |[],off,ss,h,h1=>by simp
 |f::r,off,ss,h,h1=>by
  simp only[Cg] at h;split at h
  ·rename_i hn;obtain⟨hn,rfl⟩:=hn;split at h
   ·rename_i s hs;split at h
    ·rename_i hc;obtain⟨q,hq,rfl⟩:=Option.map_eq_some_iff.1 h;obtain⟨a1,a2⟩:=VB h1;rw[List.drop_drop] at a2;rw[hg] at hs;have p1:=NV hs hc a1 w;have p3:=ih f.type s hs w _ a1;have hr:=CQ hg ih w r (f.offset+s.length) q hq a2;simp only[List.forIn_cons,Sem.run_bind,hn,ne_eq,not_false_eq_true,if_true,Result.andThen_ok,p1,p3,Sem.run_pure];exact hr
    ·cases h
   ·cases h
  ·cases h
theorem Hg (e:Bool) (d:Nat):∀ (m:Nat) (t:TypeId) (s:List MK),shp P m t=some s→∀ (w:World) (cs:List Value),fits s cs=true→(Instr.checkKey e (d+m) t (mkT P t cs)).run P w=.ok () w
 |0,t,s,h=>by simp[shp] at h
 |m+1,t,s,h=>by
  intro w cs h1;simp only[shp] at h;cases hu:P.underlying t with
  |none=>rw[hu] at h;cases h
  |some kd =>
   rw[hu] at h;cases kd
   case bool=>rw[show d+(m+1)=(d+m)+1 from rfl];exact Yr hu (by simp) e (d+m) w
   case int q=>rw[show d+(m+1)=(d+m)+1 from rfl];exact Yr hu (by simp) e (d+m) w
   case string=>rw[show d+(m+1)=(d+m)+1 from rfl];exact Yr hu (by simp) e (d+m) w
   case array n el =>
    simp only at h;split at h
    ·rename_i s' aZ;split at h
     ·rename_i hc;obtain rfl:=osj h;obtain⟨i,hi⟩:∃ i,P.info? el=some i:=by
       cases m with
       |zero=>simp[shp] at aZ
       |succ m =>
        simp only[shp] at aZ;cases iG:P.underlying el with
        |none=>rw[iG] at aZ;cases aZ
        |some _=>exact info_of_underlying iG
      simp only[mkT,hu];rw[show d+(m+1)=(d+m)+1 from rfl,Instr.checkKey];simp only[Sem.run_bind,run_underlying hu,Result.andThen_ok];simp only[Std.Legacy.Range.forIn_eq_forIn_range',Std.Legacy.Range.size,Nat.sub_zero,Nat.add_one_sub_one,Nat.div_one]
      have key:∀ (k i:Nat),fits (List.replicate k s').flatten (cs.drop (i*s'.length))=true→(forIn (List.range' i k) PUnit.unit fun i (_:PUnit)=>(do
        Instr.checkKey e (d+m) el (←part el cs.toArray (i*(←sizeOf el)))
        pure (ForInStep.yield PUnit.unit):Sem (ForInStep PUnit))).run P w=.ok PUnit.unit w:=by
       intro k;induction k with
       |zero=>intro i _;simp
       |succ k rL =>intro i hf;rw[List.replicate_succ,List.flatten_cons] at hf;obtain⟨a1,a2⟩:=VB hf;rw[List.drop_drop,←Nat.succ_mul] at a2;have p1:=NV (xs:=cs.toArray) (off:=i*s'.length) aZ hc (by simpa using a1) w;have p2:=Hg e d m el s' aZ w _ a1;have hr:=rL (i+1) a2;simp only[List.range'_succ,List.forIn_cons,Sem.run_bind,run_sizeOf w hi,hc,Result.andThen_ok,p1,p2,Sem.run_pure];exact hr
      have:=key n 0 (by simpa using h1);simp at this ⊢;rw[this];rfl
     ·cases h
    ·cases h
   case struct fs =>
    simp only at h;split at h
    ·cases h
    ·simp only[mkT,hu];rw[show d+(m+1)=(d+m)+1 from rfl,Instr.checkKey];simp only[Sem.run_bind,run_underlying hu,Result.andThen_ok];rw[←Array.forIn_toList];have:=CQ (e:=e) (d:=d) rfl (Hg e d m) (xs:=cs.toArray) w fs.toList 0 s h (by simpa using h1);simp at this ⊢;rw[this];rfl
   all_goals cases h
theorem Cv {t:TypeId}{d:TypeDesc}(hd:P.underlying t=some d) (hk:(∃ fs,d=.struct fs)∨∃ n e,d=.array n e) (a:Array Value):mkT P t a.toList=.agg a:=by unfold mkT;rcases hk with⟨fs,rfl⟩|⟨n,e,rfl⟩<;>simp[hd]
theorem Zq {mk:MK}{t:TypeId}{d:TypeDesc}(hd:P.underlying t=some d) (hm:Q00 P t mk d) {a:Value}(ha:Zk mk a=true) (e:Bool) (w':World):(Instr.checkKey e 10000 t a).run P w'=.ok () w':=by
 cases mk
 case agg s =>
  cases a<;>first|(cases ha;done)|skip
  rename_i x;have:=Hg (P:=P) e 9992 8 t s hm.1 w' x.toList ha;rw[Cv hd hm.2] at this;exact this
 all_goals (cases a<;>first|(cases ha;done)|(simp only[Q00] at hm;subst hm;exact Yr hd (by simp) e 9999 w'))
theorem EK {mk:MK}(hp:mk.plain=true) {t:TypeId}{d:TypeDesc}(hd:Q00 P t mk d) {k:Value}(hk:Zk mk k=true) (nv:Value) (c:Nat) {n:Nat}:∀ (es:List Jr) (E:List MapEntry) (i:Nat),LERel ρ n E es→es.all (fun e=>Zk mk e.1)=true →
  (Qg k es=none∧Instr.findNow d k E i=some none∧Qq k nv c es=(es++[(k,nv,c)],c+1)) ∨
  (∃ j e e',Qg k es=some e∧es[j]?=some e∧E[j]?=some e'∧Instr.findNow d k E i=some (some (i+j,e'.val))∧Xh k e.1=true∧Qq k nv c es=(es.set j (k,nv,e.2.2),c)):=by
 intro es;induction es with
 |nil =>
  intro E i hE _;have:E=[]:=by have:=hE.1;simpa using this
  subst this;exact .inl ⟨rfl,rfl,rfl⟩
 |cons kv es ih =>
  intro E i hE ae;obtain⟨e,E',rfl,he,bV⟩:=hE.cons_inv;simp only[List.all_cons,Bool.and_eq_true] at ae;have hs:Instr.sameNow d k e.key=some (Xh k kv.1):=by rw[he.1];exact E2 hp hd hk ae.1
  cases hq:Xh k kv.1 with
  |true =>refine .inr ⟨0,kv,e,by simp[Qg,hq],rfl,rfl,?_,hq,by simp[Qq,hq]⟩;simp[Instr.findNow,hs,hq]
  |false =>
   rcases ih E' (i+1) bV ae.2 with⟨h1,h2,h3⟩|⟨j,a,a',h1,h2,h3,h4,h5,h6⟩
   ·refine .inl ⟨by simp[Qg,hq,h1],by simp[Instr.findNow,hs,hq,h2],by simp[Qq,hq,h3]⟩
   ·refine .inr ⟨j+1,a,a',by simp[Qg,hq,h1],by simpa using h2,by simpa using h3,?_,h5,by simp[Qq,hq,h6]⟩;simp[Instr.findNow,hs,hq,h4];omega
theorem M_ {t:TypeId}{d:TypeDesc}(hd:P.underlying t=some d) {k:Value}{E:List MapEntry}{r:Option (Nat×Value)}(h:Instr.findNow d k E 0=some r) (w':World):(Instr.findKey t k E).run P w'=.ok r w':=by simp[Instr.findKey,Q0 hd,h]
theorem EA {s:List MK}{t:TypeId}{d:TypeDesc}(hu:P.underlying t=some d) (hd:Q00 P t (.agg s) d) {k:Value}(hk:Zk (.agg s) k=true) (nv:Value) (c:Nat) {n:Nat}:∀ (es:List Jr) (E:List MapEntry) (i:Nat),LERel ρ n E es→es.all (fun e=>Zk (.agg s) e.1)=true →
  (Qg k es=none∧(∀ w',(Instr.findAsking t k E i).run P w'=.ok none w')∧Qq k nv c es=(es++[(k,nv,c)],c+1)) ∨
  (∃ j e e',Qg k es=some e∧es[j]?=some e∧E[j]?=some e'∧(∀ w',(Instr.findAsking t k E i).run P w'=.ok (some (i+j,e'.val)) w')∧Xh k e.1=true∧Qq k nv c es=(es.set j (k,nv,e.2.2),c)):=by
 intro es;induction es with
 |nil =>
  intro E i hE _;have:E=[]:=by have:=hE.1;simpa using this
  subst this;exact .inl ⟨rfl,fun w'=>by simp[Instr.findAsking],rfl⟩
 |cons kv es ih =>
  intro E i hE ae;obtain⟨e,E',rfl,he,bV⟩:=hE.cons_inv;simp only[List.all_cons,Bool.and_eq_true] at ae;have hs:∀ w',(Op.equal t k e.key).run P w'=.ok (Xh k kv.1) w':=fun w'=>by
   rw[he.1];have h1:=ae.1;cases k<;>first|(cases hk;done)|skip
   rename_i x;generalize dk:kv.1=y at h1 ⊢;cases y<;>first|(cases h1;done)|skip
   rename_i y;have:=Vo 9992 8 t s hd.1 w' x.toList y.toList hk h1;rw[Cv hu hd.2,Cv hu hd.2] at this;exact this
  cases hq:Xh k kv.1 with
  |true =>refine .inr ⟨0,kv,e,by simp[Qg,hq],rfl,rfl,fun w'=>?_,hq,by simp[Qq,hq]⟩;simp[Instr.findAsking,hs,hq]
  |false =>
   rcases ih E' (i+1) bV ae.2 with⟨h1,h2,h3⟩|⟨j,a,a',h1,h2,h3,h4,h5,h6⟩
   ·refine .inl ⟨by simp[Qg,hq,h1],fun w'=>by simp[Instr.findAsking,hs,hq,h2],by simp[Qq,hq,h3]⟩
   ·refine .inr ⟨j+1,a,a',by simp[Qg,hq,h1],by simpa using h2,by simpa using h3,fun w'=>?_,h5,by simp[Qq,hq,h6]⟩;simp[Instr.findAsking,hs,hq,h4];omega
theorem Cr {t:TypeId}{s:List MK}{d:TypeDesc}(hd:Q00 P t (.agg s) d) {k:Value}{e:MapEntry}{E:List MapEntry}{i:Nat}:Instr.findNow d k (e::E) i=none:=by rcases hd.2 with⟨fs,rfl⟩|⟨n,el,rfl⟩<;>simp[Instr.findNow,Instr.sameNow]
theorem YG {mk:MK}{t:TypeId}{d:TypeDesc}(hu:P.underlying t=some d) (hd:Q00 P t mk d) {k:Value}(hk:Zk mk k=true) (nv:Value) (c:Nat) {n:Nat}(es:List Jr) (E:List MapEntry) (hE:LERel ρ n E es) (ae:es.all (fun e=>Zk mk e.1)=true) :
  (Qg k es=none∧(∀ w',(Instr.findKey t k E).run P w'=.ok none w')∧Qq k nv c es=(es++[(k,nv,c)],c+1)) ∨
  (∃ j e e',Qg k es=some e∧es[j]?=some e∧E[j]?=some e'∧(∀ w',(Instr.findKey t k E).run P w'=.ok (some (0+j,e'.val)) w')∧Xh k e.1=true∧Qq k nv c es=(es.set j (k,nv,e.2.2),c)):=by
 cases hp:mk.plain with
 |true =>
  rcases EK hp hd hk nv c es E 0 hE ae with⟨h1,h2,h3⟩|⟨j,a,a',h1,h2,h3,h4,h5,h6⟩
  ·exact .inl ⟨h1,M_ hu h2,h3⟩
  ·exact .inr ⟨j,a,a',h1,h2,h3,M_ hu h4,h5,h6⟩
 |false =>
  cases mk with
  |agg s =>
   have e1:∀ w',(Instr.findKey t k E).run P w'=(Instr.findAsking t k E 0).run P w':=fun w'=>by
    cases E with
    |nil=>simp[Instr.findKey,Q0 hu,Instr.findNow,Instr.findAsking]
    |cons e E=>simp[Instr.findKey,Q0 hu,Cr hd]
   rcases EA hu hd hk nv c es E 0 hE ae with⟨h1,h2,h3⟩|⟨j,a,a',h1,h2,h3,h4,h5,h6⟩
   ·exact .inl ⟨h1,fun w'=>by rw[e1];exact h2 w',h3⟩
   ·exact .inr ⟨j,a,a',h1,h2,h3,fun w'=>by rw[e1];exact h4 w',h5,h6⟩
  |_=>cases hp
theorem X7 {m:Nat}{es:List Jr}{clock:Nat}{wr:Bool}(h:σ.mapAt m=some (es,clock,wr)):σ.get m=some (.obj (.map es clock) wr):=by
 unfold Heap.mapAt at h;split at h
 ·rename_i he;simp at h;obtain⟨rfl,rfl,rfl⟩:=h;exact he
 ·cases h
theorem X5 (hH:HRel ρ σ w) {m:Nat}{es:List Jr}{clock:Nat}{wr:Bool}(h:σ.mapAt m=some (es,clock,wr)) {c:Value}(hv:VRel ρ σ.n (.map (some m)) c) :
  ∃ p entries,c=.map (some p.blk)∧ρ m=some p∧w.heap[p.blk]?=some (.map entries clock)∧LERel ρ σ.n entries.toList es:=by
 obtain⟨p,hp,_,O,h1,h2⟩:=hH.live m _ (X7 h);obtain⟨entries,rfl,h3⟩:=ORel.map_iff.1 h2;obtain⟨r,rfl,_,hr⟩:=hv.someMap_inv;exact⟨p,entries,by rw[hr p hp],hp,h1,h3⟩
theorem Qu {w':World}{r:Nat}{O:Obj}(h:w'.heap[r]?=some O) (hc:∀ c e f,O≠.cells c e f):(getObj r).run P w'=.ok O w':=by cases O<;>first|(exact absurd rfl (hc _ _ _))|simp[getObj,Sem.run,h]
theorem QL {w':World}{r:Nat}{O O':Obj}(h:w'.heap[r]?=some O) (hc:∀ c e f,O≠.cells c e f):(setObj r O').run P w'=.ok () (Hc w' r O'):=by cases O<;>first|(exact absurd rfl (hc _ _ _))|simp[setObj,Sem.run,h,Hc]
theorem TX {xs:List Value}{s:ByteArray}(h:Bb xs=some s):∃ ns:List Int,xs=ns.map (Value.int .u8)∧s=⟨(ns.map fun n=>n.toNat.toUInt8).toArray⟩:=by
 unfold Bb at h;rw[Option.map_eq_some_iff] at h;obtain⟨bs,h1,rfl⟩:=h;have key:∀ (xs:List Value) (bs:List UInt8),xs.mapM Cy=some bs→∃ ns:List Int,xs=ns.map (Value.int .u8)∧bs=ns.map fun n=>n.toNat.toUInt8:=by
  intro xs;induction xs with
  |nil=>intro bs h;simp at h;subst h;exact⟨[],rfl,rfl⟩
  |cons x xs ih =>
   intro bs h;rw[List.mapM_cons] at h;cases hx:Cy x with
   |none=>simp[hx] at h
   |some b =>
    cases hm:xs.mapM Cy with
    |none=>simp[hx,hm] at h
    |some tN =>
     simp[hx,hm] at h;obtain⟨ns,h1,h2⟩:=ih _ hm;unfold Cy at hx;split at hx
     ·rename_i n;simp at hx;exact⟨n::ns,by simp[h1],by rw[←h,h2,←hx];rfl⟩
     ·cases hx
 obtain⟨ns,h2,h3⟩:=key xs bs h1;exact⟨ns,h2,by rw[h3]⟩
theorem Q0p {n:Nat}{ns:List Int}{us:List Value}(h:LRel ρ n (ns.map (Value.int .u8)) us):us=ns.map (Value.int .u8):=by
 apply List.ext_getElem?;intro i;cases hi:(ns.map (Value.int .u8))[i]? with
 |none =>have h1:(ns.map (Value.int .u8)).length≤i:=List.getElem?_eq_none_iff.1 hi;exact List.getElem?_eq_none_iff.2 (by rw[←h.1];exact h1)
 |some v =>
  obtain⟨c,hc,hv⟩:=h.get hi;rw[hc];rw[List.getElem?_map] at hi;cases hn:ns[i]? with
  |none=>rw[hn] at hi;cases hi
  |some x=>rw[hn] at hi;obtain rfl:=osj hi;rw[hv.int_inv]
theorem Ec (ns:List Int):∀ (acc:ByteArray),ns.foldl (fun r n=>r.push (UInt8.ofNat n.toNat)) acc=⟨acc.data++(ns.map fun n=>n.toNat.toUInt8).toArray⟩:=by
 induction ns with
 |nil=>intro acc;simp
 |cons n ns ih =>intro acc;rw[List.foldl_cons,ih];apply ByteArray.ext;simp[ByteArray.push]
theorem Ow {n:Nat}(b:Nat):∀ (es:List Jr) (E:List MapEntry),LERel ρ n E es→∀ e,es.find? (fun e=>e.2.2==b)=some e→∃ e',E.find? (fun x=>x.born==b)=some e'∧Q8g ρ n e' e:=by
 intro es;induction es with
 |nil=>intro E _ e h;simp at h
 |cons kv es ih =>
  intro E hE e h;obtain⟨x,E',rfl,hx,bV⟩:=hE.cons_inv;cases hb:kv.2.2==b with
  |true =>simp only[List.find?_cons,hb] at h;obtain rfl:=osj h;exact⟨x,by simp only[List.find?_cons,hx.2.1,hb],hx⟩
  |false =>simp only[List.find?_cons,hb] at h;obtain⟨e',h1,h2⟩:=ih E' bV e h;exact⟨e',by simp only[List.find?_cons,hx.2.1,hb];exact h1,h2⟩
theorem EX {u:TypeId}(hc:P.cellsOf u≠0) (n off:Nat) (h0:off=0) (hn:P.cellsOf u≤n):liesAt P P.depth u (n / P.cellsOf u) off u 1=true:=by have hd:P.depth=(2*(P.types.size+Made.depth)+1)+1:=rfl;have h1:1≤n / P.cellsOf u:=(Nat.one_le_div_iff (by omega)).2 hn;subst h0;rw[hd];simp only[liesAt,Bool.or_eq_true];left;rw[hd];simp[rowAt,hc,sameLayout,h1]
set_option maxHeartbeats 1000000 in
theorem SM {o:Oper}{xo:XOp}(hc:Tu P o.op=some xo) (hq:xo.quiet=true) (hH:HRel ρ σ w) (hE:∀ x,JW x=true→VRel ρ σ.n (Q3 env x) (ev x))
  (h:Zj xo (Q3 env) σ=some (v,σ')):σ'=σ∧LR P ρ σ w v (execOp ev o):=by
 obtain⟨dst,op,ty,pos,after,guard⟩:=o;simp only at hc;unfold Tu at hc;split at hc
 ·cases hc
 rename_i ah;simp only[Bool.not_eq_true,Bool.not_eq_false'] at ah;cases op<;>simp only[Op.operands] at ah hc
 case binOp iD t x y yt =>
  simp at ah;have hx:=hE x ah.1;have hy:=hE y ah.2
  have key:∀ (kd:Nat) (neg:Bool),iD=(if neg then .neq else .eql)→((kd=0∧∃ e i,P.underlying t=some (.pointer e)∧P.info? e=some i)∨(kd=1∧∃ e,P.underlying t=some (.slice e)) ∨
   (kd=2∧∃ k e,P.underlying t=some (.map k e))∨(kd=3∧∃ p q s,P.underlying t=some (.func p q s)))→xo=.eqNil kd neg x y→σ'=σ∧LR P ρ σ w v (execOp ev ⟨dst,.binOp iD t x y yt,ty,pos,after,guard⟩):=by
   intro kd neg ky hk lO;subst lO;simp only[Zj] at h;split at h
   ·rename_i r hs;simp at h;obtain⟨rfl,rfl⟩:=h;obtain⟨h1,h2⟩:=Ey hH hk hx hy hs;rw[ky];exact⟨rfl,Ay neg t x y yt ty pos after dst guard rfl rfl (fun op w'=>RU op t x y h2 w') (h1 neg)⟩
   ·cases h
  have iN:∀ (neg:Bool),iD=(if neg then .neq else .eql)→((∃ fs,P.underlying t=some (.struct fs))∨∃ n e,P.underlying t=some (.array n e))→Ta P neg t x y=some xo→σ'=σ∧LR P ρ σ w v (execOp ev ⟨dst,.binOp iD t x y yt,ty,pos,after,guard⟩):=by
   intro neg ky hk lO;unfold Ta at lO;split at lO
   ·cases lO
   ·rename_i oR;obtain⟨s,hs,rfl⟩:=Option.map_eq_some_iff.1 lO;simp only[Zj] at h;split at h
    ·rename_i a b ha hb;split at h
     ·rename_i eZ;simp at h;obtain⟨rfl,rfl⟩:=h;rw[ha] at hx;rw[hb] at hy;obtain⟨ca,rM,mn⟩:=hx.agg_inv;obtain⟨cb,rN,oh⟩:=hy.agg_inv;have ea:=BI eZ.1 mn;have eb:=BI eZ.2 oh;have e1:mkT P t a.toList=.agg a:=by
       unfold mkT;rcases hk with⟨fs,hu⟩|⟨n,e,hu⟩<;>simp[hu]
      have e2:mkT P t b.toList=.agg b:=by unfold mkT;rcases hk with⟨fs,hu⟩|⟨n,e,hu⟩<;>simp[hu]
      have aX:=fun w'=>Vo 9992 8 t s hs w' a.toList b.toList eZ.1 eZ.2;rw[e1,e2] at aX;have rO:ev x=.agg a:=by rw[rM];congr 1;rw[←Array.toList_inj];simpa using ea
      have rP:ev y=.agg b:=by rw[rN];congr 1;rw[←Array.toList_inj];simpa using eb
      rw[ky];refine⟨rfl,Ay neg t x y yt ty pos after dst guard rO rP (fun op w'=>run_eqGuard_agg w' op t x y a b (by simpa using oR)) (fun w'=>?_)⟩;have hr:=aX w';cases neg
      ·simp only[Bool.false_eq_true,if_false];rw[run_eql_struct w' t a b,show (10000:Nat)=9992+8 from rfl,hr];rfl
      ·simp only[if_true];rw[run_neq_struct w' t a b,show (10000:Nat)=9992+8 from rfl,hr];rfl
     ·cases h
    ·cases h
  split at hc
  ·rename_i e hu;cases hi:P.info? e with
   |none=>simp[hi] at hc
   |some i =>simp[hi] at hc;exact key 0 false rfl (.inl ⟨rfl,e,i,hu,hi⟩) hc.2.symm
  ·rename_i e hu;cases hi:P.info? e with
   |none=>simp[hi] at hc
   |some i =>simp[hi] at hc;exact key 0 true rfl (.inl ⟨rfl,e,i,hu,hi⟩) hc.2.symm
  ·rename_i e hu;simp at hc;exact key 1 false rfl (.inr (.inl ⟨rfl,e,hu⟩)) hc.symm
  ·rename_i k e hu;simp at hc;exact key 2 false rfl (.inr (.inr (.inl ⟨rfl,k,e,hu⟩))) hc.symm
  ·rename_i p q r hu;simp at hc;exact key 3 false rfl (.inr (.inr (.inr ⟨rfl,p,q,r,hu⟩))) hc.symm
  ·rename_i e hu;simp at hc;exact key 1 true rfl (.inr (.inl ⟨rfl,e,hu⟩)) hc.symm
  ·rename_i k e hu;simp at hc;exact key 2 true rfl (.inr (.inr (.inl ⟨rfl,k,e,hu⟩))) hc.symm
  ·rename_i p q r hu;simp at hc;exact key 3 true rfl (.inr (.inr (.inr ⟨rfl,p,q,r,hu⟩))) hc.symm
  ·rename_i fs hu;exact iN false rfl (.inl ⟨fs,hu⟩) hc
  ·rename_i fs hu;exact iN true rfl (.inl ⟨fs,hu⟩) hc
  ·rename_i n e hu;exact iN false rfl (.inr ⟨n,e,hu⟩) hc
  ·rename_i n e hu;exact iN true rfl (.inr ⟨n,e,hu⟩) hc
  ·cases hc
 case makeMap t r=>cases r<;>simp at hc;subst hc;cases hq
 case mapUpdate t m k x =>
  split at hc
  ·rename_i kt e hu;cases hk:Li P kt with
   |none=>simp[hk] at hc
   |some mk=>simp[hk] at hc;subst hc;cases hq
  ·cases hc
 case insert t m k x =>
  split at hc
  ·rename_i kt e hu;cases hk:Li P kt with
   |none=>simp[hk] at hc
   |some mk=>simp[hk] at hc;subst hc;cases hq
  ·cases hc
 case mapEntry t m k =>
  split at hc
  ·rename_i kt e hu;cases hk:Li P kt with
   |none=>simp[hk] at hc
   |some mk =>
    cases bX:P.info? e with
    |none=>simp[hk,bX] at hc
    |some inf =>
     cases hz:inf.zero with
     |none=>simp[hk,bX,hz] at hc
     |some z=>simp[hk,bX,hz] at hc;obtain⟨_,rfl⟩:=hc;cases hq
  ·cases hc
 case entryStore t m s x=>simp at hc;subst hc;cases hq
 case range t x =>
  split at hc
  ·simp at hc;subst hc;cases hq
  ·cases hc
 case next x b=>cases b<;>simp at hc;subst hc;cases hq
 case lookup t x i ig =>
  simp at ah;have hx:=hE x ah.1;have hi:=hE i ah.2;split at hc
  ·rename_i kt e hu;cases hk:Li P kt with
   |none=>simp[hk] at hc
   |some mk =>
    cases bX:P.info? e with
    |none=>simp[hk,bX] at hc
    |some inf =>
     cases hz:inf.zero with
     |none=>simp[hk,bX,hz] at hc
     |some z =>
      simp[hk,bX,hz] at hc;obtain⟨kz,rfl⟩:=hc;obtain⟨d,hd,dV⟩:=NK hk;have jx:∀ w',(zeroValue e).run P w'=.ok z w':=fun w'=>Z5 bX hz w';have dR:VRel ρ σ.n z z:=KZ kz;simp only[Zj] at h;split at h
      ·rename_i bM;have oU:ev i=Q3 env i:=Hz bM hi;split at h
       ·rename_i br;rw[br] at hx;obtain cg:=hx.nilMap_inv;simp at h;obtain⟨rfl,rfl⟩:=h;refine⟨rfl,if ig then .tuple #[z,.bool false] else z,?_,fun w' _=>?_⟩
        ·cases ig
         ·exact dR
         ·exact VRel.tuple_of (LRel.cons dR (LRel.cons (.bool _) (LRel.nil _ _)))
        ·simp only[execOp];simp only[Instr.lookup,Sem.run_bind,Q0 hu,Result.andThen_ok,cg,Sem.run_pure,oU,Zq hd dV bM];rw[M_ hd (r:=none) rfl];cases ig<;>simp[jx]
       ·rename_i m br;rw[br] at hx;split at h
        ·rename_i es clock wr aE;split at h
         ·rename_i ae;obtain⟨p,entries,cg,hp,aD,aF⟩:=X5 hH aE hx;have aX:∀ w',Like ρ w w'→(getObj p.blk).run P w'=.ok (.map entries clock) w':=fun w' hl =>
           Qu (by rw[hl.blk m p hp];exact aD) (fun _ _ _ e=>by cases e)
          rcases YG hd dV bM (.bool true) 0 es entries.toList aF ae with⟨h1,h2,_⟩|⟨j,a,a',h1,h2,h3,h4,_,_⟩
          ·rw[h1] at h;simp at h;obtain⟨rfl,rfl⟩:=h;refine⟨rfl,if ig then .tuple #[z,.bool false] else z,?_,fun w' hl=>?_⟩
           ·cases ig
            ·exact dR
            ·exact VRel.tuple_of (LRel.cons dR (LRel.cons (.bool _) (LRel.nil _ _)))
           ·simp only[execOp];simp only[Instr.lookup,Sem.run_bind,Q0 hu,Result.andThen_ok,cg,aX w' hl,Sem.run_pure,oU,Zq hd dV bM];rw[h2];cases ig<;>simp[jx]
          ·rw[h1] at h;simp at h;obtain⟨rfl,rfl⟩:=h;have mq:=(aF.2 j a' a h3 h2).2.2;refine⟨rfl,if ig then .tuple #[a'.val,.bool true] else a'.val,?_,fun w' hl=>?_⟩
           ·cases ig
            ·exact mq
            ·exact VRel.tuple_of (LRel.cons mq (LRel.cons (.bool _) (LRel.nil _ _)))
           ·simp only[execOp];simp only[Instr.lookup,Sem.run_bind,Q0 hu,Result.andThen_ok,cg,aX w' hl,Sem.run_pure,oU,Zq hd dV bM];rw[h4];cases ig<;>simp
         ·cases h
        ·cases h
       ·cases h
      ·cases h
  ·cases hc
 case entry x =>
  simp at ah;have hx:=hE x ah;simp at hc;subst hc;simp only[Zj] at h;split at h
  ·rename_i i br;rw[br] at hx;split at h
   ·rename_i m since seen last wr hb;split at h
    ·rename_i es clock kA b aE dF;split at h
     ·rename_i cy;split at h
      ·rename_i e cR;split at h
       rotate_left
       ·cases h
       rename_i aT;simp at h;obtain⟨rfl,rfl⟩:=h;obtain⟨p,hp,⟨_,eE⟩,O,hO,rm,rfl,oi⟩:=hH.live i _ hb;obtain⟨q,entries,gH,cw,aD,aF⟩:=X5 hH aE oi;simp at gH;obtain⟨_,_,cg⟩:=hx.ptr_inv hp;rw[eE] at cg;obtain⟨e',jy,iO⟩:=Ow b es entries.toList aF e cR;rw[Array.find?_toList] at jy;have eg:(seen.toArray).back?=some b:=by simpa using dF
       have dk:VRel ρ σ.n e.1 e'.key:=by rw[iO.1];exact KZ aT
       refine⟨rfl,.tuple #[e'.key,e'.val],VRel.tuple_of (LRel.cons dk (LRel.cons iO.2.2 (LRel.nil _ _))),fun w' hl=>?_⟩;have h1:=Qu (P:=P) (w':=w') (r:=p.blk) (by rw[hl.blk i p hp];exact hO) (fun _ _ _ e=>by cases e);have h2:=Qu (P:=P) (w':=w') (r:=q.blk) (by rw[hl.blk m q cw];exact aD) (fun _ _ _ e=>by cases e);simp only[execOp];simp only[Instr.entry,cg,Nat.zero_add,Sem.run_bind,h1,Result.andThen_ok,eg];rw[gH,];simp[h2,cy,jy]
      ·cases h
     ·cases h
    ·cases h
   ·cases h
  ·cases h
 case convert s d x =>
  simp at ah;have hx:=hE x ah;split at hc
  ·rename_i t hs hd;cases hi:P.info? t with
   |none=>simp[hi] at hc
   |some inf =>
    simp[hi] at hc;obtain⟨aI,rfl⟩:=hc;simp only[Zj] at h;split at h
    ·rename_i br;rw[br] at hx;obtain cg:=hx.nilPtr_inv;simp at h;obtain⟨rfl,rfl⟩:=h;refine⟨rfl,Qj (c:=.pointer none) (fun w'=>?_) .nilPtr⟩;simp[execOp,cg,convert,Q0 hs,Q0 hd,Conv.unsafePointer]
    ·rename_i i o br;rw[br] at hx;split at h
     ·rename_i c e wr tight hb;split at h
      ·rename_i ai;simp at h;obtain⟨rfl,rfl⟩:=h;obtain⟨p,hp,_,_,hl,⟨C,e',f,hC,om,_⟩,_,_⟩:=hH.live i _ hb;obtain⟨_,_,cg⟩:=hx.ptr_inv hp;refine⟨rfl,ev x,hx,fun w' oV=>?_⟩;have eE:w'.shape? p.blk=some (e',C.size):=by
        have:w'.heap[p.blk]?=some (.cells C e' f):=by rw[oV.blk i p hp];exact hC
        simp[World.shape?,this]
       simp only[execOp,cg];have:=Go.Lib.run_to_unsafe (P:=P) w' (src:=s) (dst:=d) ⟨p.blk,p.shift+o,none⟩ hs hd hi (by simpa using aI) eE (by show p.shift+o<C.size;omega);simp[this]
      ·cases h
     ·cases h
    ·cases h
  ·rename_i u hs hd;cases hi:P.info? u with
   |none=>simp[hi] at hc
   |some inf =>
    simp[hi] at hc;obtain⟨⟨aI,rQ⟩,rfl⟩:=hc;simp only[Zj] at h;split at h
    ·rename_i br;rw[br] at hx;obtain cg:=hx.nilPtr_inv;simp at h;obtain⟨rfl,rfl⟩:=h;refine⟨rfl,Qj (c:=.pointer none) (fun w'=>?_) .nilPtr⟩;simp[execOp,cg,convert,Q0 hs,Q0 hd,Conv.unsafePointer]
    ·rename_i i o br;rw[br] at hx;split at h
     ·rename_i c e hb;split at h
      ·rename_i ai;obtain⟨rfl,het,hle⟩:=ai;simp at h;obtain⟨rfl,rfl⟩:=h;obtain⟨p,hp,_,_,hl,⟨C,e',f,hC,om,kB⟩,_,h6⟩:=hH.live i _ hb;obtain⟨_,_,cg⟩:=hx.ptr_inv hp;have rR:=(h6 rfl).1 rfl;refine⟨rfl,ev x,hx,fun w' oV=>?_⟩;have eE:w'.shape? p.blk=some (u,C.size):=by
        have:w'.heap[p.blk]?=some (.cells C e' f):=by rw[oV.blk i p hp];exact hC
        simp[World.shape?,this,kB,het]
       simp only[execOp,cg];rw[Nat.add_zero] at *
       have:=Go.Lib.run_from_unsafe (P:=P) w' (src:=s) (dst:=d) ⟨p.blk,p.shift,none⟩ hs hd hi eE (EX rQ _ _ rR (by omega));simp[this]
      ·cases h
     ·cases h
    ·cases h
  ·rename_i e hs hd;split at hc
   ·rename_i he;simp at hc;subst hc;simp only[Zj] at h;split at h
    ·rename_i a n c br;rw[br] at hx;split at h
     ·rename_i xs bt;split at h
      ·rename_i s' oW;simp at h;obtain⟨rfl,rfl⟩:=h;obtain⟨ns,lP,rfl⟩:=TX oW;subst lP;obtain⟨hlen,us,dS,⟨a',au,cg⟩,aX⟩:=SX hH bt hx;have mr:=Q0p dS;refine⟨rfl,.string ⟨(ns.map fun n=>n.toNat.toUInt8).toArray⟩,.string _,fun w' hl=>?_⟩;have hr:=aX w' hl;rw[cg] at hr;simp only[execOp,cg];cases a' with
       |none =>
        simp[Builtin.firstCells] at hr;have:ns=[]:=by rw[mr] at hr;simpa using hr.symm
        subst this;simp[convert,Q0 hs,Q0 hd,Q0 he,Conv.bytesToString];rfl
       |some a' =>simp only[Builtin.firstCells,Nat.mul_one] at hr;rw[mr] at hr;have:=run_bytesToString (P:=P) w' a' n au ns hr;rw[Ec] at this;simp[convert,Q0 hs,Q0 hd,Q0 he,this]
      ·cases h
     ·cases h
    ·cases h
   ·cases hc
  ·split at hc
   ·simp at hc;subst hc;cases hq
   ·cases hc
  ·cases hc
 case call c =>
  split at hc
  ·rename_i aG;split at hc
   ·rename_i t x fW cL;split at hc
    ·rename_i kt e hu;simp at hc;subst hc;have bC:c.args=#[x]:=Array.ext' (by simpa using cL);have hx:VRel ρ σ.n (Q3 env x) (ev x):=hE x (by simpa [Call.operands,aG,bC] using ah);simp only[Zj] at h;split at h
     ·rename_i br;rw[br] at hx;obtain cg:=hx.nilMap_inv;simp at h;obtain⟨rfl,rfl⟩:=h;refine⟨rfl,Qj (c:=.int .i64 0) (fun w'=>?_) (.int _ _)⟩;simp[execOp,resolve,aG,bC,invoke,builtin,Builtin.len_,fW,cg,Q0 hu,goInt]
     ·rename_i m br;rw[br] at hx;split at h
      ·rename_i es clock wr aE;simp at h;obtain⟨rfl,rfl⟩:=h;obtain⟨p,entries,cg,hp,aD,aF⟩:=X5 hH aE hx;refine⟨rfl,.int .i64 es.length,.int _ _,fun w' hl=>?_⟩;have h1:=Qu (P:=P) (w':=w') (r:=p.blk) (by rw[hl.blk m p hp];exact aD) (fun _ _ _ e=>by cases e);have h2:entries.size=es.length:=by have:=aF.1;simpa using this
       simp[execOp,resolve,aG,bC,invoke,builtin,Builtin.len_,fW,cg,Q0 hu,goInt,h1,h2]
      ·cases h
     ·cases h
    ·cases hc
   ·cases hc
  ·split at hc
   ·split at hc
    ·rename_i kt e hu;cases hk:Li P kt with
     |none=>simp[hk] at hc
     |some mk=>simp[hk] at hc;subst hc;cases hq
    ·cases hc
   ·cases hc
  ·split at hc
   ·split at hc
    ·rename_i e hu;cases hi:P.info? e with
     |none=>simp[hi] at hc
     |some inf=>simp[hi] at hc;subst hc;cases hq
    ·cases hc
   ·cases hc
  ·split at hc
   ·split at hc
    ·rename_i e hu;cases hz:zeroOf P e with
     |none=>simp[hz] at hc
     |some z=>simp[hz] at hc;obtain⟨_,rfl⟩:=hc;cases hq
    ·cases hc
   ·cases hc
  ·rename_i aG;split at hc
   ·rename_i x cL;simp at hc;subst hc;have bC:c.args=#[x]:=Array.ext' (by simpa using cL);have hx:VRel ρ σ.n (Q3 env x) (ev x):=hE x (by simpa [Call.operands,aG,bC] using ah);simp only[Zj] at h;split at h
    ·rename_i br;rw[br] at hx;obtain cg:=hx.noneSl_inv;simp at h;obtain⟨rfl,rfl⟩:=h;refine⟨rfl,Qj (c:=.pointer none) (fun w'=>?_) .nilPtr⟩;simp[execOp,resolve,aG,bC,invoke,builtin,cg,Go.Lib.run_unsafeSliceData_nil]
    ·rename_i i o n cap br;rw[br] at hx;split at h
     ·rename_i c_;simp at h;obtain⟨rfl,rfl⟩:=h;obtain⟨c_,hs⟩:=c_;obtain⟨blk,aD⟩:=Option.isSome_iff_exists.1 hs;obtain⟨p,hp,_⟩:=hH.live _ _ aD;obtain⟨a,au,cg,aM,aT⟩:=hx.sl_inv;obtain⟨h1,_,o',rfl,_,ho⟩:=aT p hp;have eD:o'=o:=ho.resolve_right (fun hh=>c_ hh.2);subst eD;refine⟨rfl,.pointer (some ⟨p.blk,p.shift+o',none⟩),.ptr _ _ _ aM (fun q hq=>by rw[hp] at hq;obtain rfl:=osj hq;rfl),fun w' _=>?_⟩;simp[execOp,resolve,aG,bC,invoke,builtin,cg,Go.Lib.run_unsafeSliceData_row w' _ _ _ n au (by omega)]
     ·cases h
    ·cases h
   ·cases hc
  ·split at hc
   ·split at hc
    ·split at hc
     ·simp at hc;subst hc;cases hq
     ·cases hc
    ·cases hc
   ·cases hc
  ·cases hc
 all_goals cases hc
theorem getElem?_modify_list {α:Type}(l:List α) (j:Nat) (f:α→α) (k:Nat):(l.modify j f)[k]?=if j=k then (l[k]?).map f else l[k]?:=by rw[List.getElem?_modify];split<;>simp_all
theorem Gg {n:Nat}{E:List MapEntry}{es:List Jr}(h:LERel ρ n E es) (j:Nat) (f:MapEntry→MapEntry) (kv:Jr) (hf:∀ e,E[j]?=some e→Q8g ρ n (f e) kv):LERel ρ n (E.modify j f) (es.set j kv):=by
 refine⟨by simp[h.1],fun k e rS he dk=>?_⟩;rw[getElem?_modify_list] at he;rw[List.getElem?_set] at dk;by_cases ew:j=k
 ·subst ew;simp only[if_true] at he dk;split at dk
  ·simp at dk;subst dk;rw[Option.map_eq_some_iff] at he;obtain⟨e0,kC,rfl⟩:=he;exact hf e0 kC
  ·cases dk
 ·simp only[ew,if_false] at he dk;exact h.2 k e rS he dk
theorem Dr {n:Nat}{E:List MapEntry}{es:List Jr}(h:LERel ρ n E es) {e:MapEntry}{kv:Jr}(he:Q8g ρ n e kv):LERel ρ n (E++[e]) (es++[kv]):=by
 refine⟨by simp[h.1],fun k a b ha hb=>?_⟩;have hl:=h.1;rw[List.getElem?_append] at ha hb;split at ha<;>split at hb<;>try omega
 ·exact h.2 k a b ha hb
 ·have hk:k-E.length=k-es.length:=by omega
  rw[hk] at ha;cases hz:k-es.length with
  |zero=>rw[hz] at ha hb;simp at ha hb;subst ha;subst hb;exact he
  |succ m=>rw[hz] at ha;simp at ha
theorem Rs {γ:Sort _}(f:Option Addr→Value→γ) (g:Array Value→γ) (p:Option Addr) (l:Value):Builtin.unsafeString_.match_3 (motive:=fun _=>γ) #[.pointer p,l] f g=f p l:=rfl
theorem S0 (ts:Array TypeId) (ty pt:TypeId) (h0:ts[0]?=some pt) (p:Option Addr) (w:World):(Builtin.unsafeString_ ts ty #[.pointer p,.int .i64 0]).run P w=.ok (.string .empty) w:=by
 have iP:IntKind.i64.max=9223372036854775807:=rfl;cases p with
 |none =>delta Builtin.unsafeString_;rw[Rs];simp[asInt,asIntOf,iP,h0]
 |some a =>delta Builtin.unsafeString_;rw[Rs];simp[asInt,asIntOf,iP,h0]
theorem SZ:∀ (ns:List Int) (a:Addr) (acc:ByteArray) (w:World),(∀ j n,ns[j]?=some n→w.cell? (a.add j)=some (.int .u8 n)) →
  (loadBytes a acc ns.length).run P w=.ok ⟨acc.data++(ns.map fun n=>n.toNat.toUInt8).toArray⟩ w
 |[],a,acc,w,_=>by simp[loadBytes]
 |n::ns,a,acc,w,h=>by
  have h0:w.cell? a=some (.int .u8 n):=by have:=h 0 n rfl;simpa [Addr.add] using this
  have ih:=SZ ns (a.add 1) (acc.push n.toNat.toUInt8) w (fun j y hy=>by
   have:=h (j+1) y (by simpa using hy);have e:(a.add 1).add j=a.add (j+1):=by
    unfold Addr.add;by_cases hj:j=0
    ·subst hj;simp
    ·simp[hj];omega
   rw[e];exact this)
  simp only[List.length_cons,loadBytes,Sem.run_bind,run_load,h0,Result.andThen];rw[ih];congr 1;apply ByteArray.ext;simp[ByteArray.push]
theorem RA {e:TypeId}(hc:P.cellsOf e=1) (count off n:Nat) (hn:off+n≤count):liesAt P P.depth e count off e n=true:=by have hd:P.depth=(2*(P.types.size+Made.depth)+1)+1:=rfl;rw[hd];simp only[liesAt,Bool.or_eq_true];left;rw[hd];simp[rowAt,hc,hn,sameLayout,Nat.mod_one]
theorem Q0a (ts:Array TypeId) (ty pt e:TypeId) (h0:ts[0]?=some pt) (hp:P.underlying pt=some (.pointer e)) (hc:P.cellsOf e=1) (a:Addr) (cells:Nat) (w:World) (eE:w.shape? a.block=some (e,cells)) (ns:List Int) (k:Int) (hk:0<k) (oX:ns.length=k.toNat) (hn:a.off+ns.length≤cells)
  (tO:k≤2 ^ 62) (bu:∀ j n,ns[j]?=some n→w.cell? (a.add j)=some (.int .u8 n)) :
  (Builtin.unsafeString_ ts ty #[.pointer (some a),.int .i64 k]).run P w=.ok (.string ⟨(ns.map fun n=>n.toNat.toUInt8).toArray⟩) (w.freeze a k.toNat):=by
 have iP:IntKind.i64.max=9223372036854775807:=rfl;have tP:(2:Int) ^ 62=4611686018427387904:=by decide
 have oh:=SZ (P:=P) ns a .empty w bu;have jz:=RA (P:=P) hc (cells / P.cellsOf e) a.off ns.length (by rw[hc];simpa using hn);have h1:¬ k<0:=by omega
 have h2:¬ (9223372036854775807:Int)<k:=by omega
 have h3:¬ k=0:=by omega
 rw[←oX];rw[oX] at oh jz;delta Builtin.unsafeString_;rw[Rs];simp[asInt,asIntOf,iP,h0,h1,h2,h3,variablesAt,eE,elemOf,Q0 hp,jz,oh,oX]
theorem HRel.freeze (hH:HRel ρ σ w) {i:Nat}{p:Pl}{c:List Value}{e:El}{tight:Bool}(hp:ρ i=some p) (hb:σ.get i=some (.cells c e true tight)) (off n:Nat) :
  HRel ρ (σ.upd i (.cells c e false tight)) (w.freeze ⟨p.blk,off,none⟩ n)∧Ext ρ σ w ρ (σ.upd i (.cells c e false tight)) (w.freeze ⟨p.blk,off,none⟩ n):=by
 have hi:=σ.lt hb;obtain⟨p',bg,hB⟩:=hH.live i _ hb;obtain rfl:p=p':=osj (hp.symm.trans bg);obtain⟨h1,h2,h3,⟨C,e',f,h4,gp⟩,h5,h6⟩:=hB;have bH:∀ k,k≠p.blk→(w.freeze ⟨p.blk,off,none⟩ n).heap[k]?=w.heap[k]?:=fun k hk=>by
  unfold World.freeze;split
  ·rfl
  ·simp only[Array.getElem?_modify];rw[if_neg (Ne.symm hk)]
 have aI:(w.freeze ⟨p.blk,off,none⟩ n).heap.size=w.heap.size:=by
  unfold World.freeze;split
  ·rfl
  ·simp
 obtain⟨f',dG⟩:∃ f',(w.freeze ⟨p.blk,off,none⟩ n).heap[p.blk]?=some (.cells C e' f'):=by
  unfold World.freeze;split
  ·exact⟨f,h4⟩
  ·simp only[Array.getElem?_modify,if_true,h4];obtain⟨lo,cC⟩:=f;exact⟨_,rfl⟩
 have bu:∀ o,(w.freeze ⟨p.blk,off,none⟩ n).cell? ⟨p.blk,o,none⟩=w.cell? ⟨p.blk,o,none⟩:=fun o=>by simp[World.cell?,dG,h4]
 have oY:(w.freeze ⟨p.blk,off,none⟩ n).os=w.os∧(w.freeze ⟨p.blk,off,none⟩ n).tape=w.tape∧(w.freeze ⟨p.blk,off,none⟩ n).output=w.output:=by unfold World.freeze;split<;>exact⟨rfl,rfl,rfl⟩
 have hE:Ext ρ σ w ρ (σ.upd i (.cells c e false tight)) (w.freeze ⟨p.blk,off,none⟩ n):=by
  ·refine⟨oY.1,oY.2.1,oY.2.2,by rw[aI];exact Nat.le_refl _,fun B hB hW=>bH B (fun e=>hW ⟨i,p,_,hp,hb,rfl,e.symm⟩),?_,Nat.le_refl _,fun _ _ _ h=>h⟩;rintro B _ ⟨j,q,b,hq,cY,hw,rfl⟩;by_cases aJ:j=i
   ·subst aJ;exact⟨j,q,_,hq,hb,rfl,rfl⟩
   ·rw[Heap.get_upd_ne _ _ aJ] at cY;exact⟨j,q,b,hq,cY,hw,rfl⟩
 refine⟨hH.ext ⟨fun j b hj=>?_,fun j hj=>?_,fun j q hq=>by rw[aI];exact hH.lt j q hq,fun j k q r b ew hq hr b9 hw hx=>?_⟩ hE,hE⟩
 ·by_cases aJ:j=i
  ·subst aJ;rw[Heap.get_upd_self _ _ hi] at hj;obtain rfl:=osj hj;exact⟨p,hp,h1,h2,h3,⟨C,e',f',dG,gp⟩,fun k v hk=>by rw[bu];exact h5 k v hk,fun h=>by cases h⟩
  ·rw[Heap.get_upd_ne _ _ aJ] at hj;obtain⟨q,hq,fw⟩:=hH.live j b hj;exact⟨q,hq,fw.other (Nat.le_refl _) (fun _ _ _ h=>h) p.blk C e' f h4 (fun hx=>hH.sep i j p q _ (Ne.symm aJ) hp hq hb rfl hx) ⟨C,f',dG,Nat.le_refl _⟩ (fun k hk _=>bH k hk) (hH.lt j q hq)⟩
 ·by_cases aJ:j=i
  ·subst aJ;rw[Heap.get_upd_self _ _ hi] at hj;cases hj
  ·rw[Heap.get_upd_ne _ _ aJ] at hj;exact hH.dead j hj
 ·by_cases aJ:j=i
  ·subst aJ;rw[Heap.get_upd_self _ _ hi] at b9;obtain rfl:=osj b9;cases hw
  ·rw[Heap.get_upd_ne _ _ aJ] at b9;exact hH.sep j k q r b ew hq hr b9 hw hx
theorem HRel.freezeOut (hH:HRel ρ σ w) {i:Nat}{p:Pl}{c:List Value}{e:El}{tight:Bool}(hp:ρ i=some p) (hb:σ.get i=some (.cells c e true tight)) {C:Array Value}{e':TypeId}{f:Nat×Nat}(hC:w.heap[p.blk]?=some (.cells C e' f)) (hf:f.1=f.2) :
  HRel ρ σ (w.freeze ⟨p.blk,C.size,none⟩ 1)∧Ext ρ σ w ρ σ (w.freeze ⟨p.blk,C.size,none⟩ 1):=by
 have bH:∀ k,k≠p.blk→(w.freeze ⟨p.blk,C.size,none⟩ 1).heap[k]?=w.heap[k]?:=fun k hk=>by unfold World.freeze;rw[if_neg (by omega)];simp only[Array.getElem?_modify];rw[if_neg (Ne.symm hk)]
 have aI:(w.freeze ⟨p.blk,C.size,none⟩ 1).heap.size=w.heap.size:=by unfold World.freeze;rw[if_neg (by omega)];simp
 have dG:(w.freeze ⟨p.blk,C.size,none⟩ 1).heap[p.blk]?=some (.cells C e' (C.size,C.size+1)):=by unfold World.freeze;rw[if_neg (by omega)];simp only[Array.getElem?_modify,if_true,hC];obtain⟨lo,cC⟩:=f;obtain rfl:lo=cC:=hf;simp
 have bu:∀ o,(w.freeze ⟨p.blk,C.size,none⟩ 1).cell? ⟨p.blk,o,none⟩=w.cell? ⟨p.blk,o,none⟩:=fun o=>by simp[World.cell?,dG,hC]
 have hE:Ext ρ σ w ρ σ (w.freeze ⟨p.blk,C.size,none⟩ 1):=by refine⟨?_,?_,?_,by rw[aI];exact Nat.le_refl _,fun B hB hW=>bH B (fun e=>hW ⟨i,p,_,hp,hb,rfl,e.symm⟩),fun _ _ h=>h,Nat.le_refl _,fun _ _ _ h=>h⟩<;>(unfold World.freeze;rw[if_neg (by omega)])
 refine⟨hH.ext ⟨fun j b hj=>?_,hH.dead,fun j q hq=>by rw[aI];exact hH.lt j q hq,hH.sep⟩ hE,hE⟩;obtain⟨q,hq,fw⟩:=hH.live j b hj;refine⟨q,hq,?_⟩;by_cases hk:q.blk=p.blk
 ·cases b with
  |cells c0 e0 rT t0 =>
   obtain⟨h1,h2,h3,⟨C0,e1,f1,h4,h5⟩,h6,h7⟩:=fw;rw[hk,hC] at h4;obtain⟨rfl,rfl,rfl⟩:=(by simpa using h4:C=C0∧e'=e1∧f=f1);refine⟨h1,h2,h3,⟨C,e',_,by rw[hk];exact dG,h5⟩,fun k v hv=>?_,fun hw=>⟨(h7 hw).1,fun k l_=>?_⟩⟩
   ·rw[hk,bu,←hk];exact h6 k v hv
   ·unfold World.frozen?;rw[show (⟨q.blk,q.shift+k,none⟩:Addr).block=p.blk from hk,dG];have:¬ C.size≤q.shift+k:=by omega
    simp[this]
  |obj o rT =>obtain⟨_,O,h4,h5⟩:=fw;rw[hk,hC] at h4;obtain rfl:=osj h4;exact absurd h5 ORel.not_cells
 ·exact fw.mono (Nat.le_refl _) (fun _ _ _ h=>h) (bH _ hk)
theorem Cj (hH:HRel ρ σ w) {s:ByteArray}{st d e:TypeId}(hs:P.underlying st=some .string) (hd:P.underlying d=some (.slice e)) (he:P.underlying e=some (.int .u8)) {s0:Sem Next}(h0:s0=(do let v ←convert st d (.string s);pure (.value v))) :
  Sj P ρ σ w (.slice (some ⟨σ.n,0,none⟩) s.size s.size) (σ.push (.cells (s.data.toList.map fun b=>.int .u8 b.toNat) ⟨1,e⟩ true false)) s0:=by
 obtain⟨cap,c_⟩:∃ cap,cap=(Question.appendCap s.size 0 e).cut (w.tape w.drawn (.appendCap s.size 0 e)):=⟨_,rfl⟩;have hle:s.size≤cap:=by rw[c_];simp[Question.cut]
 let C:Array Value:=(s.data.map fun b=>Value.int .u8 b.toNat)++Array.replicate (cap-s.size) (.int .u8 0);have om:C.size=cap:=by have:s.data.size=s.size:=rfl;simp[C,this];omega
 have mu:=hH.drew;have aF:LRel ρ σ.n (s.data.toList.map fun b=>Value.int .u8 b.toNat) (C.toList.take (s.data.toList.map fun b=>Value.int .u8 b.toNat).length):=by
  have:C.toList.take (s.data.toList.map fun b=>Value.int .u8 b.toNat).length=s.data.toList.map fun b=>Value.int .u8 b.toNat:=by simp[C]
  rw[this];exact JX (List.all_eq_true.2 fun x hx=>by obtain⟨b,_,rfl⟩:=List.mem_map.1 hx;rfl)
 obtain⟨ρ',h1,h2,h3⟩:=mu.alloc (s.data.toList.map fun b=>Value.int .u8 b.toNat) C e ⟨1,e⟩ false rfl aF (by
  have:s.data.size=s.size:=rfl;simp[om,this];exact hle)
 have aD:(w.drew.alloc (.cells C e)).heap[w.drew.heap.size]?=some (.cells C e (0,0)):=by show (w.drew.heap.push _)[w.drew.heap.size]?=_;rw[Array.getElem?_push_size]
 obtain⟨h4,h5⟩:=h2.freezeOut (i:=σ.n) h1 (Heap.get_push_self _ _) aD rfl;refine⟨.slice (some ⟨w.heap.size,0,none⟩) s.size cap,_,ρ',.inl ?_,.sl _ _ _ _ _ _ (by simp) (fun p hp=>?_),h4,((Ext.drew ρ σ w).trans h3).trans h5⟩
 ·subst h0;have eE:(w.drew.alloc (.cells C e)).shape? w.drew.heap.size=some (e,C.size):=by
   unfold World.shape?;rw[aD]
  have hq:(Question.appendCap s.size 0 e).forced=false:=rfl;have qp:w.drew.heap.size=w.heap.size:=rfl;simp only[convert,Sem.run_bind,Q0 hs,Q0 hd,Q0 he,Result.andThen_ok,Conv.stringToBytes,run_choose_drew,hq,Bool.false_eq_true,if_false,←c_,newRow,run_newObj_alloc,Sem.run_pure,markStringish,run_shape,qp];rw[qp] at eE;have oZ:(w.drew.alloc (.cells ((s.data.map fun b=>Value.int .u8 b.toNat)++Array.replicate (cap-s.size) (.int .u8 0)) e)).shape? w.heap.size=some (e,C.size):=eE;rw[oZ];rfl
 ·rw[h1] at hp;obtain rfl:=osj hp;refine⟨hle,(fun h=>by cases h),0,rfl,?_,.inl rfl⟩;show 0+cap*1≤C.size;omega
set_option maxHeartbeats 1000000 in
theorem R9 {k nv:Value}{c:Nat}:∀ {es:List Jr}{e:Jr},Qg k es=some e→∃ j,es[j]?=some e∧Qq k nv c es=(es.set j (k,nv,e.2.2),c)∧Bi k es=es.eraseIdx j
 |[],e,h=>by cases h
 |a::es,e,h=>by
  simp only[Qg] at h;split at h
  ·rename_i he;obtain rfl:=osj h;exact⟨0,rfl,by simp[Qq,he],by simp[Bi,he]⟩
  ·rename_i he;obtain⟨j,h1,h2,h3⟩:=R9 (nv:=nv) (c:=c) h;exact⟨j+1,by simpa using h1,by simp[Qq,he,h2],by simp[Bi,he,h3]⟩
theorem Hi {k:Value}:∀ {es:List Jr},Qg k es=none→Bi k es=es
 |[],_=>rfl
 |a::es,h=>by
  simp only[Qg] at h;split at h
  ·cases h
  ·rename_i he;simp[Bi,he,Hi h]
def Z00:Value→Nat
 |.int _ n=>n.natAbs
 |_=>0
theorem CW {e:Jr}:∀ {es:List Jr},e∈es→Z00 e.2.1≤(es.map fun x=>Z00 x.2.1).sum
 |a::es,h=>by
  rw[List.map_cons,List.sum_cons];rcases List.mem_cons.1 h with rfl|h
  ·omega
  ·have:=CW h;omega
theorem Ob (es:List Jr):∃ nv:Value,∀ e∈es,e.2.1≠nv :=
 ⟨.int .i64 ((es.map fun x=>Z00 x.2.1).sum+1:Nat),fun e he h=>by
  have h1:=CW he;rw[h] at h1;simp only[Z00] at h1;omega⟩
theorem Q4y {es:List Jr}{i j:Nat}{x y:Jr}(hi:i<es.length) (_hj:j<es.length) (h:es.set i x=es.set j y) (hx:∀ e∈es,e.2.1≠x.2.1):i=j:=by
 by_cases e:j=i
 ·exact e.symm
 ·have h1:(es.set i x)[i]?=(es.set j y)[i]?:=by rw[h]
  rw[List.getElem?_set_self hi,List.getElem?_set_ne e,List.getElem?_eq_getElem hi] at h1;have h2:=osj h1;exact(hx _ (List.getElem_mem hi) (by rw[←h2])).elim
theorem C8 {n:Nat}{E:List MapEntry}{es:List Jr}(h:LERel ρ n E es) (j:Nat):LERel ρ n (E.eraseIdx j) (es.eraseIdx j):=by
 refine⟨by rw[List.length_eraseIdx,List.length_eraseIdx,h.1],fun k e kv he dk=>?_⟩;rw[List.getElem?_eraseIdx] at he dk;split at he
 ·rename_i ai;rw[if_pos ai] at dk;exact h.2 _ _ _ he dk
 ·rename_i ai;rw[if_neg ai] at dk;exact h.2 _ _ _ he dk
theorem Cn {o:Oper}{xo:XOp}(hc:Tu P o.op = some xo) (hq:xo.quiet = false) (hH:HRel ρ σ w) (hE:∀ x, JW x = true → VRel ρ σ.n (Q3 env x) (ev x))
    (h:Zj xo (Q3 env) σ = some (v, σ')):Sj P ρ σ w v σ' (execOp ev o):=by
  obtain ⟨dst, op, ty, pos, after, guard⟩:=o;simp only at hc;unfold Tu at hc;split at hc
  · cases hc
  rename_i ah;simp only [Bool.not_eq_true, Bool.not_eq_false'] at ah;cases op <;> simp only [Op.operands] at ah hc
  case binOp iD t x y yt =>
    have nA:∀ neg, Ta P neg t x y = some xo → False:=fun neg hx => by
      unfold Ta at hx;split at hx
      · cases hx
      · obtain ⟨s, _, rfl⟩:=Option.map_eq_some_iff.1 hx; cases hq
    split at hc <;> first
      | exact (nA _ hc).elim
      | (simp at hc; subst hc; cases hq; done)
      | (rename_i e hu
         cases hi:P.info? e with
         | none => simp [hi] at hc
         | some i => simp [hi] at hc; obtain ⟨_, rfl⟩:=hc; cases hq)
      | cases hc
  case makeMap t r =>
    cases r with
    | some _ => cases hc
    | none =>
      simp at hc; subst hc;simp [Zj] at h;obtain ⟨rfl, rfl⟩:=h;obtain ⟨ρ', h1, h2, h3⟩:=hH.newObj (.map [] 0) (.map #[] 0) (ORel.map_iff.2 ⟨#[], rfl, rfl, fun k e kv he => by simp at he⟩);refine ⟨.map (some w.heap.size), _, ρ', .inl ?_, .map _ _ (by simp) (fun p hp => ?_), h2, h3⟩
      · simp [execOp, Instr.makeMap]
      · rw [h1] at hp; obtain rfl:=osj hp; rfl
  case lookup t x i ig =>
    split at hc
    · rename_i kt e hu
      cases hk:Li P kt with
      | none => simp [hk] at hc
      | some mk =>
        cases bX:P.info? e with
        | none => simp [hk, bX] at hc
        | some inf =>
          cases hz:inf.zero with
          | none => simp [hk, bX, hz] at hc
          | some z => simp [hk, bX, hz] at hc; obtain ⟨_, rfl⟩:=hc; cases hq
    · cases hc
  case mapUpdate t m k x =>
    simp at ah;have hm:=hE m ah.1;have fm:=hE k ah.2.1;have hx:=hE x ah.2.2;split at hc
    · rename_i kt e hu
      cases hk:Li P kt with
      | none => simp [hk] at hc
      | some mk =>
        simp [hk] at hc; subst hc;obtain ⟨d, hd, dV⟩:=NK hk;simp only [Zj] at h;split at h
        · rename_i i iQ
          rw [iQ] at hm;split at h
          · rename_i es clock aE
            split at h
            · rename_i ak
              simp only [Bool.and_eq_true] at ak;obtain ⟨bM, ae⟩:=ak;simp at h; obtain ⟨rfl, rfl⟩:=h;obtain ⟨p, entries, ef, hp, aD, aF⟩:=X5 hH aE hm;have eP:ev k = Q3 env k:=Hz bM fm;have bN:(getObj p.blk).run P w = .ok (.map entries clock) w:=Qu aD (fun _ _ _ e => by cases e);have a8:∀ O', (setObj p.blk O').run P w = .ok () (Hc w p.blk O'):=fun O' => QL aD (fun _ _ _ e => by cases e);rcases YG hd dV bM (Q3 env x) clock es entries.toList aF ae with ⟨h1, h2, h3⟩ | ⟨j, a, a', h1, h2, h3, h4, h5, h6⟩
              · rw [h3]
                obtain ⟨k1, k2⟩:=hH.setObj (i:=i) (p:=p) hp (X7 aE) (o':=.map (es ++ [(Q3 env k, Q3 env x, clock)]) (clock + 1))
                  (O':=.map (entries.push { key:=ev k, val:=ev x, born:=clock }) (clock + 1)) (ORel.map_iff.2 ⟨_, rfl, by
                    rw [Array.toList_push];exact Dr aF ⟨eP, rfl, hx⟩⟩)
                refine ⟨undef, _, ρ, .inr ⟨?_, rfl⟩, Jm, k1, k2⟩;simp only [execOp];simp only [Instr.mapUpdate, Sem.run_bind, Q0 hu, Result.andThen_ok, ef, bN, eP, Zq hd dV bM];rw [h2];simp only [Result.andThen_ok, a8, Sem.run_pure]
              · rw [h6]
                have gI:((entries[j]?).map (·.key)).getD (Q3 env k) = a.1:=by
                  rw [← Array.getElem?_toList, h3];simp [(aF.2 j a' a h3 h2).1]
                have e6:Zk mk a.1 = true:=List.all_eq_true.1 ae a (List.mem_of_getElem? h2)
                obtain ⟨k1, k2⟩:=hH.setObj (i:=i) (p:=p) hp (X7 aE) (o':=.map (es.set j (Q3 env k, Q3 env x, a.2.2)) clock)
                  (O':=.map (entries.modify (0 + j) fun e => { e with key:=Q3 env k, val:=ev x }) clock) (ORel.map_iff.2 ⟨_, rfl, by
                    rw [Array.toList_modify, Nat.zero_add];exact Gg aF j _ _ (fun e he => by
                      obtain rfl:a' = e:=osj (h3.symm.trans he);exact ⟨rfl, (aF.2 j a' a h3 h2).2.1, hx⟩)⟩)
                refine ⟨undef, _, ρ, .inr ⟨?_, rfl⟩, Jm, k1, k2⟩;simp only [execOp];simp only [Instr.mapUpdate, Sem.run_bind, Q0 hu, Result.andThen_ok, ef, bN, eP, Zq hd dV bM];rw [h4];simp only [Result.andThen_ok, Sem.run_bind, Nat.zero_add, gI];have bc:(Instr.keyThatStays a.1 (Q3 env k)).run P w = .ok (Q3 env k) w:=by unfold Instr.keyThatStays;rw [if_pos (Ga bM e6 h5)];rfl
                rw [bc];simp only [Result.andThen_ok, a8, Sem.run_pure]
            · cases h
          · cases h
        · cases h
    · cases hc
  case insert t m k x =>
    simp at ah;have hm:=hE m ah.1;have fm:=hE k ah.2.1;have hx:=hE x ah.2.2;split at hc
    · rename_i kt e hu
      cases hk:Li P kt with
      | none => simp [hk] at hc
      | some mk =>
        simp [hk] at hc; subst hc;obtain ⟨d, hd, dV⟩:=NK hk;simp only [Zj] at h;split at h
        · rename_i i iQ
          rw [iQ] at hm;split at h
          · rename_i es clock aE
            split at h
            · rename_i ak
              simp only [Bool.and_eq_true] at ak;obtain ⟨bM, ae⟩:=ak;simp at h; obtain ⟨rfl, rfl⟩:=h;obtain ⟨p, entries, ef, hp, aD, aF⟩:=X5 hH aE hm;have eP:ev k = Q3 env k:=Hz bM fm;have bN:(getObj p.blk).run P w = .ok (.map entries clock) w:=Qu aD (fun _ _ _ e => by cases e);have a8:∀ O', (setObj p.blk O').run P w = .ok () (Hc w p.blk O'):=fun O' => QL aD (fun _ _ _ e => by cases e);rcases YG hd dV bM (Q3 env x) clock es entries.toList aF ae with ⟨h1, h2, h3⟩ | ⟨j, a, a', h1, h2, h3, h4, h5, h6⟩
              · rw [h3]
                obtain ⟨k1, k2⟩:=hH.setObj (i:=i) (p:=p) hp (X7 aE) (o':=.map (es ++ [(Q3 env k, Q3 env x, clock)]) (clock + 1))
                  (O':=.map (entries.push { key:=ev k, val:=ev x, born:=clock }) (clock + 1)) (ORel.map_iff.2 ⟨_, rfl, by
                    rw [Array.toList_push];exact Dr aF ⟨eP, rfl, hx⟩⟩)
                refine ⟨undef, _, ρ, .inr ⟨?_, rfl⟩, Jm, k1, k2⟩;simp only [execOp];simp only [Instr.mapUpdate, Sem.run_bind, Q0 hu, Result.andThen_ok, ef, bN, eP, Zq hd dV bM];rw [h2];simp only [Result.andThen_ok, a8, Sem.run_pure]
              · rw [h6]
                have gI:((entries[j]?).map (·.key)).getD (Q3 env k) = a.1:=by
                  rw [← Array.getElem?_toList, h3];simp [(aF.2 j a' a h3 h2).1]
                have e6:Zk mk a.1 = true:=List.all_eq_true.1 ae a (List.mem_of_getElem? h2)
                obtain ⟨k1, k2⟩:=hH.setObj (i:=i) (p:=p) hp (X7 aE) (o':=.map (es.set j (Q3 env k, Q3 env x, a.2.2)) clock)
                  (O':=.map (entries.modify (0 + j) fun e => { e with key:=Q3 env k, val:=ev x }) clock) (ORel.map_iff.2 ⟨_, rfl, by
                    rw [Array.toList_modify, Nat.zero_add];exact Gg aF j _ _ (fun e he => by
                      obtain rfl:a' = e:=osj (h3.symm.trans he);exact ⟨rfl, (aF.2 j a' a h3 h2).2.1, hx⟩)⟩)
                refine ⟨undef, _, ρ, .inr ⟨?_, rfl⟩, Jm, k1, k2⟩;simp only [execOp];simp only [Instr.mapUpdate, Sem.run_bind, Q0 hu, Result.andThen_ok, ef, bN, eP, Zq hd dV bM];rw [h4];simp only [Result.andThen_ok, Sem.run_bind, Nat.zero_add, gI];have bc:(Instr.keyThatStays a.1 (Q3 env k)).run P w = .ok (Q3 env k) w:=by unfold Instr.keyThatStays;rw [if_pos (Ga bM e6 h5)];rfl
                rw [bc];simp only [Result.andThen_ok, a8, Sem.run_pure]
            · cases h
          · cases h
        · cases h
    · cases hc
  case mapEntry t m k =>
    simp at ah;have hm:=hE m ah.1;have fm:=hE k ah.2;split at hc
    · rename_i kt e hu
      cases hk:Li P kt with
      | none => simp [hk] at hc
      | some mk =>
      cases bX:P.info? e with
      | none => simp [hk, bX] at hc
      | some inf =>
      cases hz:inf.zero with
      | none => simp [hk, bX, hz] at hc
      | some z =>
        simp [hk, bX, hz] at hc;obtain ⟨kz, rfl⟩:=hc;obtain ⟨d, hd, dV⟩:=NK hk;have jx:∀ w', (zeroValue e).run P w' = .ok z w':=fun w' => Z5 bX hz w';have dR:VRel ρ σ.n z z:=KZ kz;simp only [Zj] at h;split at h
        · rename_i i iQ
          rw [iQ] at hm;split at h
          · rename_i es clock aE
            split at h
            · rename_i ak
              simp only [Bool.and_eq_true] at ak;obtain ⟨bM, ae⟩:=ak;obtain ⟨p, entries, ef, hp, aD, aF⟩:=X5 hH aE hm;have eP:ev k = Q3 env k:=Hz bM fm;have bN:(getObj p.blk).run P w = .ok (.map entries clock) w:=Qu aD (fun _ _ _ e => by cases e);have a8:∀ O', (setObj p.blk O').run P w = .ok () (Hc w p.blk O'):=fun O' => QL aD (fun _ _ _ e => by cases e);split at h
              · rename_i e0 hf
                simp at h; obtain ⟨rfl, rfl⟩:=h;rcases YG hd dV bM e0.2.1 clock es entries.toList aF ae with ⟨h1, h2, h3⟩ | ⟨j, a, a', h1, h2, h3, h4, h5, h6⟩
                · rw [hf] at h1; cases h1
                · obtain rfl:e0 = a:=by rw [hf] at h1; exact osj h1
                  rw [h6];have kD:entries[j]? = some a':=by rw [← Array.getElem?_toList]; exact h3
                  have gI:((entries[j]?).map (·.key)).getD (Q3 env k) = e0.1:=by
                    rw [kD]; simp [(aF.2 j a' e0 h3 h2).1]
                  have o3:((entries[j]?).map fun x => (x.born:Int)).getD 0 = (e0.2.2:Int):=by rw [kD]; simp [(aF.2 j a' e0 h3 h2).2.1]
                  have e6:Zk mk e0.1 = true:=List.all_eq_true.1 ae e0 (List.mem_of_getElem? h2);have mq:=(aF.2 j a' e0 h3 h2).2.2
                  obtain ⟨k1, k2⟩:=hH.setObj (i:=i) (p:=p) hp (X7 aE) (o':=.map (es.set j (Q3 env k, e0.2.1, e0.2.2)) clock)
                    (O':=.map (entries.modify (0 + j) fun e => { e with key:=Q3 env k }) clock) (ORel.map_iff.2 ⟨_, rfl, by
                      rw [Array.toList_modify, Nat.zero_add];exact Gg aF j _ _ (fun e he => by
                        obtain rfl:a' = e:=osj (h3.symm.trans he);exact ⟨rfl, (aF.2 j a' e0 h3 h2).2.1, mq⟩)⟩)
                  refine ⟨.tuple #[a'.val, .int .i64 e0.2.2], _, ρ, .inl ?_, VRel.tuple_of (LRel.cons mq (LRel.cons (.int _ _) (LRel.nil _ _))), k1, k2⟩;simp only [execOp];simp only [Instr.mapEntry, Sem.run_bind, Q0 hu, Result.andThen_ok, ef, bN, eP, Zq hd dV bM];rw [h4];simp only [Result.andThen_ok, Sem.run_bind, Nat.zero_add, gI, o3];have bc:(Instr.keyThatStays e0.1 (Q3 env k)).run P w = .ok (Q3 env k) w:=by unfold Instr.keyThatStays;rw [if_pos (Ga bM e6 h5)];rfl
                  rw [bc];simp only [Result.andThen_ok, a8, Sem.run_pure];rfl
              · rename_i hf
                simp at h; obtain ⟨rfl, rfl⟩:=h;rcases YG hd dV bM z clock es entries.toList aF ae with ⟨h1, h2, h3⟩ | ⟨j, a, a', h1, h2, h3, h4, h5, h6⟩
                · rw [h3]
                  obtain ⟨k1, k2⟩:=hH.setObj (i:=i) (p:=p) hp (X7 aE) (o':=.map (es ++ [(Q3 env k, z, clock)]) (clock + 1))
                    (O':=.map (entries.push { key:=Q3 env k, val:=z, born:=clock }) (clock + 1)) (ORel.map_iff.2 ⟨_, rfl, by
                      rw [Array.toList_push];exact Dr aF ⟨rfl, rfl, dR⟩⟩)
                  refine ⟨.tuple #[z, .int .i64 clock], _, ρ, .inl ?_, VRel.tuple_of (LRel.cons dR (LRel.cons (.int _ _) (LRel.nil _ _))), k1, k2⟩;simp only [execOp];simp only [Instr.mapEntry, Sem.run_bind, Q0 hu, Result.andThen_ok, ef, bN, eP, Zq hd dV bM];rw [h2];simp only [Result.andThen_ok, Sem.run_bind, jx, a8, Sem.run_pure];rfl
                · rw [hf] at h1; cases h1
            · cases h
          · cases h
        · cases h
    · cases hc
  case entryStore t m s x =>
    simp at ah;have hm:=hE m ah.1;have hs:=hE s ah.2.1;have hx:=hE x ah.2.2;simp at hc; subst hc;simp only [Zj] at h;split at h
    · rename_i i n iQ o4
      rw [iQ] at hm;rw [o4] at hs;split at h
      · rename_i es clock aE
        split at h
        · rename_i j iE
          split at h
          · rename_i e0 kC
            simp at h; obtain ⟨rfl, rfl⟩:=h;obtain ⟨p, entries, ef, hp, aD, aF⟩:=X5 hH aE hm;have mw:ev s = .int .i64 n:=Kr rfl hs;have bN:(getObj p.blk).run P w = .ok (.map entries clock) w:=Qu aD (fun _ _ _ e => by cases e);have a8:∀ O', (setObj p.blk O').run P w = .ok () (Hc w p.blk O'):=fun O' => QL aD (fun _ _ _ e => by cases e);have my:entries.toList.map (fun x => (x.born:Int)) = es.map (fun e => (e.2.2:Int)):=by
              refine List.ext_getElem? fun q => ?_;rw [List.getElem?_map, List.getElem?_map];cases h1:entries.toList[q]? with
              | none =>
                have:es[q]? = none:=by rw [List.getElem?_eq_none_iff] at h1 ⊢; rw [← aF.1]; exact h1
                rw [this]; rfl
              | some a =>
                cases h2:es[q]? with
                | none => rw [List.getElem?_eq_none_iff, ← aF.1, ← List.getElem?_eq_none_iff, h1] at h2; cases h2
                | some b => simp [(aF.2 q a b h1 h2).2.1]
            have o5:entries.findIdx? (fun e => (e.born:Int) == n) = some j:=by
              have e1:entries.toList.findIdx? (fun e => (e.born:Int) == n) = (entries.toList.map (fun x => (x.born:Int))).findIdx? (fun b => b == n):=by rw [List.findIdx?_map]; rfl
              have e2:es.findIdx? (fun e => (e.2.2:Int) == n) = (es.map (fun e => (e.2.2:Int))).findIdx? (fun b => b == n):=by rw [List.findIdx?_map]; rfl
              have e3:entries.findIdx? (fun e => (e.born:Int) == n) = entries.toList.findIdx? (fun e => (e.born:Int) == n):=by rw [← List.findIdx?_toArray, Array.toArray_toList]
              rw [e3, e1, my, ← e2, iE]
            have cf:j < entries.toList.length:=by rw [aF.1]; exact (List.getElem?_eq_some_iff.1 kC).1
            have kD:=List.getElem?_eq_getElem cf
            obtain ⟨k1, k2⟩:=hH.setObj (i:=i) (p:=p) hp (X7 aE) (o':=.map (es.set j (e0.1, Q3 env x, e0.2.2)) clock)
              (O':=.map (entries.modify j fun e => { e with val:=ev x }) clock) (ORel.map_iff.2 ⟨_, rfl, by
                rw [Array.toList_modify];exact Gg aF j _ _ (fun e he => by
                  have hr:=aF.2 j e e0 he kC;exact ⟨hr.1, hr.2.1, hx⟩)⟩)
            refine ⟨undef, _, ρ, .inr ⟨?_, rfl⟩, Jm, k1, k2⟩;simp only [execOp];simp only [Instr.entryStore, ef, Sem.run_bind, bN, Result.andThen_ok, mw];simp [asInt, asIntOf, o5, a8]
          · cases h
        · cases h
      · cases h
    · cases h
  case range t x =>
    simp at ah;have hx:=hE x ah;split at hc
    · rename_i kt e hu
      simp at hc; subst hc;simp only [Zj] at h;split at h
      · rename_i m br
        rw [br] at hx;split at h
        · rename_i es clock wr aE
          simp at h; obtain ⟨rfl, rfl⟩:=h;obtain ⟨p, entries, ef, hp, aD, aF⟩:=X5 hH aE hx;rw [ef] at hx;obtain ⟨ρ', h1, h2, h3⟩:=hH.newObj (.iter m clock [] clock) (.mapIter (some p.blk) clock #[] clock) ⟨p.blk, rfl, hx⟩;have bN:(getObj p.blk).run P w = .ok (.map entries clock) w:=Qu aD (fun _ _ _ e => by cases e);refine ⟨.pointer (some ⟨w.heap.size, 0, none⟩), _, ρ', .inl ?_, .ptr _ _ _ (by simp) (fun q hq => ?_), h2, h3⟩
          · simp [execOp, Instr.range, Q0 hu, ef, bN]
          · rw [h1] at hq; obtain rfl:=osj hq; rfl
        · cases h
      · cases h
    · cases hc
  case next x b => cases b <;> simp at hc; subst hc; simp [Zj] at h
  case entry x => simp at hc; subst hc; cases hq
  case convert s d x =>
    split at hc
    · rename_i t hs hd
      cases hi:P.info? t with
      | none => simp [hi] at hc
      | some inf => simp [hi] at hc; obtain ⟨_, rfl⟩:=hc; cases hq
    · rename_i u hs hd
      cases hi:P.info? u with
      | none => simp [hi] at hc
      | some inf => simp [hi] at hc; obtain ⟨_, rfl⟩:=hc; cases hq
    · split at hc
      · simp at hc; subst hc; cases hq
      · cases hc
    · rename_i e hs hd
      split at hc
      · rename_i he
        simp at hc; subst hc;simp only [Zj] at h;split at h
        · rename_i s' br
          split at h
          · simp at h; obtain ⟨rfl, rfl⟩:=h
            have hx:=hE x (by simpa using ah);rw [br] at hx;refine Cj hH hs hd he ?_;simp only [execOp, hx.string_inv]
          · cases h
        · cases h
      · cases hc
    · cases hc
  case call c =>
    split at hc
    · split at hc
      · split at hc
        · simp at hc; subst hc; cases hq
        · cases hc
      · cases hc
    · rename_i aG
      split at hc
      · rename_i t mm kk fW cL
        split at hc
        · rename_i kt e hu
          cases hk:Li P kt with
          | none => simp [hk] at hc
          | some mk =>
            simp [hk] at hc; subst hc;obtain ⟨d, hd, dV⟩:=NK hk;have bC:c.args = #[mm, kk]:=Array.ext' (by simpa using cL);have cS:JW mm = true ∧ JW kk = true:=by simpa [Call.operands, aG, bC] using ah
            have hm:=hE mm cS.1;have fm:=hE kk cS.2;simp only [Zj] at h;split at h
            · rename_i i iQ
              rw [iQ] at hm;split at h
              · rename_i es clock aE
                split at h
                · rename_i ak
                  simp only [Bool.and_eq_true] at ak;obtain ⟨bM, ae⟩:=ak;simp at h; obtain ⟨rfl, rfl⟩:=h;obtain ⟨p, entries, ef, hp, aD, aF⟩:=X5 hH aE hm;have eP:ev kk = Q3 env kk:=Hz bM fm;have bN:(getObj p.blk).run P w = .ok (.map entries clock) w:=Qu aD (fun _ _ _ e => by cases e);have a8:∀ O', (setObj p.blk O').run P w = .ok () (Hc w p.blk O'):=fun O' => QL aD (fun _ _ _ e => by cases e);obtain ⟨nv, mz⟩:=Ob es;rcases YG hd dV bM nv clock es entries.toList aF ae with ⟨h1, h2, h3⟩ | ⟨j, a, a', h1, h2, h3, h4, h5, h6⟩
                  · rw [Hi h1]
                    obtain ⟨k1, k2⟩:=hH.setObj (i:=i) (p:=p) hp (X7 aE) (o':=.map es clock) (O':=.map entries clock) (ORel.map_iff.2 ⟨_, rfl, aF⟩);refine ⟨.tuple #[], _, ρ, .inl ?_, VRel.tuple_of (LRel.nil _ _), k1, k2⟩;simp only [execOp];simp [resolve, aG, bC, invoke, builtin, Builtin.delete_, fW, Q0 hu, ef, bN, eP, Zq hd dV bM, h2, a8]
                  · obtain ⟨j0, g1, g2, g3⟩:=R9 (nv:=nv) (c:=clock) h1
                    have hj:j = j0:=by rw [g2] at h6;have hs:=congrArg (fun x:List Jr × Nat => x.1) h6;exact (Q4y (List.getElem?_eq_some_iff.1 g1).1 (List.getElem?_eq_some_iff.1 h2).1 hs mz).symm
                    subst hj;rw [g3];obtain ⟨k1, k2⟩:=hH.setObj (i:=i) (p:=p) hp (X7 aE) (o':=.map (es.eraseIdx j) clock) (O':=.map (entries.eraseIdxIfInBounds (0 + j)) clock) (ORel.map_iff.2 ⟨_, rfl, by
                      have cf:j < entries.size:=by have:=(List.getElem?_eq_some_iff.1 h3).1;simpa using this
                      rw [Nat.zero_add];have e:(entries.eraseIdxIfInBounds j).toList = entries.toList.eraseIdx j:=by simp
                      rw [e];exact C8 aF j⟩)
                    refine ⟨.tuple #[], _, ρ, .inl ?_, VRel.tuple_of (LRel.nil _ _), k1, k2⟩;simp only [execOp];simp [resolve, aG, bC, invoke, builtin, Builtin.delete_, fW, Q0 hu, ef, bN, eP, Zq hd dV bM, h4, a8]
                · cases h
              · cases h
            · cases h
        · cases hc
      · cases hc
    · rename_i aG
      split at hc
      · rename_i t dd ss fW cL
        split at hc
        · rename_i e hu
          cases hi:P.info? e with
          | none => simp [hi] at hc
          | some inf =>
            simp [hi] at hc; subst hc;have bC:c.args = #[dd, ss]:=Array.ext' (by simpa using cL);have cS:JW dd = true ∧ JW ss = true:=by simpa [Call.operands, aG, bC] using ah
            have hd:=hE dd cS.1;have hs:=hE ss cS.2;simp only [Zj] at h;split at h
            · rename_i db dn dc sb sn sc o6 o4
              rw [o6] at hd; rw [o4] at hs;obtain ⟨da, rU, o7⟩:=hd.sl_len;obtain ⟨sa, mA, mw⟩:=hs.sl_len;split at h
              · rename_i h0
                simp at h; obtain ⟨rfl, rfl⟩:=h;refine ⟨.int .i64 0, w, ρ, .inl ?_, .int _ _, hH, Ext.refl _ _ _⟩;simp only [execOp];have qq:Nat.min sn dn = 0:=h0;cases sa <;> cases da <;> simp [resolve, aG, bC, invoke, builtin, Builtin.copy_, fW, o7, mw, Q0 hu, Qf hi, Builtin.lenOf, qq, Builtin.firstCells, loadCells, loadCellsFrom, storeCells, goInt]
              · rename_i h0
                split at h
                · rename_i i o xs bt
                  split at h
                  · rename_i cc e' wr tight hb
                    split at h
                    · rename_i ak
                      obtain ⟨rfl, mb, iL, gG⟩:=ak;simp at h; obtain ⟨rfl, rfl⟩:=h;have aZ:VRel ρ σ.n (.slice sb (min sn dn) sc) (.slice sa (min sn dn) mA):=by
                        rw [mw] at hs;cases hs with
                        | nilSl => exact absurd (by simp) h0
                        | slx _ _ _ _ _ gJ de => exact .slx _ _ _ _ _ gJ de
                        | sl i2 o2 _ _ a2 _ gJ de =>refine .sl _ _ _ _ _ _ gJ fun p hp => ?_;obtain ⟨k1, k2, o', k3, k4, k5⟩:=de p hp;exact ⟨k1, k2, o', k3, k4, k5.imp id (fun hh => ⟨by rw [hh.1]; simp, hh.2⟩)⟩
                      obtain ⟨gv, us, dS, _, aX⟩:=SX hH bt aZ;have hr:=aX w (Like.refl ρ w);have o5:(Builtin.firstCells inf.size (min sn dn) (.slice sa sn mA)).run P w = .ok us.toArray w:=by rw [← hr]; cases sa <;> rfl
                      obtain ⟨p, hp, hB⟩:=hH.live i _ hb;rw [o7] at hd;obtain ⟨a2, iH, mB, aM, aT⟩:=hd.sl_inv;simp at mB;obtain ⟨rfl, rfl⟩:=mB;obtain ⟨_, _, o', o8, _, me⟩:=aT p hp;have ho:o' = o:=me.resolve_right (fun hh => h0 (by rw [hh.1]; simp));subst ho;obtain ⟨h2, h3⟩:=hH.store hp hb dS (o:=o') (by omega);refine ⟨.int .i64 (min sn dn:Nat), _, ρ, .inl ?_, .int _ _, h2, h3⟩;have lH:us.length = xs.length:=dS.1.symm
                      have bc:=run_storeCells_cells (P:=P) p.blk (p.shift + o') us 0 w
                        (fun j hj => by rw [Nat.add_zero, Nat.add_assoc]; exact hB.cells_ext _ (by have:=hB.2.2.1; omega))
                        (fun j hj => by rw [Nat.add_zero, Nat.add_assoc]; exact (hB.2.2.2.2.2 rfl).2 _ (by have:=hB.2.2.1; omega))
                        (YR gG dS)
                      rw [Nat.add_zero] at bc;have o9:Nat.min sn dn = min sn dn:=rfl;simp only [execOp];simp [resolve, aG, bC, invoke, builtin, Builtin.copy_, fW, o7, mw, Q0 hu, Qf hi, Builtin.lenOf, o9, o5, o8, bc, goInt]
                    · cases h
                  · cases h
                · cases h
            · cases h
        · cases hc
      · cases hc
    · rename_i aG
      split at hc
      · rename_i t x fW cL
        split at hc
        · rename_i e hu
          cases hz:zeroOf P e with
          | none => simp [hz] at hc
          | some z =>
            simp [hz] at hc;obtain ⟨jv, rfl⟩:=hc;obtain ⟨inf, zv, bX, dR, eW, tQ, ib⟩:=Wt hz;have bC:c.args = #[x]:=Array.ext' (by simpa using cL);have cS:JW x = true:=by simpa [Call.operands, aG, bC] using ah
            have hx:=hE x cS;simp only [Zj] at h;split at h
            · rename_i b n cap br
              rw [br] at hx;obtain ⟨a, rV, cg⟩:=hx.sl_len;split at h
              · rename_i h0
                simp at h; obtain ⟨rfl, rfl⟩:=h;subst h0;refine ⟨.tuple #[], w, ρ, .inl ?_, VRel.tuple_of (LRel.nil _ _), hH, Ext.refl _ _ _⟩;simp only [execOp];cases a <;> simp [resolve, aG, bC, invoke, builtin, Builtin.clear_, fW, cg, Q0 hu]
              · rename_i h0
                split at h
                · rename_i i o
                  split at h
                  · rename_i cc e' wr tight hb
                    split at h
                    · rename_i ak
                      obtain ⟨rfl, iL, gG⟩:=ak;simp at h; obtain ⟨rfl, rfl⟩:=h;have dS:LRel ρ σ.n (BN n z) (BN n z):=JX (Du n z ib);have dm:=HC n z;have bJ:(BN n z).all cellOk = true:=EI n z gG;obtain ⟨p, hp, hB⟩:=hH.live i _ hb;rw [cg] at hx;obtain ⟨a2, iH, mB, aM, aT⟩:=hx.sl_inv;simp at mB;obtain ⟨rfl, rfl⟩:=mB;obtain ⟨_, _, o', o8, _, me⟩:=aT p hp;have ho:o' = o:=me.resolve_right (fun hh => h0 hh.1);subst ho;obtain ⟨h2, h3⟩:=hH.store hp hb dS (o:=o') (by omega);refine ⟨.tuple #[], _, ρ, .inl ?_, VRel.tuple_of (LRel.nil _ _), h2, h3⟩
                      have bc:=run_storeCells_cells (P:=P) p.blk (p.shift + o') (BN n z) 0 w
                        (fun j hj => by rw [Nat.add_zero, Nat.add_assoc]; exact hB.cells_ext _ (by have:=hB.2.2.1; omega))
                        (fun j hj => by rw [Nat.add_zero, Nat.add_assoc]; exact (hB.2.2.2.2.2 rfl).2 _ (by have:=hB.2.2.1; omega))
                        (YR bJ dS)
                      rw [Nat.add_zero] at bc;have rW:(Builtin.zeroCells zv.cells n).toList = BN n z:=by have:=Dp zv.cells z eW (by intro hh; rw [hh] at jv; exact jv rfl) n;simpa [Builtin.zeroCells, ← eW] using this
                      simp only [execOp];obtain ⟨n', rfl⟩:∃ k, n = k + 1:=⟨n - 1, by omega⟩;simp [resolve, aG, bC, invoke, builtin, Builtin.clear_, fW, cg, Q0 hu, Z5 bX dR, rW, o8, bc]
                    · cases h
                  · cases h
                · cases h
            · cases h
        · cases hc
      · cases hc
    · split at hc
      · simp at hc; subst hc; cases hq
      · cases hc
    · rename_i aG
      split at hc
      · rename_i t x nn fW cL
        split at hc
        · rename_i e hu
          split at hc
          · rename_i oN
            simp at hc; subst hc;have bC:c.args = #[x, nn]:=Array.ext' (by simpa using cL);have cS:JW x = true ∧ JW nn = true:=by simpa [Call.operands, aG, bC] using ah
            have hx:=hE x cS.1;have hn:=hE nn cS.2;simp only [Zj] at h;split at h
            · rename_i q k br aA
              rw [br] at hx; rw [aA] at hn;have gd:=hn.int_inv;split at h
              · rename_i h0
                simp at h; obtain ⟨rfl, rfl⟩:=h;subst h0;refine ⟨.string ⟨#[]⟩, w, ρ, .inl ?_, .string _, hH, Ext.refl _ _ _⟩;have cw:∃ q', ev x = .pointer q':=by
                  cases q with
                  | none => exact ⟨none, hx.nilPtr_inv⟩
                  | some a => obtain ⟨b, hb⟩:=hx.somePtr_inv; exact ⟨_, hb⟩
                obtain ⟨q', cw⟩:=cw;simp [execOp, resolve, aG, bC, invoke, builtin, cw, gd, S0 c.argTypes ty t fW q' w];rfl
              · rename_i h0
                split at h
                · rename_i i o
                  split at h
                  · rename_i cc el tight hb
                    split at h
                    · rename_i ak
                      obtain ⟨ij, oo, het, iL⟩:=ak;split at h
                      · rename_i s' oW
                        simp at h; obtain ⟨rfl, rfl⟩:=h;obtain ⟨ns, lP, rfl⟩:=TX oW;obtain ⟨p, hp, h1, h2, h3, ⟨C, e', f, hC, om, kB⟩, h5, h6⟩:=hH.live i _ hb;obtain ⟨_, _, cg⟩:=hx.ptr_inv hp;have kE:ns.length = k.toNat:=by have:=congrArg List.length lP;simp at this; omega
                        have bu:∀ j n, ns[j]? = some n → w.cell? ((⟨p.blk, p.shift + o, none⟩:Addr).add j) = some (.int .u8 n):=fun j n hj => by
                          have cf:j < ns.length:=(List.getElem?_eq_some_iff.1 hj).1;have dU:cc[o + j]? = some (.int .u8 n):=by
                            have:((cc.drop o).take k.toNat)[j]? = some (.int .u8 n):=by rw [lP, List.getElem?_map, hj]; rfl
                            rwa [List.getElem?_take, if_pos (by omega), List.getElem?_drop] at this
                          obtain ⟨u, b_, cz⟩:=h5 (o + j) _ dU;have kF:(⟨p.blk, p.shift + o, none⟩:Addr).add j = ⟨p.blk, p.shift + (o + j), none⟩:=by unfold Addr.add; split <;> simp_all <;> omega
                          rw [kF, b_, cz.int_inv]
                        have eE:w.shape? p.blk = some (e, C.size):=by simp [World.shape?, hC, kB, het]
                        have hr:=Q0a (P:=P) c.argTypes ty t e fW hu oN ⟨p.blk, p.shift + o, none⟩ C.size w eE ns k ij kE (by show p.shift + o + ns.length ≤ C.size; omega) oo bu;obtain ⟨k1, k2⟩:=hH.freeze hp hb (p.shift + o) k.toNat;refine ⟨.string ⟨(ns.map fun n => n.toNat.toUInt8).toArray⟩, _, ρ, .inl ?_, .string _, k1, k2⟩;simp [execOp, resolve, aG, bC, invoke, builtin, cg, gd, hr]
                      · cases h
                    · cases h
                  · cases h
                · cases h
            · cases h
          · cases hc
        · cases hc
      · cases hc
    · cases hc
  all_goals cases hc
theorem I0 {o:Oper}{vo:VOp}(hc:Kf P o.op=vo) (hq:vo.quiet=true) (hH:HRel ρ σ w) (hE:∀ x,JW x=true→VRel ρ σ.n (Q3 env x) (ev x))
  (h:Q6 vo (Q3 env) σ=some (v,σ')):σ'=σ∧LR P ρ σ w v (execOp ev o):=by
 unfold Kf at hc;split at hc
 ·rename_i v' hv;subst hc;exact Cz hv hq hH hE h
 ·split at hc
  ·rename_i x hx;subst hc;exact SM hx hq hH hE h
  ·subst hc;simp[Q6] at h
theorem Q0j {o:Oper}{vo:VOp}(hc:Kf P o.op=vo) (hq:vo.quiet=false) (hH:HRel ρ σ w) (hE:∀ x,JW x=true→VRel ρ σ.n (Q3 env x) (ev x))
  (h:Q6 vo (Q3 env) σ=some (v,σ')):Sj P ρ σ w v σ' (execOp ev o):=by
 unfold Kf at hc;split at hc
 ·rename_i v' hv;subst hc;exact EU hv hq hH hE h
 ·split at hc
  ·rename_i x hx;subst hc;exact Cn hx hq hH hE h
  ·subst hc;simp[Q6] at h
end
end Go.V