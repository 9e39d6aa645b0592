/- A framework for walks, contracts of functions, and their proofs: part 1. -/
import Derived.WalkKit
import Derived.Lib.Builder
import Derived.Lib.UnsafeStr
import Derived.DeepKeys
abbrev Go.z1:=@Bool.and_eq_true
abbrev Go.z6:=@if_neg
abbrev Go.z7:=@if_pos
abbrev Go.z8:=@List.getElem?_eq_getElem
abbrev Go.zd:=@Nat.le_refl
abbrev Go.ze:=@List.getD_eq_getElem?_getD
abbrev Go.zf:=@List.all_eq_true
abbrev Go.zg:=@decide_eq_true_eq
abbrev Go.zh:=@Int.toNat_natCast
abbrev Go.zi:=@List.getElem_mem
abbrev Go.zj:=@Go.Result.andThen_ok
abbrev Go.zk:=@decide_eq_false_iff_not
abbrev Go.zl:=@List.length_singleton
abbrev Go.zm:=@_root_.cond_true
abbrev Go.zn:=@Nat.lt_or_ge
abbrev Go.zo:=@Int.eq_ofNat_of_zero_le
abbrev Go.zp:=@Nat.mul_le_mul_right
abbrev Go.zq:=@Bool.false_eq_true
abbrev Go.zr:=@beq_iff_eq
abbrev Go.zt:=@Option.map_eq_some_iff
abbrev Go.zu:=@List.getElem?_eq_some_iff
abbrev Go.zw:=@Bool.or_eq_true
abbrev Go.zx:=@Go.Sem.run_bind
abbrev Go.zy:=@List.take_of_length_le
abbrev Go.zz:=@Nat.add_assoc
abbrev Go.zA:=@Nat.le_of_ble_eq_true
abbrev Go.zB:=@if_true
abbrev Go.zC:=@Nat.blt_eq
abbrev Go.zD:=@List.getElem?_eq_none
abbrev Go.zE:=@Option.bind_eq_bind
abbrev Go.zF:=@List.length_append
abbrev Go.zG:=@List.mem_cons
abbrev Go.zH:=@Nat.add_mul
abbrev Go.zI:=@List.mem_singleton
abbrev Go.zJ:=@Nat.le_trans
abbrev Go.zK:=@List.ext_getElem?
abbrev Go.zL:=@_root_.cond_false
abbrev Go.zM:=@List.mem_map
abbrev Go.zN:=@Nat.add_zero
abbrev Go.zO:=@List.cons.inj
abbrev Go.zP:=@Nat.eq_of_beq_eq_true
abbrev Go.zQ:=@List.mem_cons_self
abbrev Go.zR:=@List.all_cons
abbrev Go.zS:=@List.length_eq_one_iff
abbrev Go.zT:=@List.mem_cons_of_mem
abbrev Go.zU:=@Option.bind_eq_some_iff
abbrev Go.zV:=@List.getElem?_drop
abbrev Go.zW:=@List.map_cons
abbrev Go.zX:=@List.append_assoc
abbrev Go.zY:=@List.mem_iff_getElem?
abbrev Go.zZ:=@List.map_congr_left
abbrev Go.z_:=@List.mem_of_getElem?
abbrev Go.x3:=@Bool.not_eq_true
abbrev Go.x4:=@Nat.zero_add
abbrev Go.x5:=@List.mem_range
abbrev Go.x6:=@List.mapM_cons
abbrev Go.x7:=@List.mem_append
abbrev Go.x8:=@List.getElem?_append_left
abbrev Go.x9:=@Bool.not_eq_false'
abbrev Go.xc:=@Go.Sem.run_pure
abbrev Go.xd:=@Option.bind_some
abbrev Go.xe:=@List.any_eq_false
abbrev Go.xg:=@Option.some.injEq
abbrev Go.xh:=@Nat.lt_of_lt_of_le
abbrev Go.xi:=@List.length_take
abbrev Go.xj:=@List.getElem?_append_right
abbrev Go.xk:=@List.drop_zero
abbrev Go.xl:=@List.length_pos_iff
abbrev Go.xm:=@beq_eq_false_iff_ne
abbrev Go.xn:=@List.replicate_succ
abbrev Go.xp:=@List.getElem?_map
abbrev Go.xq:=@List.nil_append
abbrev Go.xr:=@List.map_append
abbrev Go.xt:=@List.getElem?_take
abbrev Go.xu:=@List.length_eq_zero_iff
abbrev Go.xw:=@List.cons_append
abbrev Go.xx:=@List.getElem?_set
abbrev Go.xy:=@Array.getElem?_eq_getElem
abbrev Go.xA:=@Nat.one_mul
abbrev Go.xB:=@Bool.and_true
abbrev Go.xC:=@List.nodup_cons
abbrev Go.xD:=@decide_eq_false
abbrev Go.xE:=@Array.getElem?_eq_some_iff
abbrev Go.xF:=@List.length_cons
abbrev Go.xG:=@List.take_append_drop
abbrev Go.xH:=@List.length_replicate
abbrev Go.xI:=@List.append_nil
abbrev Go.xJ:=@List.foldl_cons
abbrev Go.xK:=@Bool.not_false
abbrev Go.xL:=@Nat.add_comm
abbrev Go.xM:=@List.getElem_map
abbrev Go.xN:=@List.take_succ_cons
abbrev Go.xO:=@Bool.not_true
abbrev Go.xP:=@List.length_map
abbrev Go.xQ:=@Option.map_some
abbrev Go.xR:=@Nat.min_eq_left
abbrev Go.xS:=@List.mem_append_right
abbrev Go.xT:=@List.any_eq_true
abbrev Go.xU:=@Nat.mod_eq_of_lt
abbrev Go.xV:=@List.drop_succ_cons
abbrev Go.xW:=@List.mem_filter
abbrev Go.xX:=@List.length_set
abbrev Go.xY:=@List.map_map
abbrev Go.xZ:=@decide_eq_true
abbrev Go.x_:=@Bool.or_false
abbrev Go.w4:=@List.length_drop
abbrev Go.w7:=@List.mem_append_left
abbrev Go.wO:=@Nat.not_lt
abbrev Go.wP:=@Nat.mod_lt
abbrev Go.wQ:=@List.perm_ext_iff_of_nodup
abbrev Go.wR:=@of_decide_eq_true
abbrev Go.wU:=@Nat.mul_comm
abbrev Go.wV:=@and_self
theorem Go.osj.{u} {α:Type u} {a b:α}:some a=some b->a=b:=Option.some.inj
namespace Go.V
open Go
def Q03:Nat->Option (List Value):=λ_=>none
structure El where
 sz:Nat
 ty:Nat
 deriving DecidableEq,Inhabited
inductive VObj where
 |map (es:List (Value×Value×Nat)) (clock:Nat)
 |iter (m since:Nat) (seen:List Nat) (last:Nat)
 |lp (env:List Value) (r:Loop) (st:LoopState) (pend:Option Code)
 deriving Inhabited
inductive Blk where
 |cells (c:List Value) (esz:El) (wr tight:Bool)
 |obj (o:VObj) (wr:Bool)
 deriving Inhabited
def Blk.wr:Blk->Bool
 |.cells _ _ w _=>w
 |.obj _ w=>w
structure Heap where
 get:Nat->Option Blk
 n:Nat
 wf:∀ i,n<=i->get i=none
theorem Heap.lt (U:Heap) {i:Nat}{b:Blk}(h:U.get i=some b):i<U.n:=by
 rcases zn i U.n with h'|h'
 .exact h'
 .rw[U.wf i h'] at h;cases h
def Heap.push (U:Heap) (b:Blk):Heap where
 get i:=if i=U.n then some b else U.get i
 n:=U.n+1
 wf i h:=by rw[z6 (by omega)];exact U.wf i (by omega)
def Heap.upd (U:Heap) (i:Nat) (b:Blk):Heap where
 get j:=if j=i/\i<U.n then some b else U.get j
 n:=U.n
 wf j h:=by rw[z6 (by omega)];exact U.wf j h
def Heap.kill (U:Heap) (i:Nat):Heap where
 get j:=if j=i then none else U.get j
 n:=U.n
 wf j h:=by split;rfl;exact U.wf j h
@[simp] theorem Heap.push_n (U:Heap) (b:Blk):(U.push b).n=U.n+1:=rfl
@[simp] theorem Heap.q2n (U:Heap) (i:Nat) (b:Blk):(U.upd i b).n=U.n:=rfl
@[simp] theorem Heap.kill_n (U:Heap) (i:Nat):(U.kill i).n=U.n:=rfl
theorem Heap.q0a (U:Heap) (b:Blk):(U.push b).get U.n=some b:=by simp[Heap.push]
theorem Heap.q0e (U:Heap) (b:Blk) {i:Nat}(h:i≠U.n):(U.push b).get i=U.get i:=by simp[Heap.push,h]
theorem Heap.q0j (U:Heap) (b:Blk) {i:Nat}(h:i<U.n):(U.push b).get i=U.get i:=U.q0e b (Nat.ne_of_lt h)
theorem Heap.q0c (U:Heap) (b:Blk) {i:Nat}(h:i<U.n):(U.upd i b).get i=some b:=by simp[Heap.upd,h]
theorem Heap.q0b (U:Heap) (b:Blk) {i j:Nat}(h:j≠i):(U.upd i b).get j=U.get j:=by simp[Heap.upd,h]
theorem Heap.q0h (U:Heap) (i:Nat):(U.kill i).get i=none:=by simp[Heap.kill]
theorem Heap.q0d (U:Heap) {i j:Nat}(h:j≠i):(U.kill i).get j=U.get j:=by simp[Heap.kill,h]
structure Pl where
 blk:Nat
 shift:Nat
 ext:Nat
 esz:El
 tight:Bool
abbrev Plc:=Nat->Option Pl
def poison:Value:=.chan none
inductive VRel (ρ:Plc) (n:Nat):Value->Value->Prop
 |poison (c:Value):VRel ρ n poison c
 |bool (b:Bool):VRel ρ n (.bool b) (.bool b)
 |int (k:IntKind) (x:Int):VRel ρ n (.int k x) (.int k x)
 |string (s:ByteArray):VRel ρ n (.string s) (.string s)
 |nilPtr:VRel ρ n (.pointer none) (.pointer none)
 |nilSl:VRel ρ n (.slice none 0 0) (.slice none 0 0)
 |nilMap:VRel ρ n (.map none) (.map none)
 |nilFunc:VRel ρ n .nilFunc .nilFunc
 |nilIface:VRel ρ n .nilIface .nilIface
 |glob (g o s:Nat):VRel ρ n (.pointer (some ⟨g,o,some s⟩)) (.pointer (some ⟨g,o,none⟩))
 |ptr (i o:Nat) (a:Addr) (hi:i<n) (h:∀ p,ρ i=some p->a=⟨p.blk,p.shift+o,none⟩):VRel ρ n (.pointer (some ⟨i,o,none⟩)) (.pointer (some a))
 |sl (i o len cap:Nat) (a:Addr) (al:Nat) (hi:i<n)
   (h:∀ p,ρ i=some p->cap<=al/\(p.tight=true->al=cap)/\(al=0/\len=0\/∃ o',a=⟨p.blk,p.shift+o',none⟩/\o'+al*p.esz.sz<=p.ext/\(o'=o\/(len=0/\cap=0)))) :
   VRel ρ n (.slice (some ⟨i,o,none⟩) len cap) (.slice (some a) len al)
 |slx (i o len cap:Nat) (a:Addr) (hi:i<n) (h:∀ p,ρ i=some p->a=⟨p.blk,p.shift+o,none⟩/\o+cap*p.esz.sz<=p.ext) :
   VRel ρ n (.slice (some ⟨i,o,some 0⟩) len cap) (.slice (some a) len cap)
 |map (i r:Nat) (hi:i<n) (h:∀ p,ρ i=some p->r=p.blk):VRel ρ n (.map (some i)) (.map (some r))
 |yield (i r:Nat) (hi:i<n) (h:∀ p,ρ i=some p->r=p.blk):VRel ρ n (.func (.yield i) #[] #[]) (.func (.yield r) #[] #[])
 |iface (t:TypeId) (v c:Value) (h:VRel ρ n v c):VRel ρ n (.iface t v) (.iface t c)
 |func (fn:FuncId) (fs gs cs ds:Array Value) (hf:fs.size=gs.size) (hc:cs.size=ds.size)
   (h1:∀ i (h1:i<fs.size) (h2:i<gs.size),VRel ρ n fs[i] gs[i]) (h2:∀ i (h1:i<cs.size) (h2:i<ds.size),VRel ρ n cs[i] ds[i]):VRel ρ n (.func (.func fn) fs cs) (.func (.func fn) gs ds)
 |agg (cs ds:Array Value) (hc:cs.size=ds.size) (h:∀ i (h1:i<cs.size) (h2:i<ds.size),VRel ρ n cs[i] ds[i]):VRel ρ n (.agg cs) (.agg ds)
 |tuple (cs ds:Array Value) (hc:cs.size=ds.size) (h:∀ i (h1:i<cs.size) (h2:i<ds.size),VRel ρ n cs[i] ds[i]):VRel ρ n (.tuple cs) (.tuple ds)
theorem VRel.mono {ρ ρ':Plc}{n n':Nat}(hn:n<=n') (hρ:∀ i,i<n->∀ p,ρ' i=some p->ρ i=some p) {v c:Value}(h:VRel ρ n v c):VRel ρ' n' v c:=by
 induction h with
 |poison c=>exact .poison c
 |bool b=>exact .bool b
 |int k x=>exact .int k x
 |string s=>exact .string s
 |nilPtr=>exact .nilPtr
 |nilSl=>exact .nilSl
 |nilMap=>exact .nilMap
 |nilFunc=>exact .nilFunc
 |nilIface=>exact .nilIface
 |glob g o s=>exact .glob g o s
 |ptr i o a hi h=>exact .ptr i o a (by omega) λp hp=>h p (hρ i hi p hp)
 |sl i o len cap a al hi h=>exact .sl i o len cap a al (by omega) λp hp=>h p (hρ i hi p hp)
 |slx i o len cap a hi h=>exact .slx i o len cap a (by omega) λp hp=>h p (hρ i hi p hp)
 |map i r hi h=>exact .map i r (by omega) λp hp=>h p (hρ i hi p hp)
 |yield i r hi h=>exact .yield i r (by omega) λp hp=>h p (hρ i hi p hp)
 |iface t v c _ ih=>exact .iface t v c ih
 |func fn fs gs cs ds hf hc _ _ mb mc=>exact .func fn fs gs cs ds hf hc mb mc
 |agg cs ds hc _ ih=>exact .agg cs ds hc ih
 |tuple cs ds hc _ ih=>exact .tuple cs ds hc ih
def LRel (ρ:Plc) (n:Nat) (vs cs:List Value):Prop:=vs.length=cs.length/\∀ (i:Nat) (v c:Value),vs[i]?=some v->cs[i]?=some c->VRel ρ n v c
theorem LRel.mono {ρ ρ':Plc}{n n':Nat}(hn:n<=n') (hρ:∀ i,i<n->∀ p,ρ' i=some p->ρ i=some p) {v c:List Value}(h:LRel ρ n v c):LRel ρ' n' v c :=
 ⟨h.1,λi v c hv hc=>(h.2 i v c hv hc).mono hn hρ⟩
theorem LRel.nil (ρ:Plc) (n:Nat):LRel ρ n [] []:=⟨rfl,λi v c h _=>by simp at h⟩
theorem LRel.cons {ρ:Plc}{n:Nat}{v c:Value}{vs cs:List Value}(h:VRel ρ n v c) (hs:LRel ρ n vs cs):LRel ρ n (v::vs) (c::cs):=by
 refine⟨by simp[hs.1],λi v' c' hv hc=>?_⟩;cases i with
 |zero=>simp at hv hc;subst hv;subst hc;exact h
 |succ i=>simp at hv hc;exact hs.2 i v' c' hv hc
theorem LRel.get {ρ:Plc}{n:Nat}{vs cs:List Value}(h:LRel ρ n vs cs) {i:Nat}{v:Value}(hv:vs[i]?=some v):∃ c,cs[i]?=some c/\VRel ρ n v c:=by
 have af:i<vs.length:=(zu.1 hv).1;have cL:i<cs.length:=by have:=h.1;omega
 exact⟨cs[i],z8 cL,h.2 i v _ hv (z8 cL)⟩
theorem LRel.set {ρ:Plc}{n:Nat}{vs cs:List Value}(h:LRel ρ n vs cs) (i:Nat) {v c:Value}(hv:VRel ρ n v c):LRel ρ n (vs.set i v) (cs.set i c):=by
 refine⟨by simp[h.1],λj v' c' h1 h2=>?_⟩;rw[xx] at h1 h2;by_cases cq:i=j
 .simp_all
 .simp only[cq,if_false] at h1 h2;exact h.2 j v' c' h1 h2
theorem LRel.append {ρ:Plc}{n:Nat}{vs cs cH cs':List Value}(h:LRel ρ n vs cs) (h':LRel ρ n cH cs'):LRel ρ n (vs++cH) (cs++cs'):=by
 refine⟨by simp[h.1,h'.1],λi v c hv hc=>?_⟩;have e:=h.1;rw[List.getElem?_append] at hv hc;split at hv<;>split at hc<;>try omega
 .exact h.2 i v c hv hc
 .rw[e] at hv;exact h'.2 _ v c hv hc
theorem VRel.q1m {ρ:Plc}{n:Nat}{cs ds:List Value}(h:LRel ρ n cs ds):VRel ρ n (.agg cs.toArray) (.agg ds.toArray) :=
 .agg _ _ (by simpa using h.1) λi h1 h2=>h.2 i _ _ (by simp) (by simp)
theorem VRel.q0i {ρ:Plc}{n:Nat}{cs ds:List Value}(h:LRel ρ n cs ds):VRel ρ n (.tuple cs.toArray) (.tuple ds.toArray) :=
 .tuple _ _ (by simpa using h.1) λi h1 h2=>h.2 i _ _ (by simp) (by simp)
theorem LRel.of_array {ρ:Plc}{n:Nat}{cs ds:Array Value}(hc:cs.size=ds.size) (h:∀ i (h1:i<cs.size) (h2:i<ds.size),VRel ρ n cs[i] ds[i]):LRel ρ n cs.toList ds.toList:=by
 refine⟨by simpa using hc,λi v c hv cS=>?_⟩
 grind
def ORel (ρ:Plc) (n:Nat):VObj->Obj->Prop
 |.map es clock,o=>∃ entries,o=.map entries clock/\entries.size=es.length /\
   ∀ (k:Nat) (kv:Value×Value×Nat),es[k]?=some kv->∃ e:MapEntry,entries[k]?=some e/\e.key=kv.1/\e.born=kv.2.2/\VRel ρ n kv.2.1 e.val
 |.iter m since seen last,o=>∃ rm,o=.mapIter (some rm) since seen.toArray last/\VRel ρ n (.map (some m)) (.map (some rm))
 |.lp env r st pend,o=>o=.loop {r with state:=st,pending:=pend}/\LRel ρ n env r.tmps.toList
def BRel (ρ:Plc) (n:Nat) (p:Pl) (w:World):Blk->Prop
 |.cells c esz wr tight=>p.esz=esz/\p.tight=tight/\c.length<=p.ext /\
   (∃ C e f,w.heap[p.blk]?=some (.cells C e f)/\p.shift+p.ext<=C.size/\e=esz.ty) /\
   (∀ (k:Nat) (v:Value),c[k]?=some v->∃ u,w.cell? ⟨p.blk,p.shift+k,none⟩=some u/\VRel ρ n v u) /\
   (wr=true->(tight=true->p.shift=0)/\∀ k,k<p.ext->w.frozen? ⟨p.blk,p.shift+k,none⟩=false)
 |.obj o _=>(p.ext=1/\p.shift=0)/\∃ O,w.heap[p.blk]?=some O/\ORel ρ n o O
structure HRel0 (ρ:Plc) (U:Heap) (w:World):Prop where
 live:∀ i b,U.get i=some b->∃ p,ρ i=some p/\BRel ρ U.n p w b
 dead:∀ i,U.get i=none->ρ i=none
 lt:∀ i p,ρ i=some p->p.blk<w.heap.size
 sep:∀ i j p q b,i≠j->ρ i=some p->ρ j=some q->U.get i=some b->b.wr=true->0<q.ext->p.blk≠q.blk
theorem HRel0.idlt {ρ:Plc}{U:Heap}{w:World}(h:HRel0 ρ U w) {i:Nat}{p:Pl}(hp:ρ i=some p):i<U.n:=by
 cases hb:U.get i with
 |none=>rw[h.dead i hb] at hp;cases hp
 |some b=>exact U.lt hb
def Wr (ρ:Plc) (U:Heap) (B:Nat):Prop:=∃ i p b,ρ i=some p/\U.get i=some b/\b.wr=true/\p.blk=B
structure Ext (ρ:Plc) (U:Heap) (w:World) (ρ':Plc) (U':Heap) (w':World):Prop where
 os:w'.os=w.os
 tape:w'.tape=w.tape
 output:w'.output=w.output
 size:w.heap.size<=w'.heap.size
 keep:∀ B,B<w.heap.size->¬ Wr ρ U B->w'.heap[B]?=w.heap[B]?
 wr:∀ B,B<w.heap.size->Wr ρ' U' B->Wr ρ U B
 n:U.n<=U'.n
 pl:∀ i,i<U.n->∀ p,ρ' i=some p->ρ i=some p
theorem Ext.refl (ρ:Plc) (U:Heap) (w:World):Ext ρ U w ρ U w :=
 ⟨rfl,rfl,rfl,zd _,λ_ _ _=>rfl,λ_ _ h=>h,zd _,λ_ _ _ h=>h⟩
theorem Ext.trans {ρ ρ' dX:Plc}{U U' aH:Heap}{w w' pX:World}(h:Ext ρ U w ρ' U' w') (k:Ext ρ' U' w' dX aH pX):Ext ρ U w dX aH pX where
 os:=k.os.trans h.os
 tape:=k.tape.trans h.tape
 output:=k.output.trans h.output
 size:=zJ h.size k.size
 keep B hB hW:=(k.keep B (xh hB h.size) (λhw=>hW (h.wr B hB hw))).trans (h.keep B hB hW)
 wr B hB hW:=h.wr B hB (k.wr B (xh hB h.size) hW)
 n:=zJ h.n k.n
 pl i hi p hp:=h.pl i hi p (k.pl i (xh hi h.n) p hp)
theorem Ext.lrel {ρ ρ':Plc}{U U':Heap}{w w':World}(h:Ext ρ U w ρ' U' w') {v c:List Value}(hv:LRel ρ U.n v c):LRel ρ' U'.n v c:=hv.mono h.n h.pl
theorem ORel.mono {ρ ρ':Plc}{n n':Nat}(hn:n<=n') (hρ:∀ i,i<n->∀ p,ρ' i=some p->ρ i=some p) {o:VObj}{O:Obj}(h:ORel ρ n o O):ORel ρ' n' o O:=by
 cases o with
 |map es clock =>obtain⟨entries,h1,h2,h3⟩:=h;exact⟨entries,h1,h2,λk kv hk=>let ⟨e,he,h4,h5,hv⟩:=h3 k kv hk;⟨e,he,h4,h5,hv.mono hn hρ⟩⟩
 |iter m since seen last=>obtain⟨rm,h1,h2⟩:=h;exact⟨rm,h1,h2.mono hn hρ⟩
 |lp env r st pend=>exact⟨h.1,h.2.mono hn hρ⟩
theorem ORel.q1u {ρ:Plc}{n:Nat}{o:VObj}{C:Array Value}{e:TypeId}{f:Nat×Nat}:¬ ORel ρ n o (.cells C e f):=by
 cases o with
 |map es clock=>rintro⟨_,h,_⟩;cases h
 |iter m since seen last=>rintro⟨_,h,_⟩;cases h
 |lp env r st pend=>rintro⟨h,_⟩;cases h
theorem ORel.q0k {ρ:Plc}{n:Nat}{o:VObj}{d:Option (List Deferred)}:¬ ORel ρ n o (.deferred d):=by
 cases o with
 |map es clock=>rintro⟨_,h,_⟩;cases h
 |iter m since seen last=>rintro⟨_,h,_⟩;cases h
 |lp env r st pend=>rintro⟨h,_⟩;cases h
theorem BRel.mono {ρ ρ':Plc}{n n':Nat}(hn:n<=n') (hρ:∀ i,i<n->∀ p,ρ' i=some p->ρ i=some p) {p:Pl}{w w':World}(hw:w'.heap[p.blk]?=w.heap[p.blk]?) {b:Blk}(h:BRel ρ n p w b):BRel ρ' n' p w' b:=by
 cases b with
 |cells c esz wr tight =>
  obtain⟨h1,h2,h3,h4,h5,h6⟩:=h;refine⟨h1,h2,h3,by rw[hw];exact h4,λk v hk=>?_,λgy=>⟨(h6 gy).1,λk hk=>?_⟩⟩
  .obtain⟨u,hu,hv⟩:=h5 k v hk;exact⟨u,by grind [World.cell?_of_block],hv.mono hn hρ⟩
  .grind [World.frozen?_of_block]
 |obj o wr =>obtain⟨h0,O,h1,h2⟩:=h;exact⟨h0,O,by rw[hw];exact h1,h2.mono hn hρ⟩
theorem HRel0.world {ρ:Plc}{U:Heap}{w w':World}(h:HRel0 ρ U w) (hs:w.heap.size<=w'.heap.size) (hb:∀ i p,ρ i=some p->w'.heap[p.blk]?=w.heap[p.blk]?):HRel0 ρ U w' where
 live i b hi:=by obtain⟨p,hp,hB⟩:=h.live i b hi;exact⟨p,hp,hB.mono (zd _) (λ_ _ _ h=>h) (hb i p hp)⟩
 dead:=h.dead
 lt i p hp:=xh (h.lt i p hp) hs
 sep:=h.sep
theorem HRel0.drew {ρ:Plc}{U:Heap}{w:World}(h:HRel0 ρ U w):HRel0 ρ U w.drew:=h.world (zd _) (λ_ _ _=>rfl)
theorem Ext.drew (ρ:Plc) (U:Heap) (w:World):Ext ρ U w ρ U w.drew :=
 ⟨rfl,rfl,rfl,zd _,λ_ _ _=>rfl,λ_ _ h=>h,zd _,λ_ _ _ h=>h⟩
def Plc.put (ρ:Plc) (i:Nat) (p:Option Pl):Plc:=λj=>if j=i then p else ρ j
theorem HRel0.alloc {ρ:Plc}{U:Heap}{w:World}(h:HRel0 ρ U w) (c:List Value) (C:Array Value) (e:TypeId) (esz:El) (tight:Bool) (he:e=esz.ty)
  (hc:LRel ρ U.n c (C.toList.take c.length)) (hl:c.length<=C.size) :
  ∃ ρ',ρ' U.n=some ⟨w.heap.size,0,C.size,esz,tight⟩/\HRel0 ρ' (U.push (.cells c esz true tight)) (w.alloc (.cells C e))/\Ext ρ U w ρ' (U.push (.cells c esz true tight)) (w.alloc (.cells C e)):=by
 have hold:∀ k,k<w.heap.size->(w.alloc (.cells C e)).heap[k]?=w.heap[k]?:=λk hk=>by
  show (w.heap.push _)[k]?=_
  grind
 have aC:(w.alloc (.cells C e)).heap.size=w.heap.size+1:=World.size_alloc w _;have aN:∀ i,i<U.n->∀ p,(ρ.put U.n (some ⟨w.heap.size,0,C.size,esz,tight⟩)) i=some p->ρ i=some p:=λi hi p hp=>by unfold Plc.put at hp;rwa [z6 (by omega)] at hp
 refine⟨ρ.put U.n (some ⟨w.heap.size,0,C.size,esz,tight⟩),by simp[Plc.put],⟨?_,?_,?_,?_⟩,⟨rfl,rfl,rfl,by omega,λB hB _=>hold B hB,?_,by simp,aN⟩⟩
 .intro i b hb;by_cases hi:i=U.n
  .subst hi;rw[Heap.q0a] at hb;obtain rfl:=osj hb;refine⟨⟨w.heap.size,0,C.size,esz,tight⟩,by simp[Plc.put],rfl,rfl,hl,⟨C,e,(0,0),?_,by simp,he⟩,λk v hk=>?_,λ_=>⟨λ_=>rfl,λk _=>?_⟩⟩
   .show (w.heap.push _)[w.heap.size]?=_;simp
   .obtain⟨u,hu,hv⟩:=hc.get hk;have cI:k<c.length:=(zu.1 hk).1;refine⟨u,?_,hv.mono (by simp) aN⟩;rw[x4,World.cell?_alloc_new]
    grind
   simp_all
  .rw[Heap.q0e _ _ hi] at hb;obtain⟨p,hp,hB⟩:=h.live i b hb;exact⟨p,by simp[Plc.put,hi,hp],hB.mono (by simp) aN (hold _ (h.lt i p hp))⟩
 .intro i hi;by_cases aL:i=U.n
  .grind [Heap.q0a]
  .rw[Heap.q0e _ _ aL] at hi;simp[Plc.put,aL,h.dead i hi]
 .intro i p hp;by_cases hi:i=U.n
  .subst hi;simp[Plc.put] at hp;subst hp;simp
  .simp[Plc.put,hi] at hp;have:=h.lt i p hp;omega
 .intro i j p q b cq hp hq hb hw hx;by_cases hi:i=U.n
  .subst hi;simp[Plc.put] at hp;subst hp;simp[Plc.put,Ne.symm cq] at hq;have:=h.lt j q hq;intro e;simp at e;omega
  .simp[Plc.put,hi] at hp;rw[Heap.q0e _ _ hi] at hb;by_cases hj:j=U.n
   .subst hj;simp[Plc.put] at hq;subst hq;have:=h.lt i p hp;intro e;simp at e;omega
   .simp[Plc.put,hj] at hq;exact h.sep i j p q b cq hp hq hb hw hx
 .rintro B hB ⟨i,p,b,hp,hb,hw,rfl⟩;by_cases hi:i=U.n
  .subst hi;simp[Plc.put] at hp;subst hp;simp at hB
  .simp[Plc.put,hi] at hp;rw[Heap.q0e _ _ hi] at hb;exact⟨i,p,b,hp,hb,hw,rfl⟩
theorem HRel0.newObj {ρ:Plc}{U:Heap}{w:World}(h:HRel0 ρ U w) (o:VObj) (O:Obj) (ho:ORel ρ U.n o O) :
  ∃ ρ',ρ' U.n=some ⟨w.heap.size,0,1,default,true⟩/\HRel0 ρ' (U.push (.obj o true)) (w.alloc O)/\Ext ρ U w ρ' (U.push (.obj o true)) (w.alloc O):=by
 have hold:∀ k,k<w.heap.size->(w.alloc O).heap[k]?=w.heap[k]?:=λk hk=>by
  show (w.heap.push _)[k]?=_
  grind
 have aC:(w.alloc O).heap.size=w.heap.size+1:=World.size_alloc w _;have aN:∀ i,i<U.n->∀ p,(ρ.put U.n (some ⟨w.heap.size,0,1,default,true⟩)) i=some p->ρ i=some p:=λi hi p hp=>by unfold Plc.put at hp;rwa [z6 (by omega)] at hp
 refine⟨ρ.put U.n (some ⟨w.heap.size,0,1,default,true⟩),by simp[Plc.put],⟨?_,?_,?_,?_⟩,⟨rfl,rfl,rfl,by omega,λB hB _=>hold B hB,?_,by simp,aN⟩⟩
 .intro i b hb;by_cases hi:i=U.n
  .subst hi;rw[Heap.q0a] at hb;obtain rfl:=osj hb;refine⟨⟨w.heap.size,0,1,default,true⟩,by simp[Plc.put],⟨rfl,rfl⟩,O,?_,ho.mono (by simp) aN⟩;show (w.heap.push _)[w.heap.size]?=_;simp
  .rw[Heap.q0e _ _ hi] at hb;obtain⟨p,hp,hB⟩:=h.live i b hb;exact⟨p,by simp[Plc.put,hi,hp],hB.mono (by simp) aN (hold _ (h.lt i p hp))⟩
 .intro i hi;by_cases aL:i=U.n
  .grind [Heap.q0a]
  .rw[Heap.q0e _ _ aL] at hi;simp[Plc.put,aL,h.dead i hi]
 .intro i p hp;by_cases hi:i=U.n
  .subst hi;simp[Plc.put] at hp;subst hp;simp
  .simp[Plc.put,hi] at hp;have:=h.lt i p hp;omega
 .intro i j p q b cq hp hq hb hw hx;by_cases hi:i=U.n
  .subst hi;simp[Plc.put] at hp;subst hp;simp[Plc.put,Ne.symm cq] at hq;have:=h.lt j q hq;intro e;simp at e;omega
  .simp[Plc.put,hi] at hp;rw[Heap.q0e _ _ hi] at hb;by_cases hj:j=U.n
   .subst hj;simp[Plc.put] at hq;subst hq;have:=h.lt i p hp;intro e;simp at e;omega
   .simp[Plc.put,hj] at hq;exact h.sep i j p q b cq hp hq hb hw hx
 .rintro B hB ⟨i,p,b,hp,hb,hw,rfl⟩;by_cases hi:i=U.n
  .subst hi;simp[Plc.put] at hp;subst hp;simp at hB
  .simp[Plc.put,hi] at hp;rw[Heap.q0e _ _ hi] at hb;exact⟨i,p,b,hp,hb,hw,rfl⟩
def BX (w:World) (b:Nat) (O:Obj):World:={w with heap:=w.heap.setIfInBounds b O}
theorem Yl (w:World) (b:Nat) (O:Obj) (k:Nat) (h:k≠b):(BX w b O).heap[k]?=w.heap[k]?:=by simp only[BX];grind
theorem FO (w:World) (b:Nat) (O:Obj) (h:b<w.heap.size):(BX w b O).heap[b]?=some O:=by simp only[BX];simp_all
theorem Mx (w:World) (b:Nat) (O:Obj):(BX w b O).heap.size=w.heap.size:=by simp[BX]
theorem HRel0.setObj {ρ:Plc}{U:Heap}{w:World}(h:HRel0 ρ U w) {i:Nat}{p:Pl}{o:VObj}(hp:ρ i=some p) (hb:U.get i=some (.obj o true)) {o':VObj}{O':Obj}(ho:ORel ρ U.n o' O') :
  HRel0 ρ (U.upd i (.obj o' true)) (BX w p.blk O')/\Ext ρ U w ρ (U.upd i (.obj o' true)) (BX w p.blk O'):=by
 have hi:=U.lt hb;obtain⟨p',bh,h0,O,h1,h2⟩:=h.live i _ hb;obtain rfl:p=p':=osj (hp.symm.trans bh);have af:=h.lt i p hp;refine⟨⟨λj b hj=>?_,λj hj=>?_,λj q hq=>by rw[Mx];exact h.lt j q hq,λj k q r b dO hq hr bS hw hx=>?_⟩,?_⟩
 .by_cases aI:j=i
  .subst aI;rw[Heap.q0c _ _ hi] at hj;obtain rfl:=osj hj;exact⟨p,hp,h0,O',FO _ _ _ af,ho⟩
  .rw[Heap.q0b _ _ aI] at hj;obtain⟨q,hq,eL⟩:=h.live j b hj;refine⟨q,hq,?_⟩;by_cases hk:q.blk=p.blk
   .have hx:q.ext=0:=by
     rcases Nat.eq_zero_or_pos q.ext with h'|h'
     .exact h'
     .exact absurd hk.symm (h.sep i j p q _ (Ne.symm aI) hp hq hb rfl h')
    cases b with
    |cells c esz wr tight =>obtain⟨_,_,_,⟨C,e,f,k1,_⟩,_⟩:=eL;rw[hk,h1] at k1;obtain rfl:=osj k1;exact absurd h2 ORel.q1u
    |obj o2 wr=>have:=eL.1;omega
   .exact eL.mono (zd _) (λ_ _ _ h=>h) (Yl _ _ _ _ hk)
 .by_cases aI:j=i
  .grind [Heap.q0c]
  .rw[Heap.q0b _ _ aI] at hj;exact h.dead j hj
 .by_cases aI:j=i
  .subst aI;exact h.sep j k q r _ dO hq hr hb rfl hx
  .rw[Heap.q0b _ _ aI] at bS;exact h.sep j k q r b dO hq hr bS hw hx
 .refine⟨rfl,rfl,rfl,by rw[Mx];exact zd _,λB hB hW=>Yl _ _ _ _ (λe=>hW ⟨i,p,_,hp,hb,rfl,e.symm⟩),?_,zd _,λ_ _ _ h=>h⟩;rintro B _ ⟨j,q,b,hq,bD,hw,rfl⟩;by_cases aI:j=i
  .subst aI;exact⟨j,q,_,hq,hb,rfl,rfl⟩
  .rw[Heap.q0b _ _ aI] at bD;exact⟨j,q,b,hq,bD,hw,rfl⟩
theorem HRel0.q0k {ρ:Plc}{U:Heap}{w:World}(h:HRel0 ρ U w) {D:Nat}{d:Option (List Deferred)}(hD:w.heap[D]?=some (.deferred d)) (i:Nat) (p:Pl) (hp:ρ i=some p):p.blk≠D:=by
 rintro rfl;cases hb:U.get i with
 |none=>rw[h.dead i hb] at hp;cases hp
 |some b =>
  obtain⟨p',bh,hB⟩:=h.live i b hb;obtain rfl:p=p':=osj (hp.symm.trans bh);cases b with
  |cells c esz wr tight =>obtain⟨_,_,_,⟨C,e,f,k1,_⟩,_⟩:=hB;rw[hD] at k1;cases k1
  |obj o wr =>obtain⟨_,O,k1,k2⟩:=hB;rw[hD] at k1;obtain rfl:=osj k1;exact ORel.q0k k2
theorem HRel0.kill {ρ:Plc}{U:Heap}{w:World}(h:HRel0 ρ U w) (i:Nat):HRel0 (ρ.put i none) (U.kill i) w/\Ext ρ U w (ρ.put i none) (U.kill i) w:=by
 have aN:∀ j,∀ p,(ρ.put i none) j=some p->ρ j=some p/\j≠i:=λj p hp=>by unfold Plc.put at hp;split at hp<;>simp_all
 refine⟨⟨λj b hb=>?_,λj hj=>?_,λj p hp=>h.lt j p (aN j p hp).1,λj k p q b dO hp hq hb hw hx=>?_⟩,⟨rfl,rfl,rfl,zd _,λ_ _ _=>rfl,?_,zd _,λj _ p hp=>(aN j p hp).1⟩⟩
 .by_cases aI:j=i
  .grind [Heap.q0h]
  .rw[Heap.q0d _ aI] at hb;obtain⟨p,hp,hB⟩:=h.live j b hb;exact⟨p,by simp[Plc.put,aI,hp],hB.mono (zd _) (λk _ p hp=>(aN k p hp).1) rfl⟩
 .by_cases aI:j=i
  .simp[Plc.put,aI]
  .rw[Heap.q0d _ aI] at hj;simp[Plc.put,aI,h.dead j hj]
 .obtain⟨bh,aI⟩:=aN j p hp;rw[Heap.q0d _ aI] at hb;exact h.sep j k p q b dO bh (aN k q hq).1 hb hw hx
 .rintro B _ ⟨j,p,b,hp,hb,hw,rfl⟩;obtain⟨bh,aI⟩:=aN j p hp;rw[Heap.q0d _ aI] at hb;exact⟨j,p,b,bh,hb,hw,rfl⟩
def GTabs (ρ:Plc) (U:Heap) (w:World):Prop:=∀ g cs,Q03 g=some cs->(∃ e f,w.heap[g]?=some (.cells cs.toArray e f))/\¬ Wr ρ U g
theorem GTabs.lt {ρ:Plc}{U:Heap}{w:World}(h:GTabs ρ U w) {g:Nat}{cs:List Value}(hg:Q03 g=some cs):g<w.heap.size:=by
 obtain⟨⟨e,f,h1⟩,_⟩:=h g cs hg
 grind
theorem GTabs.ext {ρ ρ':Plc}{U U':Heap}{w w':World}(h:GTabs ρ U w) (k:Ext ρ U w ρ' U' w'):GTabs ρ' U' w':=λg cs hg=>by obtain⟨⟨e,f,h1⟩,h2⟩:=h g cs hg;have hl:=h.lt hg;exact⟨⟨e,f,by rw[k.keep g hl h2];exact h1⟩,λhw=>h2 (k.wr g hl hw)⟩
structure HRel (ρ:Plc) (U:Heap) (w:World):Prop where
 core:HRel0 ρ U w
 tab:GTabs ρ U w
section
variable {ρ:Plc}{U:Heap}{w:World}
theorem HRel.ext {ρ':Plc}{U':Heap}{w':World}(h:HRel ρ U w) (h':HRel0 ρ' U' w') (k:Ext ρ U w ρ' U' w'):HRel ρ' U' w':=⟨h',h.tab.ext k⟩
theorem HRel.live (h:HRel ρ U w):∀ i b,U.get i=some b->∃ p,ρ i=some p/\BRel ρ U.n p w b:=h.core.live
theorem HRel.dead (h:HRel ρ U w):∀ i,U.get i=none->ρ i=none:=h.core.dead
theorem HRel.lt (h:HRel ρ U w):∀ i p,ρ i=some p->p.blk<w.heap.size:=h.core.lt
theorem HRel.sep (h:HRel ρ U w):∀ i j p q b,i≠j->ρ i=some p->ρ j=some q->U.get i=some b->b.wr=true->0<q.ext->p.blk≠q.blk:=h.core.sep
theorem HRel.idlt (h:HRel ρ U w) {i:Nat}{p:Pl}(hp:ρ i=some p):i<U.n:=h.core.idlt hp
theorem HRel.world {w':World}(h:HRel ρ U w) (hs:w.heap.size<=w'.heap.size) (hb:∀ i p,ρ i=some p->w'.heap[p.blk]?=w.heap[p.blk]?) (ht:∀ g cs,Q03 g=some cs->w'.heap[g]?=w.heap[g]?):HRel ρ U w' :=
 ⟨h.core.world hs hb,λg cs hg=>by
  obtain⟨⟨e,f,h1⟩,h2⟩:=h.tab g cs hg;simp_all⟩
theorem HRel.drew (h:HRel ρ U w):HRel ρ U w.drew:=⟨h.core.drew,h.tab⟩
theorem HRel.alloc (h:HRel ρ U w) (c:List Value) (C:Array Value) (e:TypeId) (esz:El) (tight:Bool) (he:e=esz.ty)
  (hc:LRel ρ U.n c (C.toList.take c.length)) (hl:c.length<=C.size) :
  ∃ ρ',ρ' U.n=some ⟨w.heap.size,0,C.size,esz,tight⟩/\HRel ρ' (U.push (.cells c esz true tight)) (w.alloc (.cells C e))/\Ext ρ U w ρ' (U.push (.cells c esz true tight)) (w.alloc (.cells C e)) :=
 let ⟨ρ',h1,h2,h3⟩:=h.core.alloc c C e esz tight he hc hl
 ⟨ρ',h1,h.ext h2 h3,h3⟩
theorem HRel.newObj (h:HRel ρ U w) (o:VObj) (O:Obj) (ho:ORel ρ U.n o O) :
  ∃ ρ',ρ' U.n=some ⟨w.heap.size,0,1,default,true⟩/\HRel ρ' (U.push (.obj o true)) (w.alloc O)/\Ext ρ U w ρ' (U.push (.obj o true)) (w.alloc O) :=
 let ⟨ρ',h1,h2,h3⟩:=h.core.newObj o O ho
 ⟨ρ',h1,h.ext h2 h3,h3⟩
theorem HRel.setObj (h:HRel ρ U w) {i:Nat}{p:Pl}{o:VObj}(hp:ρ i=some p) (hb:U.get i=some (.obj o true)) {o':VObj}{O':Obj}(ho:ORel ρ U.n o' O') :
  HRel ρ (U.upd i (.obj o' true)) (BX w p.blk O')/\Ext ρ U w ρ (U.upd i (.obj o' true)) (BX w p.blk O') :=
 let ⟨h2,h3⟩:=h.core.setObj hp hb ho
 ⟨h.ext h2 h3,h3⟩
theorem HRel.q0k (h:HRel ρ U w) {D:Nat}{d:Option (List Deferred)}(hD:w.heap[D]?=some (.deferred d)) (i:Nat) (p:Pl) (hp:ρ i=some p):p.blk≠D:=h.core.q0k hD i p hp
theorem HRel.kill (h:HRel ρ U w) (i:Nat):HRel (ρ.put i none) (U.kill i) w/\Ext ρ U w (ρ.put i none) (U.kill i) w :=
 let ⟨h2,h3⟩:=h.core.kill i
 ⟨h.ext h2 h3,h3⟩
end
end Go.V
namespace Go.V
open Go
abbrev Env:=List Value
inductive MK where
 |int (k:IntKind)
 |string
 |bool
 |agg (s:List MK)
 deriving Inhabited
inductive XOp where
 |eqNil (kd:Nat) (neg:Bool) (x y:Operand)
 |makeMap
 |lookup (mk:MK) (zero:Value) (ok:Bool) (x i:Operand)
 |mapUpdate (mk:MK) (m k v:Operand)
 |delete (mk:MK) (m k:Operand)
 |mapEntry (mk:MK) (zero:Value) (m k:Operand)
 |entryStore (m s v:Operand)
 |lenMap (x:Operand)
 |rangeMap (x:Operand)
 |nextMap (x:Operand)
 |entry (x:Operand)
 |copy (size:Nat) (d s:Operand)
 |clear (z:List Value) (x:Operand)
 |toUnsafe (x:Operand)
 |fromUnsafe (u size:Nat) (x:Operand)
 |sliceData (x:Operand)
 |unsafeStr (e:Nat) (x n:Operand)
 |bytesStr (x:Operand)
 |strBytes (e:Nat) (x:Operand)
 |eqAgg (neg:Bool) (s:List MK) (x y:Operand)
 deriving Inhabited
inductive VOp where
 |move (x:Operand)
 |pick (c a b:Operand)
 |arith (op:BinOp) (x y:Operand)
 |div (op:BinOp) (x y:Operand)
 |bits (op:BinOp) (x y:Operand)
 |shift (op:BinOp) (x y:Operand)
 |cmp (op:BinOp) (x y:Operand)
 |str (op:BinOp) (x y:Operand)
 |eqB (neg:Bool) (x y:Operand)
 |un (op:UnOp) (x:Operand)
 |convI (k:IntKind) (x:Operand)
 |convS (x:Operand)
 |alloc (t:Nat) (z:List Value)
 |box (t:Nat) (x:Operand)
 |build (z:List Value) (parts:List (Nat×Nat×Operand))
 |buildSlice (esz:El) (z:List Value) (len:Nat) (parts:List (Nat×Operand))
 |load (agg:Bool) (size:Nat) (a:Operand)
 |store (size:Nat) (a v:Operand)
 |fieldAddr (off:Nat) (a:Operand)
 |field (agg:Bool) (off size:Nat) (x:Operand)
 |indexAddr (size:Nat) (x i:Operand)
 |indexAddrArr (len size:Nat) (x i:Operand)
 |indexStr (x i:Operand)
 |indexArr (len:Nat) (agg:Bool) (size:Nat) (x i:Operand)
 |slice (size:Nat) (x:Operand) (lo hi mx:Option Operand)
 |sliceStr (x:Operand) (lo hi:Option Operand)
 |makeSlice (esz:El) (bytes:Nat) (z:List Value) (l c:Operand)
 |len (x:Operand)
 |lenStr (x:Operand)
 |append (esz:El) (bytes:Nat) (s x:Operand)
 |max (x y:Operand)
 |max4 (x y z w:Operand)
 |min (x y:Operand)
 |makeFunc (fn:Fn) (first cap:List Operand)
 |iface (t:TypeId) (x:Operand)
 |extract (x:Operand) (i:Nat)
 |nilCheck (x:Operand)
 |callF (f:FuncId) (args:List Operand)
 |callV (f:Operand) (args:List Operand)
 |ext (o:XOp)
 |bad
 deriving Inhabited
structure VOper where
 dst:Option Nat
 op:VOp
 guard:Option (Nat×Bool)
 deriving Inhabited
structure DOper where
 dst:Option Nat
 op:VOp
 guard:Option (Nat×Bool)
 kind:Nat
 kmin:Nat
 kmax:Nat
 deriving Inhabited
inductive DSeg where
 |one (o:VOper)
 |alts (l:List (List DOper))
 deriving Inhabited
inductive VCode where
 |skip
 |region (ops:List VOper)
 |regionD (aO:List DSeg)
 |rangeF (g:Operand) (ps:List Nat) (a b:VCode)
 |seq (a b:VCode)
 |cond (c:Operand) (a b:VCode)
 |block (id:Nat) (b:VCode)
 |loop (b:VCode)
 |exit (id:Nat)
 |ret
 |bad
 deriving Inhabited
def QM:Value->Bool
 |.bool _|.int _ _|.string _|.pointer none|.slice none 0 0|.map none|.nilFunc|.nilIface=>true
 |_=>false
def Kt:Value->Bool
 |.agg cs=>cs.toList.all QM
 |.tuple cs=>cs.toList.all QM
 |v=>QM v
def JL:Operand->Bool
 |.tmp _=>true
 |.const v=>Kt v
 |.global _=>true
 |.func _=>true
def Vu:TypeDesc->Bool
 |.struct _|.array _ _=>true
 |_=>false
def zeroOf (P:Program) (t:TypeId):Option (List Value):=do
 let i <-P.info? t;let z <-i.zero;let cs:=z.cells.toList
 if cs.length==i.size&&cs.all QM then some cs else none
def GX (P:Program) (t:TypeId) (f:Nat):Option Field :=
 match P.underlying t with
 |some (.struct fs)=>fs[f]?
 |_=>none
def KZ (P:Program) (o:Op):Option VOp :=
 if !(o.operands.toList.all JL) then none else
 match o with
 |.move x|.assign x=>some (.move x)
 |.pick c a b=>some (.pick c a b)
 |.binOp op t x y _ =>
  match P.underlying t with
  |some (.int _) =>
   match op with
   |.add|.sub|.mul=>some (.arith op x y)
   |.quo|.rem=>some (.div op x y)
   |.and|.or|.xor|.andNot=>some (.bits op x y)
   |.shl|.shr=>some (.shift op x y)
   |_=>some (.cmp op x y)
  |some .string=>some (.str op x y)
  |some .bool=>match op with|.eql=>some (.eqB false x y)|.neq=>some (.eqB true x y)|_=>none
  |_=>none
 |.unOp op _ x=>some (.un op x)
 |.convert s d x =>
  match P.underlying s,P.underlying d with
  |some (.int _),some (.int k)=>some (.convI k x)
  |some .string,some .string=>some (.convS x)
  |_,_=>none
 |.alloc t=>do some (.alloc t (<-zeroOf P t))
 |.box t x=>some (.box t x)
 |.build t parts=>do
  let z <-zeroOf P t
  match P.underlying t with
  |some (.struct fs)=>do
   let places <-fs.toList.mapM λf=>(P.info? f.type).map λi=>(f.offset,i.size);let ps <-parts.toList.mapM λq=>(places[q.1]?).map λos=>(os.1,os.2,q.2)
   some (.build z ps)
  |some (.array _ e)=>do
   let ei <-P.info? e
   some (.build z (parts.toList.map λq=>(q.1*ei.size,ei.size,q.2)))
  |_=>none
 |.buildSlice t len parts =>
  match P.underlying t with
  |some (.slice e)=>do
   let z <-zeroOf P e
   if z.length==0||4096<len*z.length then none
   some (.buildSlice ⟨z.length,e⟩ z len parts.toList)
  |_=>none
 |.load t a=>do
  let i <-P.info? t;let d <-P.underlying t
  some (.load (Vu d) i.size a)
 |.store t a v=>do
  let i <-P.info? t
  some (.store i.size a v)
 |.fieldAddr t a f=>do
  let fd <-GX P t f;let fi <-P.info? fd.type
  if fi.size==0 then none
  some (.fieldAddr fd.offset a)
 |.field t x f=>do
  let fd <-GX P t f;let fi <-P.info? fd.type;let d <-P.underlying fd.type
  some (.field (Vu d) fd.offset fi.size x)
 |.indexAddr t x i =>
  match P.underlying t with
  |some (.slice e)=>do let ei <-P.info? e;some (.indexAddr ei.size x i)
  |some (.array n e)=>do let ei <-P.info? e;some (.indexAddrArr n ei.size x i)
  |_=>none
 |.index t x i =>
  match P.underlying t with
  |some .string=>some (.indexStr x i)
  |some (.array n e)=>do let ei <-P.info? e;let d <-P.underlying e;some (.indexArr n (Vu d) ei.size x i)
  |_=>none
 |.slice t x lo hi mx =>
  match P.underlying t with
  |some (.slice e)=>do let ei <-P.info? e;some (.slice ei.size x lo hi mx)
  |some .string=>if mx.isNone then some (.sliceStr x lo hi) else none
  |_=>none
 |.makeSlice t l c =>
  match P.underlying t with
  |some (.slice e)=>do
   let ei <-P.info? e;let z <-zeroOf P e
   if z.length==0 then none
   some (.makeSlice ⟨z.length,e⟩ ei.bytes z l c)
  |_=>none
 |.makeFunc fn first cap=>match fn with|.func _=>some (.makeFunc fn first.toList cap.toList)|_=>none
 |.makeInterface t x=>do
  let d <-P.underlying t
  match d with
  |.interface _=>none
  |_=>some (.iface t x)
 |.extract x i=>some (.extract x i)
 |.nilCheck x=>some (.nilCheck x)
 |.call c =>
  match c.callee with
  |.value (.func f)=>some (.callF f c.args.toList)
  |.value f=>some (.callV f c.args.toList)
  |.builtin .len =>
   match c.argTypes[0]?,c.args.toList with
   |some t,[x] =>
    match P.underlying t with
    |some .string=>some (.lenStr x)
    |some (.slice _)=>some (.len x)
    |_=>none
   |_,_=>none
  |.builtin .append =>
   match c.argTypes[0]?,c.argTypes[1]?,c.args.toList with
   |some t,some u,[s,x] =>
    match P.underlying t,P.underlying u with
    |some (.slice e),some (.slice _)=>do
     let ei <-P.info? e;let z <-zeroOf P e
     if z.length==0||ei.bytes==0 then none
     some (.append ⟨z.length,e⟩ ei.bytes s x)
    |_,_=>none
   |_,_,_=>none
  |.builtin .max=>match c.args.toList with|[x,y]=>some (.max x y)|[x,y,z]=>some (.max4 x y z z)|[x,y,z,w]=>some (.max4 x y z w)|_=>none
  |.builtin .min=>match c.args.toList with|[x,y]=>some (.min x y)|_=>none
  |_=>none
 |_=>none
def Cs (P:Program) (g:TypeId->Option (List MK)):List Field->Nat->Option (List MK)
 |[],_=>some []
 |f::r,off=>if f.name≠"_"/\f.offset=off then (match g f.type with
  |some s=>if P.cellsOf f.type=s.length then (Cs P g r (off+s.length)).map λq=>s++q else none
  |none=>none) else none
def shp (P:Program):Nat->TypeId->Option (List MK)
 |0,_=>none
 |d+1,t=>match P.underlying t with
  |some .bool=>some [.bool]
  |some (.int q)=>some [.int q]
  |some .string=>some [.string]
  |some (.array n e)=>(match shp P d e with
   |some s=>if P.cellsOf e=s.length then some (List.replicate n s).flatten else none
   |none=>none)
  |some (.struct fs)=>if P.stoodInHeld t=true then none else Cs P (shp P d) fs.toList 0
  |_=>none
def OC:MK->Value->Bool
 |.int q,.int q' _=>decide (q'=q)
 |.string,.string _=>true
 |.bool,.bool _=>true
 |_,_=>false
def fits:List MK->List Value->Bool
 |[],[]=>true
 |k::ks,v::vs=>OC k v&&fits ks vs
 |_,_=>false
def Ko:Value->Value->Bool
 |.int _ a,.int _ b=>a==b
 |.bool a,.bool b=>a==b
 |.string a,.string b=>a.data.toList==b.data.toList
 |_,_=>false
def Qn:List Value->List Value->Bool
 |a::l,b::m=>Ko a b&&Qn l m
 |_,_=>true
def PF (P:Program) (neg:Bool) (t:TypeId) (x y:Operand):Option XOp :=
 if P.eqGuardType P.depth t=true then none else (shp P 8 t).map λs=>.eqAgg neg s x y
theorem F8 {P:Program}{neg:Bool}{t:TypeId}{x y:Operand}{o:XOp}(h:PF P neg t x y=some o):∃ s,o=.eqAgg neg s x y:=by
 unfold PF at h
 grind [Option.map_eq_some_iff]
def SL (P:Program) (t:TypeId):Option MK :=
 match P.underlying t with
 |some (.int k)=>some (.int k)
 |some .string=>some .string
 |some .bool=>some .bool
 |some (.struct _)=>(shp P 8 t).map .agg
 |some (.array _ _)=>(shp P 8 t).map .agg
 |_=>none
def PS (P:Program) (o:Op):Option XOp :=
 if !(o.operands.toList.all JL) then none else
 match o with
 |.binOp op t x y _ =>
  match op,P.underlying t with
  |.eql,some (.pointer e)=>do let i <-P.info? e;if i.size==0 then none else some (.eqNil 0 false x y)
  |.neq,some (.pointer e)=>do let i <-P.info? e;if i.size==0 then none else some (.eqNil 0 true x y)
  |.eql,some (.slice _)=>some (.eqNil 1 false x y)
  |.eql,some (.map _ _)=>some (.eqNil 2 false x y)
  |.eql,some (.func _ _ _)=>some (.eqNil 3 false x y)
  |.neq,some (.slice _)=>some (.eqNil 1 true x y)
  |.neq,some (.map _ _)=>some (.eqNil 2 true x y)
  |.neq,some (.func _ _ _)=>some (.eqNil 3 true x y)
  |.eql,some (.struct _)=>PF P false t x y
  |.neq,some (.struct _)=>PF P true t x y
  |.eql,some (.array _ _)=>PF P false t x y
  |.neq,some (.array _ _)=>PF P true t x y
  |_,_=>none
 |.makeMap _ none=>some .makeMap
 |.lookup t x i ok =>
  match P.underlying t with
  |some (.map k e)=>do
   let mk <-SL P k;let inf <-P.info? e;let z <-inf.zero
   if Kt z then some (.lookup mk z ok x i) else none
  |_=>none
 |.mapUpdate t m k v =>
  match P.underlying t with
  |some (.map kt _)=>do some (.mapUpdate (<-SL P kt) m k v)
  |_=>none
 |.insert t m k v =>
  match P.underlying t with
  |some (.map kt _)=>do some (.mapUpdate (<-SL P kt) m k v)
  |_=>none
 |.mapEntry t m k =>
  match P.underlying t with
  |some (.map kt e)=>do
   let mk <-SL P kt;let inf <-P.info? e;let z <-inf.zero
   if Kt z then some (.mapEntry mk z m k) else none
  |_=>none
 |.entryStore _ m s v=>some (.entryStore m s v)
 |.range t x =>
  match P.underlying t with
  |some (.map _ _)=>some (.rangeMap x)
  |_=>none
 |.next x false=>some (.nextMap x)
 |.entry x=>some (.entry x)
 |.convert s d x =>
  match P.underlying s,P.underlying d with
  |some (.pointer t),some .unsafePointer=>do let i <-P.info? t;if i.size==0 then none else some (.toUnsafe x)
  |some .unsafePointer,some (.pointer u)=>do let i <-P.info? u;if i.size==0||P.cellsOf u==0 then none else some (.fromUnsafe u (P.cellsOf u) x)
  |some (.slice e),some .string=>match P.underlying e with|some (.int .u8)=>some (.bytesStr x)|_=>none
  |some .string,some (.slice e)=>match P.underlying e with|some (.int .u8)=>some (.strBytes e x)|_=>none
  |_,_=>none
 |.call c =>
  match c.callee with
  |.builtin .len =>
   match c.argTypes[0]?,c.args.toList with
   |some t,[x]=>match P.underlying t with|some (.map _ _)=>some (.lenMap x)|_=>none
   |_,_=>none
  |.builtin .delete =>
   match c.argTypes[0]?,c.args.toList with
   |some t,[m,k]=>match P.underlying t with|some (.map kt _)=>do some (.delete (<-SL P kt) m k)|_=>none
   |_,_=>none
  |.builtin .copy =>
   match c.argTypes[0]?,c.args.toList with
   |some t,[d,s]=>match P.underlying t with|some (.slice e)=>do let i <-P.info? e;some (.copy i.size d s)|_=>none
   |_,_=>none
  |.builtin .clear =>
   match c.argTypes[0]?,c.args.toList with
   |some t,[x]=>match P.underlying t with
    |some (.slice e)=>do
     let z <-zeroOf P e
     if z.length==0 then none
     some (.clear z x)
    |_=>none
   |_,_=>none
  |.builtin .unsafeSliceData=>match c.args.toList with|[x]=>some (.sliceData x)|_=>none
  |.builtin .unsafeString =>
   match c.argTypes[0]?,c.args.toList with
   |some t,[x,n]=>match P.underlying t with|some (.pointer e)=>if P.cellsOf e=1 then some (.unsafeStr e x n) else none|_=>none
   |_,_=>none
  |_=>none
 |_=>none
def YO (P:Program) (o:Op):VOp :=
 match KZ P o with
 |some v=>v
 |none=>match PS P o with
  |some x=>.ext x
  |none=>.bad
def J2 (P:Program) (ops:Array Oper) (o:Oper):Option VOper:=do
 let v:=YO P o.op
 match o.guard with
 |none=>some ⟨o.dst,v,none⟩
 |some (j,want)=>do
  let oj <-ops[j]?;let d <-oj.dst
  some ⟨o.dst,v,some (d,want)⟩
def XOp.quiet:XOp->Bool
 |.makeMap|.mapUpdate ..|.mapEntry ..|.entryStore ..|.delete ..|.rangeMap _|.nextMap _|.copy ..|.clear ..|.unsafeStr ..|.strBytes ..=>false
 |_=>true
def VOp.quiet:VOp->Bool
 |.ext o=>o.quiet
 |.alloc ..|.box ..|.buildSlice ..|.store ..|.makeSlice ..|.append ..=>false
 |.slice _ _ _ _ (some _)=>false
 |_=>true
def VOp.kind:VOp->Nat
 |.callF ..|.callV ..=>2
 |.load ..=>1
 |.slice _ _ _ _ none=>1
 |.ext (.eqNil ..)|.ext (.lookup ..)|.ext (.lenMap _)|.ext (.entry _)|.ext (.toUnsafe _)|.ext (.fromUnsafe ..)|.ext (.sliceData _)|.ext (.bytesStr _)=>1
 |o=>if o.quiet then 0 else 2
def Q2j (acc:List Nat) (es:List Nat):Nat:=es.foldl (λs e=>s ||| 2 ^ e ||| acc.getD e 0) 0
def Q7n:List (List Nat)->List Nat->List Nat
 |[],acc=>acc
 |es::r,acc=>Q7n r (acc++[Q2j acc es])
def XOp.opds:XOp->List Operand
 |.eqNil _ _ x y=>[x,y]
 |.eqAgg _ _ x y=>[x,y]
 |.makeMap=>[]
 |.lookup _ _ _ x i=>[x,i]
 |.mapUpdate _ m k v=>[m,k,v]
 |.delete _ m k=>[m,k]
 |.mapEntry _ _ m k=>[m,k]
 |.entryStore m s v=>[m,s,v]
 |.lenMap x|.rangeMap x|.nextMap x|.entry x|.toUnsafe x|.fromUnsafe _ _ x|.sliceData x|.bytesStr x=>[x]
 |.copy _ d s=>[d,s]
 |.clear _ x=>[x]
 |.unsafeStr _ x n=>[x,n]
 |.strBytes _ x=>[x]
def VOp.opds:VOp->List Operand
 |.move x|.un _ x|.convI _ x|.convS x|.box _ x|.load _ _ x|.fieldAddr _ x|.field _ _ _ x|.len x|.lenStr x|.iface _ x|.extract x _|.nilCheck x=>[x]
 |.pick c a b=>[c,a,b]
 |.arith _ x y|.div _ x y|.bits _ x y|.shift _ x y|.cmp _ x y|.str _ x y|.eqB _ x y|.store _ x y|.indexAddr _ x y|.indexAddrArr _ _ x y|.indexStr x y|.indexArr _ _ _ x y|.makeSlice _ _ _ x y
 |.append _ _ x y|.max x y|.min x y=>[x,y]
 |.max4 x y z w=>[x,y,z,w]
 |.alloc ..|.bad=>[]
 |.build _ ps=>ps.map λp=>p.2.2
 |.buildSlice _ _ _ ps=>ps.map λp=>p.2
 |.slice _ x a b c=>x::(a.toList++b.toList++c.toList)
 |.sliceStr x a b=>x::(a.toList++b.toList)
 |.makeFunc _ a b=>a++b
 |.callF _ bE=>bE
 |.callV f bE=>f::bE
 |.ext o=>o.opds
def FH (l:List Operand):List Nat:=l.filterMap fun|.tmp t=>some t|_=>none
def DK (o:Oper):List Nat:=(o.after.toList.filter (Region.binds .any)).map (·.on)
def Kg (v:VOper):List Nat:=v.dst.toList++FH v.op.opds++(v.guard.map (·.1)).toList
def Q15 (a b:List Nat×Option Nat):Bool:=(match a.2 with|some d=>b.1.contains d|none=>false)||(match b.2 with|some d=>a.1.contains d|none=>false)
structure DInfo where
 an:List Nat
 ed:List (List Nat)
 nm:List (List Nat×Option Nat)
 ks:List Nat
def Kv (ops:List Oper) (vs:List VOper):DInfo:=⟨Q7n (ops.map DK) [],ops.map DK,vs.map λv=>(Kg v,v.dst),vs.map (·.op.kind)⟩
def DInfo.lt (d:DInfo) (i j:Nat):Bool:=(d.an.getD j 0).testBit i
def DInfo.k (d:DInfo) (i:Nat):Nat:=d.ks.getD i 0
def DInfo.rank (d:DInfo):Nat->Nat
 |0=>0
 |i+1=>if d.k i=2 then d.rank i+1 else d.rank i
def DInfo.kmin (d:DInfo) (i:Nat):Nat:=((List.range d.ks.length).filter λl=>d.k l==2&&d.lt l i).length
def DInfo.kmax (d:DInfo) (i:Nat):Nat:=((List.range d.ks.length).filter λl=>d.k l==2&&!(d.lt i l)).length
def DInfo.touch (d:DInfo) (i j:Nat):Bool:=Q15 (d.nm.getD i ([],none)) (d.nm.getD j ([],none))
def DInfo.okE (d:DInfo) (j:Nat):Bool:=(d.ed.getD j []).all λe=>decide (e<j)
def DInfo.okP (d:DInfo) (j:Nat):Bool:=(List.range j).all λi =>
 if d.lt i j then (d.ed.getD j []).any (λe=>e==i||decide (i<e)&&d.lt i e) else !(d.touch i j)&&!(d.k i==2&&d.k j==2)
def DInfo.okK (d:DInfo) (j:Nat):Bool:=!(d.k j==1) ||
 (decide (d.kmin j<=d.rank j/\d.rank j<=d.kmax j)&&(decide (d.kmax j<=d.rank d.ks.length)&&(List.range d.ks.length).all λl=>!(d.k l==2)||(d.lt l j==decide (d.rank l<d.kmin j)&&d.lt j l==decide (d.kmax j<=d.rank l))))
def DInfo.ok (d:DInfo):Bool:=(List.range d.ks.length).all λj=>d.okE j&&(d.okP j&&d.okK j)
def DInfo.opers (d:DInfo):List VOper->Nat->List DOper
 |[],_=>[]
 |v::r,i=>⟨v.dst,v.op,v.guard,v.op.kind,d.kmin i,d.kmax i⟩::d.opers r (i+1)
def DInfo.okB (d:DInfo):Bool:=decide (d.an.length=d.ks.length)&&(List.range d.ks.length).all λj=>d.okE j&&(decide (d.an.getD j 0<2 ^ j) &&
 (List.range j).all λi=>!(d.lt i j)||(d.ed.getD j []).any (λe=>e==i||decide (i<e)&&d.lt i e))
def exts (lt:Nat->Nat->Bool):Nat->List Nat->List (List Nat)
 |_,[]=>[[]]
 |0,_=>[]
 |n+1,l=>l.flatMap λk=>if l.all (λi=>i==k||!(lt i k)) then (exts lt n (l.erase k)).map (k::·) else []
def Q86 (ed:List (List Nat)) (ks idx:List Nat):Nat->List Nat->List Nat->List Nat
 |0,acc,_=>acc
 |f+1,acc,kq=>match idx.find? (λi=>!(acc.contains i)&&((ed.getD i []).all (λe=>!(idx.contains e)||acc.contains e)&&(!(ks.getD i 0==2)||kq.head?==some i))) with
  |none=>acc
  |some i=>Q86 ed ks idx f (acc++[i]) (if ks.getD i 0==2 then kq.tail else kq)
def Q28 (ed:List (List Nat)) (ks idx:List Nat):Nat->List Nat->List Nat->List Nat
 |0,acc,_=>acc
 |f+1,acc,kq=>match idx.find? (λi=>!(acc.contains i)&&((ed.getD i []).all (λe=>!(idx.contains e)||acc.contains e)&&!(ks.getD i 0==2))) with
  |some i=>Q28 ed ks idx f (acc++[i]) kq
  |none=>match idx.find? (λi=>!(acc.contains i)&&((ed.getD i []).all (λe=>!(idx.contains e)||acc.contains e)&&kq.head?==some i)) with
   |none=>acc
   |some i=>Q28 ed ks idx f (acc++[i]) kq.tail
def Q24:VOp->Bool
 |.callF ..=>true
 |_=>false
def Q6a (b:Bool) (ed:List (List Nat)) (ks idx:List Nat) (n:Nat) (q:List Nat):List Nat:=if b then Q28 ed ks idx n [] q else Q86 ed ks idx n [] q
def Q22 (d:DInfo) (pm:List Nat) (p:Nat):List Nat :=
 ((d.ed.getD (pm.getD p 0) []).filter pm.contains).map (λe=>pm.idxOf e) ++
  (if d.k (pm.getD p 0)==2 then ((List.range p).filter λq=>d.k (pm.getD q 0)==2).getLast?.toList else [])
def Kz (vs:List VOper) (pm:List Nat):List VOper:=pm.map λi=>vs.getD i default
def Ad (d:DInfo) (vs:List VOper) (pm:List Nat):DInfo :=
 let ed:=(List.range pm.length).map (Q22 d pm)
 ⟨Q7n ed [],ed,(Kz vs pm).map λv=>(Kg v,v.dst),(Kz vs pm).map (·.op.kind)⟩
def Q5z (d:DInfo) (vs:List VOper) (idx s pm:List Nat):Bool :=
 idx.all pm.contains&&(pm.all idx.contains&&(decide pm.Nodup&&(decide (pm.filter (λi=>d.k i==2)=s)&&(Ad d vs pm).ok)))
def Q6b (d:DInfo) (vs:List VOper) (s n:Nat):Option DSeg :=
 if n=1 then some (.one (vs.getD s default)) else
 let idx:=List.range' s n;let ss:=exts d.lt n (idx.filter λi=>d.k i==2);let ps:=ss.map λq=>(q,Q6a (decide (3<=(idx.filter λi=>Q24 (vs.getD i default).op).length)) d.ed d.ks idx n q)
 if ps.all λsp=>Q5z d vs idx sp.1 sp.2 then some (.alts (ps.map λsp=>(Ad d vs sp.2).opers (Kz vs sp.2) 0)) else none
def cutAt (d:DInfo) (t:Nat):Bool:=(List.range' t (d.ks.length-t)).all λp=>(List.range t).all λi=>d.lt i p
def Ol (d:DInfo) (vs:List VOper):Nat->Nat->Option (List DSeg)
 |0,s=>if s=d.ks.length then some [] else none
 |f+1,s=>if s=d.ks.length then some [] else
  match (List.range' (s+1) (d.ks.length-s)).find? (cutAt d) with
  |none=>none
  |some t=>match Q6b d vs s (t-s),Ol d vs f t with
   |some x,some r=>some (x::r)
   |_,_=>none
def Q2i (d:DInfo) (vs:List VOper):Option (List DSeg):=if d.okB then Ol d vs d.ks.length 0 else none
def N_ (d:DInfo) (vs:List VOper):Bool :=
 d.okB&&(vs.all (λv=>!(v.op.kind==2))&&Q5z d vs (List.range' 0 d.ks.length) [] (List.range' 0 d.ks.length))
def comp (P:Program):Code->Option VCode
 |.skip=>some .skip
 |.region _ ops false=>do some (.region (<-ops.toList.mapM (J2 P ops)))
 |.region _ ops true=>do
  let l <-ops.toList.mapM (J2 P ops)
  if N_ (Kv ops.toList l) l then some (.region l) else
  match Q2i (Kv ops.toList l) l with
  |some aO=>some (.regionD aO)
  |none=>some .bad
 |.seq a b=>do some (.seq (<-comp P a) (<-comp P b))
 |.cond c a b=>do if JL c then some (.cond c (<-comp P a) (<-comp P b)) else some .bad
 |.block id b=>do some (.block id (<-comp P b))
 |.loop b=>do some (.loop (<-comp P b))
 |.rangeFunc g ps a b=>do if JL g then some (.rangeF g ps.toList (<-comp P a) (<-comp P b)) else some .bad
 |.exit id=>some (.exit id)
 |.ret=>some .ret
 |_=>some .bad
def Q5 (env:Env):Operand->Value
 |.tmp t=>env.getD t undef
 |.const v=>v
 |.global g=>.pointer (some ⟨g,0,some 0⟩)
 |.func f=>.func (.func f) #[] #[]
def Ti:BinOp->IntKind->Int->Int->Int
 |.add,k,a,b=>k.wrap (a+b)
 |.sub,k,a,b=>k.wrap (a-b)
 |_,k,a,b=>k.wrap (a*b)
def Q39:BinOp->IntKind->Int->Int->Int
 |.quo,k,a,b=>k.wrap (a.tdiv b)
 |_,_,a,b=>a.tmod b
def ZS (op:BinOp) (k:IntKind) (x y:Int):Int :=
 let a:=BitVec.ofInt k.bits x;let b:=BitVec.ofInt k.bits y
 match op with
 |.and=>k.wrap (a &&& b).toNat
 |.or=>k.wrap (a ||| b).toNat
 |.xor=>k.wrap (a ^^^ b).toNat
 |_=>k.wrap (a &&& ~~~b).toNat
def Tg:BinOp->IntKind->Int->Int->Int
 |.shl,k,x,y=>k.wrap (x*2 ^ (Nat.min y.toNat k.bits))
 |_,k,x,y=>x.fdiv (2 ^ (Nat.min y.toNat k.bits))
def Q5w:BinOp->Int->Int->Bool
 |.eql,a,b=>a==b
 |.neq,a,b=>a != b
 |.lss,a,b=>decide (a<b)
 |.leq,a,b=>decide (a<=b)
 |.gtr,a,b=>decide (a > b)
 |_,a,b=>decide (a>=b)
def cellOk:Value->Bool
 |.agg _|.tuple _|.chan _=>false
 |_=>true
def YM:Value->Option (List Value)
 |.agg cs=>some cs.toList
 |.chan _|.tuple _=>none
 |v=>some [v]
def W_ (c:List Value) (o:Nat):List Value->List Value
 |[]=>c
 |v::vs=>W_ (c.set o v) (o+1) vs
def U8 (c:List Value):List (Nat×Nat×Value)->Option (List Value)
 |[]=>some c
 |(o,s,v)::rest =>
  match YM v with
  |some vs=>if vs.length=s/\o+s<=c.length then U8 (W_ c o vs) rest else none
  |none=>none
def BI (n:Nat):List Value->List Value
 |[x]=>List.replicate n x
 |z=>(List.replicate n z).flatten
def X_ (agg:Bool) (size:Nat) (c:List Value) (o:Nat):Option Value :=
 if agg then (if o+size<=c.length then some (.agg ((c.drop o).take size).toArray) else none) else c[o]?
def Heap.sl (U:Heap) (esz:Nat):Value->Option (List Value)
 |.slice none 0 0=>some []
 |.slice (some ⟨i,o,none⟩) n _ =>
  match U.get i with
  |some (.cells c e _ _)=>if e.sz=esz/\o+n*esz<=c.length then some ((c.drop o).take (n*esz)) else none
  |_=>none
 |_=>none
def Y0 (esz:El) (bytes:Nat) (U:Heap) (s:Value) (m:Nat) (xs:List Value):Option (Value×Heap) :=
 match s with
 |.slice none 0 0 =>
  if m=0 then some (s,U) else
  if m*bytes<=2 ^ 46 then some (.slice (some ⟨U.n,0,none⟩) m m,U.push (.cells xs esz true false)) else none
 |.slice (some ⟨i,o,none⟩) n cap =>
  match U.get i with
  |some (.cells c e wr tight) =>
   if e=esz/\n<=cap/\o+n*esz.sz<=c.length then
    if m=0 then some (s,U) else
    if n+m<=cap then
     (if wr=true/\o+(n+m)*esz.sz<=c.length then some (.slice (some ⟨i,o,none⟩) (n+m) cap,U.upd i (.cells (W_ c (o+n*esz.sz) xs) e wr tight)) else none)
    else if (n+m)*bytes<=2 ^ 46 then
     (if tight then some (.slice (some ⟨U.n,0,none⟩) (n+m) (n+m),U.push (.cells ((c.drop o).take (n*esz.sz)++xs) esz true false))
     else if wr then some (.slice (some ⟨U.n,0,none⟩) (n+m) (n+m),(U.kill i).push (.cells ((c.drop o).take (n*esz.sz)++xs) esz true false))
     else none)
    else none
   else none
  |_=>none
 |.slice (some ⟨i,o,some 0⟩) n cap =>
  match U.get i with
  |some (.cells c e _ _) =>
   if e=esz/\n=cap/\o+n*esz.sz<=c.length/\m≠0/\(n+m)*bytes<=2 ^ 46 then
    some (.slice (some ⟨U.n,0,none⟩) (n+m) (n+m),U.push (.cells ((c.drop o).take (n*esz.sz)++xs) esz true false))
   else none
  |_=>none
 |_=>none
def ZX (ev:Operand->Value):Option Operand->Nat->Option Nat
 |none,d=>some d
 |some x,_=>match ev x with
  |.int _ i=>if 0<=i then some i.toNat else none
  |_=>none
def W5 (size:Nat) (U:Heap) (s:Value) (l h:Nat) (m:Option Nat):Option (Value×Heap) :=
 match s with
 |.slice none 0 0=>if l=0/\h=0/\(m.getD 0)=0 then some (.slice none 0 0,U) else none
 |.slice (some ⟨i,o,none⟩) _ cap =>
  match U.get i with
  |some (.cells _ e _ t) =>
   match m with
   |none=>if e.sz=size/\l<=h/\h<=cap then some (.slice (some ⟨i,o+l*size,none⟩) (h-l) (cap-l),U) else none
   |some m =>
    if e.sz=size/\l<=h/\h<=m/\m<=cap then
     if m=l then some (.slice (some ⟨U.n,0,none⟩) 0 0,U.push (.cells [] e false true))
     else if t=false/\h=m then some (.slice (some ⟨i,o+l*size,some 0⟩) (h-l) (m-l),U)
     else some (.slice (some ⟨i,o+l*size,none⟩) (h-l) (m-l),U)
    else none
  |_=>none
 |_=>none
def ZZ:MK->Value->Bool
 |.int k,.int k' _=>decide (k=k')
 |.string,.string _|.bool,.bool _=>true
 |.agg s,.agg cs=>fits s cs.toList
 |_,_=>false
def Yq:Value->Value->Bool
 |.agg a,.agg b=>Qn a.toList b.toList
 |.int _ a,.int _ b=>a==b
 |.string a,.string b=>a.data.toList==b.data.toList
 |.bool a,.bool b=>a==b
 |_,_=>false
abbrev JH:=Value×Value×Nat
def QK (k:Value):List JH->Option JH
 |[]=>none
 |e::es=>if Yq k e.1 then some e else QK k es
def QW (k v:Value) (clock:Nat):List JH->List JH×Nat
 |[]=>([(k,v,clock)],clock+1)
 |e::es=>if Yq k e.1 then ((k,v,e.2.2)::es,clock) else (e::(QW k v clock es).1,(QW k v clock es).2)
def DS (k:Value):List JH->List JH
 |[]=>[]
 |e::es=>if Yq k e.1 then es else e::DS k es
def Heap.mapAt (U:Heap) (m:Nat):Option (List JH×Nat×Bool):=match U.get m with
 |some (.obj (.map es clock) wr)=>some (es,clock,wr)
 |_=>none
def CQ:Value->Option UInt8
 |.int .u8 n=>some n.toNat.toUInt8
 |_=>none
def DI (l:List Value):Option ByteArray:=(l.mapM CQ).map λbs=>⟨bs.toArray⟩
def J8:Nat->Value->Value->Heap->Option Bool
 |0,.pointer none,.pointer none,_=>some true
 |0,.pointer none,.pointer (some _),_=>some false
 |0,.pointer (some _),.pointer none,_=>some false
 |0,.pointer (some ⟨i,o,none⟩),.pointer (some ⟨j,q,none⟩),U=>if i=j/\o=q/\(U.get i).isSome=true then some true else none
 |1,.slice none _ _,.slice none _ _,_=>some true
 |1,.slice none _ _,.slice (some _) _ _,_=>some false
 |1,.slice (some _) _ _,.slice none _ _,_=>some false
 |2,.map none,.map none,_=>some true
 |2,.map none,.map (some _),_=>some false
 |2,.map (some _),.map none,_=>some false
 |3,.nilFunc,.nilFunc,_=>some true
 |3,.nilFunc,.func _ _ _,_=>some false
 |3,.func _ _ _,.nilFunc,_=>some false
 |_,_,_,_=>none
def Zd (o:XOp) (ev:Operand->Value) (U:Heap):Option (Value×Heap) :=
 match o with
 |.eqNil kd neg x y=>match J8 kd (ev x) (ev y) U with|some b=>some (.bool (if neg then !b else b),U)|none=>none
 |.eqAgg neg s x y=>match ev x,ev y with
  |.agg a,.agg b=>if fits s a.toList=true/\fits s b.toList=true then some (.bool (if neg then !(Qn a.toList b.toList) else Qn a.toList b.toList),U) else none
  |_,_=>none
 |.makeMap=>some (.map (some U.n),U.push (.obj (.map [] 0) true))
 |.lookup mk z ok x i =>
  let k:=ev i
  if ZZ mk k then
   match ev x with
   |.map none=>some (if ok then .tuple #[z,.bool false] else z,U)
   |.map (some m)=>match U.mapAt m with
    |some (es,_,_)=>if es.all (λe=>ZZ mk e.1) then
      (match QK k es with
      |some e=>some (if ok then .tuple #[e.2.1,.bool true] else e.2.1,U)
      |none=>some (if ok then .tuple #[z,.bool false] else z,U)) else none
    |none=>none
   |_=>none
  else none
 |.mapUpdate mk m k v=>match ev m with
  |.map (some i)=>match U.mapAt i with
   |some (es,clock,true)=>if ZZ mk (ev k)&&es.all (λe=>ZZ mk e.1) then some (undef,U.upd i (.obj (.map (QW (ev k) (ev v) clock es).1 (QW (ev k) (ev v) clock es).2) true)) else none
   |_=>none
  |_=>none
 |.delete mk m k=>match ev m with
  |.map (some i)=>match U.mapAt i with
   |some (es,clock,true)=>if ZZ mk (ev k)&&es.all (λe=>ZZ mk e.1) then some (.tuple #[],U.upd i (.obj (.map (DS (ev k) es) clock) true)) else none
   |_=>none
  |_=>none
 |.mapEntry mk z m k=>match ev m with
  |.map (some i)=>match U.mapAt i with
   |some (es,clock,true)=>if ZZ mk (ev k)&&es.all (λe=>ZZ mk e.1) then
     (match QK (ev k) es with
     |some e=>some (.tuple #[e.2.1,.int .i64 e.2.2],U.upd i (.obj (.map (QW (ev k) e.2.1 clock es).1 (QW (ev k) e.2.1 clock es).2) true))
     |none=>some (.tuple #[z,.int .i64 clock],U.upd i (.obj (.map (QW (ev k) z clock es).1 (QW (ev k) z clock es).2) true))) else none
   |_=>none
  |_=>none
 |.entryStore m s v=>match ev m,ev s with
  |.map (some i),.int .i64 n=>match U.mapAt i with
   |some (es,clock,true)=>(match es.findIdx? (λe=>(e.2.2:Int)==n) with
    |some j=>(match es[j]? with
     |some e=>some (undef,U.upd i (.obj (.map (es.set j (e.1,ev v,e.2.2)) clock) true))
     |none=>none)
    |none=>none)
   |_=>none
  |_,_=>none
 |.lenMap x=>match ev x with
  |.map none=>some (.int .i64 0,U)
  |.map (some m)=>match U.mapAt m with
   |some (es,_,_)=>some (.int .i64 es.length,U)
   |none=>none
  |_=>none
 |.rangeMap x=>match ev x with
  |.map (some m)=>match U.mapAt m with
   |some (_,clock,_)=>some (.pointer (some ⟨U.n,0,none⟩),U.push (.obj (.iter m clock [] clock) true))
   |none=>none
  |_=>none
 |.nextMap _=>none
 |.entry x=>match ev x with
  |.pointer (some ⟨i,0,none⟩)=>match U.get i with
   |some (.obj (.iter m _ seen last) _)=>match U.mapAt m,seen.getLast? with
    |some (es,clock,_),some b=>if clock=last then (match es.find? (λe=>e.2.2==b) with|some e=>if Kt e.1 then some (.tuple #[e.1,e.2.1],U) else none|none=>none) else none
    |_,_=>none
   |_=>none
  |_=>none
 |.copy size d s=>match ev d,ev s with
  |.slice db dn _,.slice sb sn sc =>
   if min sn dn=0 then some (.int .i64 0,U) else
   match db,U.sl size (.slice sb (min sn dn) sc) with
   |some ⟨i,o,none⟩,some xs=>match U.get i with
    |some (.cells c e wr tight)=>if wr=true/\e.sz=size/\o+xs.length<=c.length/\xs.all cellOk=true then some (.int .i64 (min sn dn:Nat),U.upd i (.cells (W_ c o xs) e wr tight)) else none
    |_=>none
   |_,_=>none
  |_,_=>none
 |.clear z x=>match ev x with
  |.slice b n _ =>
   if n=0 then some (.tuple #[],U) else
   match b with
   |some ⟨i,o,none⟩=>match U.get i with
    |some (.cells c e wr tight)=>if wr=true/\o+n*z.length<=c.length/\z.all cellOk=true then some (.tuple #[],U.upd i (.cells (W_ c o (BI n z)) e wr tight)) else none
    |_=>none
   |_=>none
  |_=>none
 |.toUnsafe x=>match ev x with
  |.pointer none=>some (.pointer none,U)
  |.pointer (some ⟨i,o,none⟩)=>match U.get i with
   |some (.cells c _ _ _)=>if o<c.length then some (.pointer (some ⟨i,o,none⟩),U) else none
   |_=>none
  |_=>none
 |.fromUnsafe u size x=>match ev x with
  |.pointer none=>some (.pointer none,U)
  |.pointer (some ⟨i,o,none⟩)=>match U.get i with
   |some (.cells c e true true)=>if o=0/\e.ty=u/\size<=c.length then some (.pointer (some ⟨i,o,none⟩),U) else none
   |_=>none
  |_=>none
 |.sliceData x=>match ev x with
  |.slice none _ _=>some (.pointer none,U)
  |.slice (some ⟨i,o,none⟩) _ cap=>if cap≠0/\(U.get i).isSome=true then some (.pointer (some ⟨i,o,none⟩),U) else none
  |_=>none
 |.unsafeStr e x n=>match ev x,ev n with
  |.pointer p,.int .i64 k =>
   if k=0 then some (.string ⟨#[]⟩,U) else
   match p with
   |some ⟨i,o,none⟩=>match U.get i with
    |some (.cells c el true tight) =>
     if 0<k/\k<=2 ^ 62/\el.ty=e/\o+k.toNat<=c.length then
      (match DI ((c.drop o).take k.toNat) with
      |some s=>some (.string s,U.upd i (.cells c el false tight))
      |none=>none) else none
    |_=>none
   |_=>none
  |_,_=>none
 |.strBytes e x=>match ev x with
  |.string s=>if s.size<=2 ^ 62 then some (.slice (some ⟨U.n,0,none⟩) s.size s.size,U.push (.cells (s.data.toList.map λb=>.int .u8 b.toNat) ⟨1,e⟩ true false)) else none
  |_=>none
 |.bytesStr x=>match ev x with
  |.slice a n c=>match U.sl 1 (.slice a n c) with
   |some xs=>match DI xs with|some s=>some (.string s,U)|none=>none
   |none=>none
  |_=>none
def FD (a b:Int):Int:=if b > a then b else a
theorem O3 (a b:Int):FD (FD a b) b=FD a b:=by unfold FD;(repeat' split)<;>omega
def Q6 (o:VOp) (ev:Operand->Value) (U:Heap):Option (Value×Heap) :=
 match o with
 |.move x=>some (ev x,U)
 |.pick c a b=>match ev c with|.bool t=>some (if t then ev a else ev b,U)|_=>none
 |.arith op x y=>match ev x,ev y with|.int k a,.int k' b=>if k=k' then some (.int k (Ti op k a b),U) else none|_,_=>none
 |.div op x y=>match ev x,ev y with|.int k a,.int k' b=>if k=k'/\b≠0 then some (.int k (Q39 op k a b),U) else none|_,_=>none
 |.bits op x y=>match ev x,ev y with|.int k a,.int k' b=>if k=k' then some (.int k (ZS op k a b),U) else none|_,_=>none
 |.shift op x y=>match ev x,ev y with|.int k a,.int _ b=>if 0<=b then some (.int k (Tg op k a b),U) else none|_,_=>none
 |.cmp op x y=>match ev x,ev y with|.int k a,.int k' b=>if k=k' then some (.bool (Q5w op a b),U) else none|_,_=>none
 |.str op x y=>match ev x,ev y with
  |.string a,.string b=>match op with
   |.add=>if a.size+b.size<=2 ^ 62 then some (.string (a++b),U) else none
   |.eql=>some (.bool (a.data.toList==b.data.toList),U)
   |.neq=>some (.bool (!(a.data.toList==b.data.toList)),U)
   |.lss=>some (.bool (Op.bytesLess a.data.toList b.data.toList),U)
   |_=>none
  |_,_=>none
 |.eqB neg x y=>match ev x,ev y with|.bool a,.bool b=>some (.bool (if neg then !(a==b) else (a==b)),U)|_,_=>none
 |.un op x=>match op,ev x with
  |.not,.bool b=>some (.bool (!b),U)
  |.neg,.int k n=>some (.int k (k.wrap (0-n)),U)
  |.xor,.int k n=>some (.int k (ZS .xor k (if k.signed then -1 else k.max) n),U)
  |_,_=>none
 |.convI k x=>match ev x with|.int _ n=>some (.int k (k.wrap n),U)|_=>none
 |.convS x=>match ev x with|.string s=>some (.string s,U)|_=>none
 |.alloc t z=>some (.pointer (some ⟨U.n,0,none⟩),U.push (.cells z ⟨z.length,t⟩ true true))
 |.box t x=>match YM (ev x) with
  |some vs=>some (.pointer (some ⟨U.n,0,none⟩),U.push (.cells vs ⟨vs.length,t⟩ true true))
  |none=>none
 |.build z parts=>match U8 z (parts.map λp=>(p.1,p.2.1,ev p.2.2)) with|some cs=>some (.agg cs.toArray,U)|none=>none
 |.buildSlice esz z len parts=>match U8 (BI len z) (parts.map λp=>(p.1*esz.sz,esz.sz,ev p.2)) with
  |some cs=>some (.slice (some ⟨U.n,0,none⟩) len len,U.push (.cells cs esz true true))
  |none=>none
 |.load agg size a=>match ev a with
  |.pointer (some ⟨g,o,some _⟩)=>(match Q03 g with
   |some c=>if c.all QM then (match X_ agg size c o with|some v=>some (v,U)|none=>none) else none
   |none=>none)
  |.pointer (some ⟨i,o,none⟩)=>match U.get i with
   |some (.cells c _ _ _)=>match X_ agg size c o with|some v=>some (v,U)|none=>none
   |_=>none
  |_=>none
 |.store size a v=>match ev a,YM (ev v) with
  |.pointer (some ⟨i,o,none⟩),some vs=>match U.get i with
   |some (.cells c e wr tight)=>if wr=true/\vs.length=size/\o+size<=c.length/\vs.all cellOk=true then some (undef,U.upd i (.cells (W_ c o vs) e wr tight)) else none
   |_=>none
  |_,_=>none
 |.fieldAddr off a=>match ev a with
  |.pointer (some ⟨i,o,none⟩)=>some (.pointer (some ⟨i,o+off,none⟩),U)
  |_=>none
 |.field agg off size x=>match ev x with
  |.agg cs=>match X_ agg size cs.toList off with|some v=>some (v,U)|none=>none
  |_=>none
 |.indexAddr size x i=>match ev x,ev i with
  |.slice (some ⟨b,o,none⟩) n _,.int _ k=>if 0<=k/\k<n then some (.pointer (some ⟨b,o+k.toNat*size,none⟩),U) else none
  |_,_=>none
 |.indexAddrArr len size x i=>match ev x,ev i with
  |.pointer (some ⟨g,o,some s⟩),.int _ k=>if 0<=k/\k<len then some (.pointer (some ⟨g,o+k.toNat*size,some s⟩),U) else none
  |.pointer (some ⟨b,o,none⟩),.int _ k=>if 0<=k/\k<len then some (.pointer (some ⟨b,o+k.toNat*size,none⟩),U) else none
  |_,_=>none
 |.indexStr x i=>match ev x,ev i with
  |.string s,.int _ k=>if 0<=k then (match s.data.toList[k.toNat]? with|some b=>some (.int .u8 b.toNat,U)|none=>none) else none
  |_,_=>none
 |.indexArr len agg size x i=>match ev x,ev i with
  |.agg cs,.int _ k=>if 0<=k/\k<len then (match X_ agg size cs.toList (k.toNat*size) with|some v=>some (v,U)|none=>none) else none
  |_,_=>none
 |.slice size x lo hi mx =>
  match ev x with
  |.slice a n cap =>
   match ZX ev lo 0,ZX ev hi n,mx with
   |some l,some h,none=>W5 size U (.slice a n cap) l h none
   |some l,some h,some _=>match ZX ev mx 0,hi with
    |some m,some _=>W5 size U (.slice a n cap) l h (some m)
    |_,_=>none
   |_,_,_=>none
  |_=>none
 |.sliceStr x lo hi =>
  match ev x with
  |.string s =>
   match ZX ev lo 0,ZX ev hi s.size with
   |some l,some h=>if l<=h/\h<=s.size then some (.string (s.extract l h),U) else none
   |_,_=>none
  |_=>none
 |.makeSlice esz bytes z l c =>
  match ev l,ev c with
  |.int _ a,.int _ b=>if 0<=a/\a<=b/\b*bytes<=2 ^ 46/\b<=2 ^ 46 then some (.slice (some ⟨U.n,0,none⟩) a.toNat b.toNat,U.push (.cells (BI b.toNat z) esz true true)) else none
  |_,_=>none
 |.len x=>match ev x with
  |.slice _ n _=>some (.int .i64 n,U)
  |_=>none
 |.lenStr x=>match ev x with
  |.string s=>some (.int .i64 s.size,U)
  |_=>none
 |.append esz bytes s x =>
  match U.sl esz.sz (ev x),ev x with
  |some xs,.slice _ m _=>if xs.all cellOk then Y0 esz bytes U (ev s) m xs else none
  |_,_=>none
 |.max4 x y z w=>match ev x,ev y,ev z,ev w with|.int k a,.int k2 b,.int k3 c,.int k4 d=>if k=k2/\k=k3/\k=k4 then some (.int k (FD (FD (FD a b) c) d),U) else none|_,_,_,_=>none
 |.max x y=>match ev x,ev y with|.int k a,.int k' b=>if k=k' then some (.int k (if b > a then b else a),U) else none|_,_=>none
 |.min x y=>match ev x,ev y with|.int k a,.int k' b=>if k=k' then some (.int k (if b<a then b else a),U) else none|_,_=>none
 |.makeFunc fn first cap=>some (.func fn (first.map ev).toArray (cap.map ev).toArray,U)
 |.iface t x=>match ev x with|.chan _=>none|v=>some (.iface t v,U)
 |.extract x i=>match ev x with
  |.tuple vs=>match vs.toList[i]? with|some v=>some (v,U)|none=>none
  |_=>none
 |.nilCheck x=>match ev x with
  |.pointer (some a)=>some (.pointer (some a),U)
  |.func (.func f) first cap=>some (.func (.func f) first cap,U)
  |_=>none
 |.ext o=>Zd o ev U
 |.callF ..|.callV ..|.bad=>none
def Q_ {α:Type}(o:Option α) (f:α->Prop):Prop:=match o with|some a=>f a|none=>False
def vif (b:Bool) (A B:Prop):Prop:=(b=true->A)/\(b=false->B)
def I3 (v:Value) (A B:Prop):Prop:=match v with|.bool t=>vif t A B|_=>False
abbrev PN:=List Value->Heap->(Value->Heap->Prop)->Prop
structure VSpecs where
 fn:FuncId->Option PN
 yl:Nat->Option PN
 it:FuncId->Option (Nat->PN->PN)
def vcall (S:VSpecs) (f:FuncId) (args:List Value) (U:Heap) (K:Value->Heap->Prop):Prop :=
 match S.fn f with
 |some s=>s args U K
 |none=>False
def Ee (S:VSpecs) (i:Nat) (args:List Value) (U:Heap) (K:Value->Heap->Prop):Prop :=
 match S.yl i with
 |some s=>s args U K
 |none=>False
def Cc (x:Value) (U:Heap) (K:Value->Heap->Prop):Prop :=
 match x with
 |.pointer (some ⟨i,0,none⟩)=>match U.get i with
  |some (.obj (.iter m since seen last) true)=>match U.mapAt m with
   |some (es,clock,_)=>(seen.isEmpty||es.isEmpty||es.any (λe=>decide (e.2.2<last)))=true/\es.all (λe=>Kt e.1)=true /\
     (es.all (λe=>seen.contains e.2.2||decide (since<=e.2.2))=true->K (.tuple #[.bool false]) U) /\
     ∀ e∈es,seen.contains e.2.2=false->K (.tuple #[.bool true,e.1,e.2.1]) (U.upd i (.obj (.iter m since (seen++[e.2.2]) clock) true))
   |none=>False
  |_=>False
 |_=>False
def JK (env:Env) (d:Option Nat) (v:Value):Env :=
 match d with
 |some d=>env.set d v
 |none=>env
def vop (S:VSpecs) (o:VOp) (env:Env) (U:Heap) (K:Value->Heap->Prop):Prop :=
 match o with
 |.callF f args=>vcall S f (args.map (Q5 env)) U K
 |.callV f args=>match Q5 env f with
  |.func (.func g) first cap=>vcall S g (first.toList++args.map (Q5 env)++cap.toList) U K
  |.func (.yield i) _ _=>Ee S i (args.map (Q5 env)) U K
  |_=>False
 |.ext (.nextMap x)=>Cc (Q5 env x) U K
 |o=>Q_ (Q6 o (Q5 env) U) λp=>K p.1 p.2
def ZY (env:Env):Option (Nat×Bool)->Option Bool
 |none=>some true
 |some (d,want)=>match env.getD d undef with
  |.bool b=>some (b==want)
  |.tuple _=>some false
  |_=>none
def T0 (S:VSpecs):List VOper->Env->Heap->(Env->Heap->Prop)->Prop
 |[],env,U,K=>K env U
 |o::rest,env,U,K=>Q_ (ZY env o.guard) λb =>
   vif b (vop S o.op env U λv U'=>T0 S rest (JK env o.dst v) U' K) (T0 S rest (JK env o.dst undef) U K)
def EW:Value->Bool
 |.bool _|.int _ _|.string _|.pointer none|.slice none 0 0|.map none|.nilFunc|.nilIface=>true
 |.tuple vs=>vs.toList.all QM
 |_=>false
def Heap.Le (U U':Heap):Prop:=U.n<=U'.n/\∀ i b,U.get i=some b->U'.get i=some b
def GD (A:(Value->Heap->Prop)->Prop) (R:Value->Heap->Prop):Prop:=∃ v U',A (λv' aH=>v'=v/\aH=U')/\R v U'
def JC (op:VOp) (ev:Operand->Value) (v:Value) (Z:Heap):Prop:=Q_ (Q6 op ev Z) λq=>q.1=v
def Jz (r:Nat) (U:Heap):List (Nat×(Heap->Prop))->Prop
 |[]=>True
 |c::l=>(r<=c.1->c.2 U)/\Jz r U l
def waits:List Nat->List DOper->Bool
 |_,[]=>true
 |xs,o::r=>((o.kind==2)||(FH o.op.opds++(o.guard.map (·.1)).toList).any (λx=>xs.contains x))&&waits (o.dst.toList++xs) r
def Zr (S:VSpecs):List DOper->Env->List Heap->Heap->List (Nat×(Heap->Prop))->(Env->Heap->Prop)->Prop
 |[],env,_,U,_,K=>K env U
 |o::rest,env,hs,U,pend,K=>Q_ (ZY env o.guard) λb =>
   vif b (if o.kind=2 then (GD (λR=>vop S o.op env U R) λv U'=>Jz hs.length U' pend/\Zr S rest (JK env o.dst v) (hs++[U']) U' pend K) \/
      (waits o.dst.toList rest=true/\vop S o.op env U λv U'=>Jz hs.length U' pend/\Zr S rest (JK env o.dst v) (hs++[U']) U' pend K)
     else if o.kind=1 then Q_ (Q6 o.op (Q5 env) U) λp=>(∀ Z∈hs.drop o.kmin,JC o.op (Q5 env) p.1 Z) /\
      Zr S rest (JK env o.dst p.1) hs U (if hs.length<=o.kmax then (o.kmax,JC o.op (Q5 env) p.1)::pend else pend) K
     else Q_ (Q6 o.op (Q5 env) U) λp=>Zr S rest (JK env o.dst p.1) hs U pend K)
    (if o.kind=2 then Jz hs.length U pend/\Zr S rest (JK env o.dst undef) (hs++[U]) U pend K else Zr S rest (JK env o.dst undef) hs U pend K)
def DropE (σ0:Heap) (env:Env) (U:Heap) (ae:Env) (U':Heap):Prop :=
 ∀ ρ0 w0 ρ w cs,HRel ρ0 σ0 w0->Ext ρ0 σ0 w0 ρ U w->HRel ρ U w->LRel ρ U.n env cs->∃ ρ',LRel ρ' U'.n ae cs/\HRel ρ' U' w/\Ext ρ0 σ0 w0 ρ' U' w
theorem DropE.refl (σ0:Heap) (env:Env) (U:Heap):DropE σ0 env U env U:=λ_ _ ρ _ _ _ hE hH hL=>⟨ρ,hL,hH,hE⟩
def N8 (S:VSpecs):List DSeg->Env->Heap->(Env->Heap->Prop)->Prop
 |[],env,U,K=>K env U
 |.one o::rest,env,U,K=>T0 S [o] env U λenv U=>N8 S rest env U K
 |.alts l::rest,env,U,K=>∀ ops∈l,Zr S ops env [U] U [] λa7 σ1=>∃ aM σ2,DropE U a7 σ1 aM σ2/\N8 S rest aM σ2 K
def Bp (live:List Nat) (env:Env):List Value:=live.map λi=>env.getD i poison
def Xn:List Nat->List Value->Env->Env
 |i::l,v::vs,env=>Xn l vs (env.set i v)
 |_,_,env=>env
def Q75 (W:(Exit->Env->Heap->Prop)->Env->Heap->Prop) (Q:Exit->Env->Heap->Prop) (env:Env) (U:Heap):Prop :=
 ∃ (live:List Nat) (I:Nat->List Value->Heap->Prop) (n0:Nat),I n0 (Bp live env) U /\
  ∀ n vs U',I n vs U'->W (λe ae aH=>match e with
   |.normal=>∃ n',n'<n/\I n' (Bp live ae) aH
   |e=>Q e ae aH) (Xn live vs (List.replicate env.length poison)) U'
def Q82 (R:Env->Heap->Prop) (Q:Exit->Env->Heap->Prop):Exit->Env->Heap->Prop
 |.normal,env,U=>R env U
 |e,env,U=>Q e env U
def AH (id:Nat) (Q:Exit->Env->Heap->Prop):Exit->Env->Heap->Prop
 |.exit gR,env,U=>if gR=id then Q .normal env U else Q (.exit gR) env U
 |e,env,U=>Q e env U
def H9:Env->List Nat->List Value->Env
 |env,p::ps,v::vs=>H9 (env.set p v) ps vs
 |env,_,_=>env
def Q4v (env:Env) (r:Loop) (i:Nat) (K:Value->Heap->Prop):Exit->Env->Heap->Prop:=λe _ U =>
 U.get i=some (.obj (.lp env r .busy none) true)/\match e with
  |.normal=>K (.bool true) (U.upd i (.obj (.lp env r .ready none) true))
  |.ret=>K (.bool false) (U.upd i (.obj (.lp env r .done (some .ret)) true))
  |.exit id=>K (.bool false) (U.upd i (.obj (.lp env r .done (some (.exit id))) true))
  |_=>False
def Al (A B:(Exit->Env->Heap->Prop)->Env->Heap->Prop) (ps:List Nat) (env:Env) (r:Loop) (i:Nat):PN:=λargs U K =>
 U.get i=some (.obj (.lp env r .ready none) true)/\args.length=ps.length /\
  A (Q82 (λa7 σ1=>σ1.get i=some (.obj (.lp env r .ready none) true)/\B (Q4v env r i K) a7 (σ1.upd i (.obj (.lp env r .busy none) true))) (λ_ _ _=>False)) (H9 env ps args) U
def Q0g (Q:Exit->Env->Heap->Prop) (env:Env) (i:Nat):Value->Heap->Prop:=λ_ U =>
 match U.get i with
 |some (.obj (.lp _ _ st pend) true)=>st≠.busy/\match pend with
  |none=>Q .normal env (U.kill i)
  |some .ret=>Q .ret env (U.kill i)
  |some (.exit id)=>Q (.exit id) env (U.kill i)
  |some _=>False
 |_=>False
def Q8m (U:Heap):Option Nat->Prop
 |none=>True
 |some i=>∃ env r st pend,U.get i=some (.obj (.lp env r st pend) true)
def SP (S:VSpecs) (ro:Option Nat) (A B:Option Nat->(Exit->Env->Heap->Prop)->Env->Heap->Prop) (g:Value) (ps:List Nat) (Q:Exit->Env->Heap->Prop) (env:Env) (U:Heap):Prop :=
 match g with
 |.func (.func f) first cap=>match S.it f with
  |some T=>Q8m U ro/\∀ r:Loop,T U.n (Al (A (some U.n)) (B (some U.n)) ps env r U.n) (first.toList++[.func (.yield U.n) #[] #[]]++cap.toList) (U.push (.obj (.lp env r .ready none) true)) (Q0g Q env U.n)
  |none=>False
 |_=>False
def vwp (S:VSpecs):VCode->Option Nat->(Exit->Env->Heap->Prop)->Env->Heap->Prop
 |.skip,_,Q,env,U=>Q .normal env U
 |.region ops,_,Q,env,U=>T0 S ops env U λenv U=>Q .normal env U
 |.regionD aO,_,Q,env,U=>N8 S aO env U λenv U=>Q .normal env U
 |.seq a b,ro,Q,env,U=>vwp S a ro (Q82 (vwp S b ro Q) Q) env U
 |.cond c a b,ro,Q,env,U=>I3 (Q5 env c) (vwp S a ro Q env U) (vwp S b ro Q env U)
 |.block id b,ro,Q,env,U=>vwp S b ro (AH id Q) env U
 |.loop b,ro,Q,env,U=>Q75 (vwp S b ro) Q env U
 |.rangeF g ps a b,ro,Q,env,U=>SP S ro (vwp S a) (vwp S b) (Q5 env g) ps Q env U
 |.exit id,_,Q,env,U=>Q (.exit id) env U
 |.ret,_,Q,env,U=>Q .ret env U
 |.bad,_,_,_,_=>False
inductive VResult where
 |tmp (t:Nat)
 |cell (a:Nat) (agg:Bool) (size:Nat)
def Jq (P:Program):ResultVar->Option VResult
 |.tmp t=>some (.tmp t)
 |.cell a t =>
  match P.info? t,P.underlying t with
  |some i,some d=>some (.cell a (Vu d) i.size)
  |_,_=>none
def Vs (P:Program) (rs:List ResultVar):Option (List VResult):=rs.mapM (Jq P)
def Jg (env:Env) (U:Heap):VResult->Option Value
 |.tmp t=>some (env.getD t undef)
 |.cell a agg size=>(Q6 (.load agg size (.tmp a)) (Q5 env) U).map (·.1)
def JM (env:Env) (U:Heap) (rs:List VResult):Option Value :=
 match rs with
 |[r]=>Jg env U r
 |rs=>(rs.mapM (Jg env U)).map λvs=>.tuple vs.toArray
def Q5p (rs:List VResult) (R:Value->Heap->Prop):Exit->Env->Heap->Prop
 |.normal,env,U|.ret,env,U=>Q_ (JM env U rs) λv=>R v U
 |_,_,_=>False
theorem X2 (b:Nat):∀ (vs:List Value) (o:Nat) (w:World) (k:Nat),k≠b->(w.setCells b o vs).heap[k]?=w.heap[k]?
 |[],_,_,_,_=>rfl
 |v::r,o,w,k,h=>by
  rw[World.setCells,X2 b r (o+1) _ k h]
  grind [heap_setCell_other]
theorem XL (b:Nat):∀ (vs:List Value) (o:Nat) (w:World),(w.setCells b o vs).heap.size=w.heap.size
 |[],_,_=>rfl
 |v::r,o,w=>by rw[World.setCells,XL b r];exact World.size_setCell w _ _
theorem NY (b:Nat):∀ (vs:List Value) (o:Nat) (w:World),(w.setCells b o vs).os=w.os/\(w.setCells b o vs).tape=w.tape/\(w.setCells b o vs).output=w.output
 |[],_,_=>⟨rfl,rfl,rfl⟩
 |v::r,o,w=>by rw[World.setCells];exact NY b r (o+1) _
theorem Kw (b:Nat):∀ (vs:List Value) (o:Nat) (w:World) (C:Array Value) (e:TypeId) (f:Nat×Nat),w.heap[b]?=some (.cells C e f) ->
  ∃ C',(w.setCells b o vs).heap[b]?=some (.cells C' e f)/\C'.size=C.size
 |[],_,_,C,_,_,h=>⟨C,h,rfl⟩
 |v::r,o,w,C,e,f,h=>by
  have h1:(w.setCell ⟨b,o,none⟩ v).heap[b]?=some (.cells (C.setIfInBounds o v) e f):=by simp only[World.setCell,Array.getElem?_modify,zB,h];simp
  obtain⟨C',h2,h3⟩:=Kw b r (o+1) _ _ e f h1;exact⟨C',by rw[World.setCells];exact h2,by rw[h3];simp⟩
theorem Xm (vs:List Value):∀ (c:List Value) (o:Nat),(W_ c o vs).length=c.length:=by
 induction vs with
 |nil=>intro c o;rfl
 |cons v r ih=>intro c o;rw[W_,ih];simp
theorem Kd (vs:List Value):∀ (c:List Value) (o k:Nat),(k<o\/o+vs.length<=k)->(W_ c o vs)[k]?=c[k]?:=by
 induction vs with
 |nil=>intro c o k _;rfl
 |cons v r ih =>intro c o k h;rw[W_,ih _ _ _ (by simp at h;omega),List.getElem?_set_ne (by simp at h;omega)]
theorem RA (vs:List Value):∀ (c:List Value) (o k:Nat),o+vs.length<=c.length->k<vs.length->(W_ c o vs)[o+k]?=vs[k]?:=by
 induction vs with
 |nil=>intro c o k _ h;simp at h
 |cons v r ih =>
  intro c o k h hk;simp at h hk;cases k with
  |zero=>rw[W_,Kd _ _ _ _ (by left;omega),zN,List.getElem?_set_self (by omega)];rfl
  |succ k =>rw[W_,show o+(k+1)=o+1+k by omega,ih _ _ _ (by simp;omega) (by omega)];simp
theorem BRel.q0t {ρ:Plc}{n:Nat}{p:Pl}{w:World}{c:List Value}{esz:El}{wr tight:Bool}(h:BRel ρ n p w (.cells c esz wr tight)) (k:Nat) (hk:k<p.ext):(w.cell? ⟨p.blk,p.shift+k,none⟩).isSome=true:=by
 obtain⟨_,_,_,⟨C,e,f,h1,h2⟩,_⟩:=h;have h3:p.shift+k<C.size:=by omega
 simp[World.cell?,h1,h3]
theorem BRel.other {ρ ρ':Plc}{n n':Nat}{q:Pl}{w w':World}{b:Blk}(hn:n<=n') (hρ:∀ i,i<n->∀ p,ρ' i=some p->ρ i=some p) (B:Nat) (C:Array Value) (e:TypeId) (f:Nat×Nat) (hB:w.heap[B]?=some (.cells C e f))
  (aJ:0<q.ext->B≠q.blk) (hC:∃ C' f',w'.heap[B]?=some (.cells C' e f')/\C.size<=C'.size) (ho:∀ k,k≠B->k<w.heap.size->w'.heap[k]?=w.heap[k]?) (hq:q.blk<w.heap.size) (h:BRel ρ n q w b):BRel ρ' n' q w' b:=by
 by_cases hk:q.blk=B
 .have h0:q.ext=0:=by
   omega
  cases b with
  |cells c esz wr tight =>
   obtain⟨h1,h2,h3,⟨C0,e0,f0,h4,iH⟩,h5,h6⟩:=h;have hc:c=[]:=xu.1 (by omega);obtain⟨C',f',mL,pY⟩:=hC;have tL:C0=C/\e0=e:=by simp_all
   obtain⟨rfl,rfl⟩:=tL;refine⟨h1,h2,by omega,(by grind),λk v hv=>by simp[hc] at hv,(by simp_all)⟩
  |obj o wr=>have:=h.1;omega
 .exact h.mono hn hρ (ho _ hk hq)
theorem HRel0.store {ρ:Plc}{U:Heap}{w:World}(h:HRel0 ρ U w) {i:Nat}{p:Pl}{c:List Value}{esz:El}{tight:Bool}(hp:ρ i=some p) (hb:U.get i=some (.cells c esz true tight))
  {o:Nat}{vs cs:List Value}(hv:LRel ρ U.n vs cs) (ho:o+vs.length<=c.length) :
  HRel0 ρ (U.upd i (.cells (W_ c o vs) esz true tight)) (w.setCells p.blk (p.shift+o) cs)/\Ext ρ U w ρ (U.upd i (.cells (W_ c o vs) esz true tight)) (w.setCells p.blk (p.shift+o) cs):=by
 have hi:=U.lt hb;obtain⟨p',bh,hB⟩:=h.live i _ hb;obtain rfl:p=p':=osj (hp.symm.trans bh);obtain⟨h1,h2,h3,⟨C,e,f,h4,iH⟩,h5,h6⟩:=hB;obtain⟨C',mL,pY⟩:=Kw p.blk cs (p.shift+o) w C e f h4;have cf:vs.length=cs.length:=hv.1;refine⟨⟨λj b hj=>?_,λj hj=>?_,λj q hq=>by rw[XL];exact h.lt j q hq,λj k q r b dO hq hr bS hw hx=>?_⟩,?_⟩
 .by_cases aI:j=i
  .subst aI;rw[Heap.q0c _ _ hi] at hj;obtain rfl:=osj hj;refine⟨p,hp,h1,h2,by rw[Xm];exact h3,⟨C',e,f,mL,by omega,iH.2⟩,λk v hk=>?_,(by grind [World.frozen?_setCells])⟩;have cI:k<c.length:=by grind [List.getElem?_eq_some_iff,Xm]
   by_cases bt:k<o\/o+vs.length<=k
   .rw[Kd _ _ _ _ bt] at hk;obtain⟨u,hu,cr⟩:=h5 k v hk;exact⟨u,by grind [World.cell?_setCells_out],cr⟩
   .have fM:k=o+(k-o):=by omega
    rw[fM,RA _ _ _ _ ho (by omega)] at hk;obtain⟨u,hu,cr⟩:=hv.get hk;have pZ:k-o<cs.length:=(zu.1 hu).1;refine⟨u,?_,cr⟩;have:=World.cell?_setCells_in p.blk cs (p.shift+o) w (λj hj=>by
     rw[zz];exact BRel.q0t (ρ:=ρ) (n:=U.n) ⟨h1,h2,h3,⟨C,e,f,h4,iH⟩,h5,h6⟩ _ (by omega)) (k-o) pZ
    grind
  .rw[Heap.q0b _ _ aI] at hj;obtain⟨q,hq,eL⟩:=h.live j b hj;refine⟨q,hq,eL.other (by exact zd _) (λ_ _ _ h=>h) p.blk C e f h4 (λhx=>h.sep i j p q _ (Ne.symm aI) hp hq hb rfl hx) ⟨C',f,mL,by omega⟩ (by grind [X2]) (h.lt j q hq)⟩
 .by_cases aI:j=i
  .grind [Heap.q0c]
  .rw[Heap.q0b _ _ aI] at hj;exact h.dead j hj
 .by_cases aI:j=i
  .subst aI;exact h.sep j k q r _ dO hq hr hb rfl hx
  .rw[Heap.q0b _ _ aI] at bS;exact h.sep j k q r b dO hq hr bS hw hx
 .obtain⟨e1,e2,e3⟩:=NY p.blk cs (p.shift+o) w;refine⟨e1,e2,e3,by rw[XL];exact zd _,λB hB hW=>X2 _ _ _ _ _ (λe=>hW ⟨i,p,_,hp,hb,rfl,e.symm⟩),?_,zd _,λ_ _ _ h=>h⟩;rintro B _ ⟨j,q,b,hq,bD,hw,rfl⟩;by_cases aI:j=i
  .subst aI;exact⟨j,q,_,hq,hb,rfl,rfl⟩
  .rw[Heap.q0b _ _ aI] at bD;exact⟨j,q,b,hq,bD,hw,rfl⟩
theorem HRel0.onto {ρ:Plc}{U:Heap}{w:World}(h:HRel0 ρ U w) {i:Nat}{p:Pl}{c:List Value}{esz:El}(hp:ρ i=some p) (hb:U.get i=some (.cells c esz true false))
  (o':Nat) {bn vs cs:List Value}(hold:∀ k v,bn[k]?=some v->∃ u,w.cell? ⟨p.blk,p.shift+o'+k,none⟩=some u/\VRel ρ U.n v u) (hv:LRel ρ U.n vs cs) (ho:o'+bn.length+vs.length<=p.ext) :
  ∃ ρ',ρ' U.n=some ⟨p.blk,p.shift+o',p.ext-o',esz,false⟩/\HRel0 ρ' ((U.kill i).push (.cells (bn++vs) esz true false)) (w.setCells p.blk (p.shift+o'+bn.length) cs) /\
   Ext ρ U w ρ' ((U.kill i).push (.cells (bn++vs) esz true false)) (w.setCells p.blk (p.shift+o'+bn.length) cs):=by
 have hi:=U.lt hb;obtain⟨p',bh,hB⟩:=h.live i _ hb;obtain rfl:p=p':=osj (hp.symm.trans bh);have de:=hB;obtain⟨h1,h2,h3,⟨C,e,f,h4,iH⟩,h5,h6⟩:=hB;obtain⟨C',mL,pY⟩:=Kw p.blk cs (p.shift+o'+bn.length) w C e f h4;have cf:vs.length=cs.length:=hv.1;let P':Pl:=⟨p.blk,p.shift+o',p.ext-o',esz,false⟩;let ρ':Plc:=(ρ.put i none).put U.n (some P');have gS:ρ' U.n=some P':=by simp[ρ',Plc.put]
 have f_:ρ' i=none:=by simp only[ρ',Plc.put];rw[z6 (by omega)];simp
 have fj:∀ j,j≠U.n->j≠i->ρ' j=ρ j:=λj h1 h2=>by simp[ρ',Plc.put,h1,h2]
 have aN:∀ j,j<U.n->∀ q,ρ' j=some q->ρ j=some q:=(by grind);refine⟨ρ',gS,⟨λj b hj=>?_,λj hj=>?_,λj q hq=>?_,λj k q r b dO hq hr bS hw hx=>?_⟩,?_⟩
 .by_cases aK:j=U.n
  .subst aK;have iI:((U.kill i).push (.cells (bn++vs) esz true false)).get U.n=some (.cells (bn++vs) esz true false):=Heap.q0a (U.kill i) _;rw[iI] at hj;obtain rfl:=osj hj;refine⟨P',gS,rfl,rfl,by simp[P'];omega,(by grind),λk v hk=>?_,λ_=>⟨(λh=>by cases h),λk hk=>?_⟩⟩
   .by_cases bt:k<bn.length
    .rw[x8 bt] at hk;obtain⟨u,hu,cr⟩:=hold k v hk;exact⟨u,by grind [World.cell?_setCells_out],cr.mono (by simp) aN⟩
    .rw[xj (by omega)] at hk;obtain⟨u,hu,cr⟩:=hv.get hk;have pZ:k-bn.length<cs.length:=(zu.1 hu).1;refine⟨u,?_,cr.mono (by simp) aN⟩;have:=World.cell?_setCells_in p.blk cs (p.shift+o'+bn.length) w (λj hj=>by
      rw[zz,zz];exact de.q0t _ (by omega)) (k-bn.length) pZ
     grind
   grind [World.frozen?_setCells]
  .have cy:(U.kill i).get j=some b:=by rw[<-hj];exact(Heap.q0e (U.kill i) _ aK).symm
   by_cases aI:j=i
   .grind [Heap.q0h]
   .rw[Heap.q0d _ aI] at cy;obtain⟨q,hq,eL⟩:=h.live j b cy;exact⟨q,by rw[fj j aK aI];exact hq,eL.other (by simp) aN p.blk C e f h4 (λhx=>h.sep i j p q _ (Ne.symm aI) hp hq hb rfl hx) ⟨C',f,mL,by omega⟩ (by grind [X2]) (h.lt j q hq)⟩
 .by_cases aK:j=U.n
  .subst aK;have iI:((U.kill i).push (.cells (bn++vs) esz true false)).get U.n=some (.cells (bn++vs) esz true false):=Heap.q0a (U.kill i) _;rw[iI] at hj;cases hj
  .have cy:(U.kill i).get j=none:=by rw[<-hj];exact(Heap.q0e (U.kill i) _ aK).symm
   by_cases aI:j=i
   .subst aI;exact f_
   .rw[Heap.q0d _ aI] at cy;rw[fj j aK aI];exact h.dead j cy
 .rw[XL];by_cases aK:j=U.n
  .grind
  .by_cases aI:j=i
   .subst aI;rw[f_] at hq;cases hq
   .rw[fj j aK aI] at hq;exact h.lt j q hq
 .by_cases aK:j=U.n
  .subst aK;rw[gS] at hq;obtain rfl:=osj hq;by_cases kp:k=i
   .subst kp;rw[f_] at hr;cases hr
   .rw[fj k (Ne.symm dO) kp] at hr;exact h.sep i k p r _ (Ne.symm kp) hp hr hb rfl hx
  .have bF:(U.kill i).get j=some b:=by rw[<-bS];exact(Heap.q0e (U.kill i) _ aK).symm
   by_cases aI:j=i
   .subst aI;rw[f_] at hq;cases hq
   rw[Heap.q0d _ aI] at bF;rw[fj j aK aI] at hq;by_cases iT:k=U.n
   .subst iT;rw[gS] at hr;obtain rfl:=osj hr;have sG:0<p.ext:=by simp[P'] at hx;omega
    exact h.sep j i q p b aI hq hp bF hw sG
   .by_cases kp:k=i
    .subst kp;rw[f_] at hr;cases hr
    .rw[fj k iT kp] at hr;exact h.sep j k q r b dO hq hr bF hw hx
 .obtain⟨e1,e2,e3⟩:=NY p.blk cs (p.shift+o'+bn.length) w;refine⟨e1,e2,e3,by rw[XL];exact zd _,λB hB hW=>X2 _ _ _ _ _ (λe=>hW ⟨i,p,_,hp,hb,rfl,e.symm⟩),?_,by simp,aN⟩;rintro B _ ⟨j,q,b,hq,bD,hw,rfl⟩;by_cases aK:j=U.n
  .subst aK;rw[gS] at hq;obtain rfl:=osj hq;exact⟨i,p,_,hp,hb,rfl,rfl⟩
  .have bF:(U.kill i).get j=some b:=by rw[<-bD];exact(Heap.q0e (U.kill i) _ aK).symm
   by_cases aI:j=i
   .subst aI;rw[f_] at hq;cases hq
   rw[Heap.q0d _ aI] at bF;rw[fj j aK aI] at hq;exact⟨j,q,b,hq,bF,hw,rfl⟩
section
variable {ρ:Plc}{U:Heap}{w:World}
theorem HRel.store (h:HRel ρ U w) {i:Nat}{p:Pl}{c:List Value}{esz:El}{tight:Bool}(hp:ρ i=some p) (hb:U.get i=some (.cells c esz true tight))
  {o:Nat}{vs cs:List Value}(hv:LRel ρ U.n vs cs) (ho:o+vs.length<=c.length) :
  HRel ρ (U.upd i (.cells (W_ c o vs) esz true tight)) (w.setCells p.blk (p.shift+o) cs)/\Ext ρ U w ρ (U.upd i (.cells (W_ c o vs) esz true tight)) (w.setCells p.blk (p.shift+o) cs) :=
 let ⟨h2,h3⟩:=h.core.store hp hb hv ho
 ⟨h.ext h2 h3,h3⟩
theorem HRel.onto (h:HRel ρ U w) {i:Nat}{p:Pl}{c:List Value}{esz:El}(hp:ρ i=some p) (hb:U.get i=some (.cells c esz true false))
  (o':Nat) {bn vs cs:List Value}(hold:∀ k v,bn[k]?=some v->∃ u,w.cell? ⟨p.blk,p.shift+o'+k,none⟩=some u/\VRel ρ U.n v u) (hv:LRel ρ U.n vs cs) (ho:o'+bn.length+vs.length<=p.ext) :
  ∃ ρ',ρ' U.n=some ⟨p.blk,p.shift+o',p.ext-o',esz,false⟩/\HRel ρ' ((U.kill i).push (.cells (bn++vs) esz true false)) (w.setCells p.blk (p.shift+o'+bn.length) cs) /\
   Ext ρ U w ρ' ((U.kill i).push (.cells (bn++vs) esz true false)) (w.setCells p.blk (p.shift+o'+bn.length) cs) :=
 let ⟨ρ',h1,h2,h3⟩:=h.core.onto hp hb o' hold hv ho
 ⟨ρ',h1,h.ext h2 h3,h3⟩
end
end Go.V
namespace Go.V
open Go
structure Like (ρ:Plc) (w w':World):Prop where
 size:w.heap.size<=w'.heap.size
 blk:∀ i p,ρ i=some p->w'.heap[p.blk]?=w.heap[p.blk]?
 tab:∀ g cs,Q03 g=some cs->w'.heap[g]?=w.heap[g]?
theorem Like.refl (ρ:Plc) (w:World):Like ρ w w:=⟨zd _,λ_ _ _=>rfl,λ_ _ _=>rfl⟩
section inv
variable {ρ:Plc}{n:Nat}{c:Value}
theorem VRel.q0g {k:IntKind}{x:Int}(h:VRel ρ n (.int k x) c):c=.int k x:=by cases h;rfl
theorem VRel.q1c {b:Bool}(h:VRel ρ n (.bool b) c):c=.bool b:=by cases h;rfl
theorem VRel.q0n {s:ByteArray}(h:VRel ρ n (.string s) c):c=.string s:=by cases h;rfl
theorem VRel.q1k {l k:Nat}(h:VRel ρ n (.slice none l k) c):l=0/\k=0/\c=.slice none 0 0:=by cases h;exact⟨rfl,rfl,rfl⟩
theorem VRel.q0w {i o:Nat}{p:Pl}(hp:ρ i=some p) (h:VRel ρ n (.pointer (some ⟨i,o,none⟩)) c):(none:Option Nat)=none/\i<n/\c=.pointer (some ⟨p.blk,p.shift+o,none⟩):=by
 cases h with
 |ptr _ _ a hi h=>exact⟨rfl,hi,by rw[h p hp]⟩
theorem VRel.q1i {cs:Array Value}(h:VRel ρ n (.agg cs) c):∃ ds:Array Value,c=.agg ds/\LRel ρ n cs.toList ds.toList:=by
 cases h with
 |agg _ ds hc h=>exact⟨ds,rfl,LRel.of_array hc h⟩
theorem VRel.q1j {cs:Array Value}(h:VRel ρ n (.tuple cs) c):∃ ds:Array Value,c=.tuple ds/\LRel ρ n cs.toList ds.toList:=by
 cases h with
 |tuple _ ds hc h=>exact⟨ds,rfl,LRel.of_array hc h⟩
end inv
theorem X1 {ρ:Plc}{n:Nat}{v:Value}(h:QM v=true):VRel ρ n v v:=by unfold QM at h;split at h<;>first|constructor|cases h
theorem JJ {ρ:Plc}{n:Nat}{l:List Value}(h:l.all QM=true):LRel ρ n l l:=by
 refine⟨rfl,λi v c hv hc=>?_⟩
 grind [osj,X1,List.all_eq_true,List.mem_of_getElem?]
theorem V2 {ρ:Plc}{n:Nat}{v:Value}(h:Kt v=true):VRel ρ n v v:=by
 unfold Kt at h;split at h
 .rename_i cs;have:=VRel.q1m (JJ (ρ:=ρ) (n:=n) h);simpa using this
 .rename_i cs;have:=VRel.q0i (JJ (ρ:=ρ) (n:=n) h);simpa using this
 .exact X1 h
theorem Jl {ρ:Plc}{n:Nat}:VRel ρ n undef undef:=V2 rfl
theorem XX {ρ:Plc}{n:Nat}{env:Env}{a:Act}(h:LRel ρ n env a.tmps.toList) {x:Operand}(hx:JL x=true):VRel ρ n (Q5 env x) (a.eval x):=by
 cases x with
 |tmp t =>
  simp only[Q5,Act.eval];have e:List.length env=a.tmps.size:=by have:=h.1;omega
  rcases zn t (List.length env) with ht|ht
  .have qv:t<a.tmps.size:=by rw[<-e];exact ht
   have:=h.2 t env[t] a.tmps[t] (z8 ht) (by simp[qv]);simp_all
  .grind [Nat.not_lt,List.getElem?_eq_none,Jl]
 |const v=>exact V2 hx
 |global g=>exact .glob g 0 0
 |func f=>exact .func _ #[] #[] #[] #[] rfl rfl (λi h1=>by simp at h1) (λi h1=>by simp at h1)
theorem Pg {ρ:Plc}{w w':World}(hl:Like ρ w w') {i:Nat}{p:Pl}(hp:ρ i=some p) (o:Nat):w'.cell? ⟨p.blk,o,none⟩=w.cell? ⟨p.blk,o,none⟩ :=
 World.cell?_of_block (a:=⟨p.blk,o,none⟩) (hl.blk i p hp)
section
variable {P:Program}{ρ:Plc}{U:Heap}{w:World}
theorem KE {t:TypeId}{d:TypeDesc}(h:P.underlying t=some d) (w:World):(isAgg t).run P w=.ok (Vu d) w:=by cases d<;>simp[isAgg,run_underlying h,Vu]
theorem Qd {t:TypeId}{i:TypeInfo}(h:P.info? t=some i) (w:World):(sizeOf t).run P w=.ok i.size w:=by simp[sizeOf,run_typeInfo w h]
theorem Xb (b o n:Nat):(⟨b,o,none⟩:Addr).add n=⟨b,o+n,none⟩:=by unfold Addr.add;split<;>simp_all
theorem AU (hH:HRel ρ U w) {t:TypeId}{ti:TypeInfo}{d:TypeDesc}(h1:P.info? t=some ti) (h2:P.underlying t=some d) {i o:Nat}{c:List Value}{esz:El}{wr tight:Bool}{v x:Value}
  (hb:U.get i=some (.cells c esz wr tight)) (hv:X_ (Vu d) ti.size c o=some v) (hx:VRel ρ U.n (.pointer (some ⟨i,o,none⟩)) x) :
  ∃ u,VRel ρ U.n v u/\∀ w',Like ρ w w'->(Instr.loadAt t x).run P w'=.ok u w':=by
 obtain⟨p,hp,_,_,_,_,h5,_⟩:=hH.live i _ hb;obtain⟨_,_,rfl⟩:=hx.q0w hp;unfold X_ at hv;cases ep:Vu d with
 |false =>
  simp[ep] at hv;obtain⟨u,hu,cr⟩:=h5 o v hv;refine⟨u,cr,λw' hl=>?_⟩;have:w'.cell? ⟨p.blk,p.shift+o,none⟩=some u:=by rw[Pg hl hp];exact hu
  simp[Instr.loadAt,Instr.sureAddr,loadVar,KE h2,ep,this]
 |true =>
  simp only[ep,zB] at hv;split at hv
  .rename_i hlen;simp at hv;subst hv;have hex:∃ us:List Value,us.length=ti.size/\∀ k,k<ti.size->∃ u,us[k]?=some u/\w.cell? ⟨p.blk,p.shift+o+k,none⟩=some u/\∀ v,c[o+k]?=some v->VRel ρ U.n v u:=by
    refine⟨(List.range ti.size).map λk=>(w.cell? ⟨p.blk,p.shift+o+k,none⟩).getD undef,by simp,λk hk=>?_⟩;obtain⟨u,hu,cr⟩:=h5 (o+k) _ (z8 (by omega))
    grind
   obtain⟨us,tM,eM⟩:=hex;refine⟨.agg us.toArray,VRel.q1m ⟨by simp;omega,λk v u hk hu=>?_⟩,λw' hl=>?_⟩
   .grind
   .have cM:∀ j v,us[j]?=some v->w'.cell? ((⟨p.blk,p.shift+o,none⟩:Addr).add j)=some v:=λj v hj=>by
     have bR:j<ti.size:=by grind
     obtain⟨u',dz,cS,_⟩:=eM j bR;rw[hj] at dz;obtain rfl:=osj dz;rw[Xb,Pg hl hp];exact cS
    have:=run_loadCells_list (P:=P) w' ⟨p.blk,p.shift+o,none⟩ us cM;rw[tM] at this;simp[Instr.loadAt,Instr.sureAddr,loadVar,KE h2,ep,Qd h1,this]
  .cases hv
theorem L7 (hH:HRel ρ U w) {t:TypeId}{ti:TypeInfo}{d:TypeDesc}(h1:P.info? t=some ti) (h2:P.underlying t=some d) {g o s:Nat}{c:List Value}{v x:Value}
  (hb:Q03 g=some c) (aN:c.all QM=true) (hv:X_ (Vu d) ti.size c o=some v) (hx:VRel ρ U.n (.pointer (some ⟨g,o,some s⟩)) x) :
  ∃ u,VRel ρ U.n v u/\∀ w',Like ρ w w'->(Instr.loadAt t x).run P w'=.ok u w':=by
 obtain⟨⟨e,f,hw⟩,_⟩:=hH.tab g c hb;obtain rfl:x=.pointer (some ⟨g,o,none⟩):=by cases hx;rfl
 have br:∀ w',Like ρ w w'->∀ k,w'.cell? ⟨g,k,none⟩=c[k]?:=λw' hl k=>by have:=hl.tab g c hb;simp[World.cell?,this,hw]
 unfold X_ at hv;cases ep:Vu d with
 |false =>
  simp[ep] at hv;refine⟨v,X1 (by grind),λw' hl=>?_⟩;have:w'.cell? ⟨g,o,none⟩=some v:=by rw[br w' hl];exact hv
  simp[Instr.loadAt,Instr.sureAddr,loadVar,KE h2,ep,this]
 |true =>
  simp only[ep,zB] at hv;split at hv
  .rename_i hlen;simp at hv;subst hv;have hall:((c.drop o).take ti.size).all QM=true:=(by grind);refine⟨_,VRel.q1m (JJ hall),λw' hl=>?_⟩;have cM:∀ j v,((c.drop o).take ti.size)[j]?=some v->w'.cell? ((⟨g,o,none⟩:Addr).add j)=some v:=(by grind [Xb]);have:=run_loadCells_list (P:=P) w' ⟨g,o,none⟩ _ cM;have bX:((c.drop o).take ti.size).length=ti.size:=by grind
   rw[bX] at this;simp[Instr.loadAt,Instr.sureAddr,loadVar,KE h2,ep,Qd h1,this]
  .cases hv
theorem Az {t:TypeId}{ti:TypeInfo}{d:TypeDesc}(h1:P.info? t=some ti) (h2:P.underlying t=some d) {cs ds:Array Value}{o:Nat}{v:Value}{n:Nat}
  (hv:X_ (Vu d) ti.size cs.toList o=some v) (hl:LRel ρ n cs.toList ds.toList):∃ u,VRel ρ n v u/\∀ w',(part t ds o).run P w'=.ok u w':=by
 unfold X_ at hv;cases ep:Vu d with
 |false =>
  simp only[ep,zq,if_false] at hv;obtain⟨u,hu,cr⟩:=hl.get hv;refine⟨u,cr,λw'=>?_⟩;have:ds[o]?=some u:=by simpa using hu
  simp[part,KE h2,ep,this]
 |true =>
  simp only[ep,zB] at hv;split at hv
  .rename_i hlen;simp at hv;subst hv;refine⟨.agg (ds.extract o (o+ti.size)),?_,λw'=>by simp[part,KE h2,ep,Qd h1]⟩;have:LRel ρ n ((cs.toList.drop o).take ti.size) ((ds.toList.drop o).take ti.size):=by
    refine⟨by have:=hl.1;simp at this |-;omega,λk v u hk hu=>?_⟩;rw[xt] at hk hu;split at hk
    .rename_i cI;rw[z7 cI,zV] at hu;rw[zV] at hk;exact hl.2 _ v u hk hu
    .cases hk
   have h3:=VRel.q1m this;have h4:((ds.toList.drop o).take ti.size).toArray=ds.extract o (o+ti.size):=by
    grind
   rwa [h4] at h3
  .cases hv
end
end Go.V
namespace Go.V
open Go
theorem GR {ρ:Plc}{n:Nat}{v c:Value}{vs:List Value}(h:YM v=some vs) (hv:VRel ρ n v c):LRel ρ n vs c.cells.toList:=by
 unfold YM at h;split at h
 .obtain⟨ds,rfl,hl⟩:=hv.q1i;simp at h;subst h;exact hl
 .cases h
 .cases h
 .rename_i h1 h2 h3;simp at h;subst h;have hc:c.cells.toList=[c]:=by
   cases hv<;>first|rfl|(exact absurd rfl (h1 _))|(exact absurd rfl (h2 _))|(exact absurd rfl (h3 _))
  rw[hc];exact LRel.cons hv (LRel.nil _ _)
theorem F6 (off:Nat):∀ (vs:List Value) (k:Nat) (cells:Array Value),
  (((vs.zipIdx k).foldl (λ(cs:Array Value) (p:Value×Nat)=>cs.setIfInBounds (off+p.2) p.1) cells)).toList=W_ cells.toList (off+k) vs:=by
 intro vs;induction vs with
 |nil=>intro k cells;rfl
 |cons v r ih =>intro k cells;simp only[List.zipIdx_cons,xJ];rw[ih,W_];simp[zz]
theorem Q0z {ρ:Plc}{n:Nat}:∀ (vs us c d:List Value) (o:Nat),LRel ρ n c d->LRel ρ n vs us->LRel ρ n (W_ c o vs) (W_ d o us):=by
 intro vs;induction vs with
 |nil=>intro us c d o hc hv;cases us with
  |nil=>exact hc
  |cons _ _=>have:=hv.1;simp at this
 |cons v r ih =>
  intro us c d o hc hv;cases us with
  |nil=>have:=hv.1;simp at this
  |cons u us =>rw[W_,W_];have h0:VRel ρ n v u:=hv.2 0 v u rfl rfl;have hr:LRel ρ n r us:=⟨by have:=hv.1;simpa using this,λi a b ha hb=>hv.2 (i+1) a b (by simpa using ha) (by simpa using hb)⟩;exact ih us _ _ _ (hc.set o h0) hr
theorem Rv {ρ:Plc}{n:Nat}(place:Nat->Option (Nat×Nat)):∀ (l:List (Nat×Nat×Value)) (l':List (Nat×Value)) (c c':List Value) (cells:Array Value),
  l.length=l'.length->(∀ (k:Nat) (a:Nat×Nat×Value) (b:Nat×Value),l[k]?=some a->l'[k]?=some b->place b.1=some (a.1,a.2.1)/\VRel ρ n a.2.2 b.2) ->
  U8 c l=some c'->LRel ρ n c cells.toList->∃ bj,Instr.fill place cells l'=some bj/\LRel ρ n c' bj.toList:=by
 intro l;induction l with
 |nil =>
  intro l' c c' cells hl _ hf hc;cases l' with
  |nil=>simp[U8] at hf;subst hf;exact⟨cells,rfl,hc⟩
  |cons _ _=>simp at hl
 |cons a r ih =>
  intro l' c c' cells hl hk hf hc;cases l' with
  |nil=>simp at hl
  |cons b r' =>
   obtain⟨o,s,v⟩:=a;obtain⟨j,u⟩:=b;obtain⟨hp,hv⟩:=hk 0 _ _ rfl rfl;simp only at hp hv;simp only[U8] at hf;split at hf
   .rename_i vs bY;split at hf
    .rename_i ah;obtain⟨hs,hle⟩:=ah;have dP:=GR bY hv;have az:u.cells.size=s:=by have:=dP.1;simp at this;omega
     have hlen:cells.size=c.length:=by have:=hc.1;simp at this;omega
     obtain⟨bj,h1,h2⟩:=ih r' (W_ c o vs) c' (u.cells.zipIdx.foldl (λcs (c,j)=>cs.setIfInBounds (o+j) c) cells) (by simpa using hl)
      (λk a b ha hb=>hk (k+1) a b (by simpa using ha) (by simpa using hb)) hf (by
       have:=F6 o u.cells.toList 0 cells;rw[<-Array.foldl_toList,Array.toList_zipIdx];rw[show (o+0)=o from rfl] at this;refine Eq.subst (motive:=λx=>LRel ρ n (W_ c o vs) x) this.symm ?_;exact Q0z _ _ _ _ _ hc dP)
     refine⟨bj,?_,h2⟩;simp only[Instr.fill,hp];simp_all
    .cases hf
   .cases hf
theorem Rh {ρ:Plc}{n:Nat}{env:Env}{ev:Operand->Value}(hE:∀ x,JL x=true->VRel ρ n (Q5 env x) (ev x)) {l:List Operand}(h:l.all JL=true):LRel ρ n (l.map (Q5 env)) (l.map ev):=by
 refine⟨by simp,λi v c hv hc=>?_⟩
 grind
theorem Q1 {P:Program}{t:TypeId}{d:TypeDesc}(h:P.underlying t=some d) (w:World):(underlying t).run P w=.ok d w:=run_underlying h w
def C4 (P:Program) (ρ:Plc) (U:Heap) (w:World) (v:Value) (s:Sem Next):Prop :=
 ∃ c,VRel ρ U.n v c/\∀ w',Like ρ w w'->s.run P w'=.ok (.value c) w'
theorem XJ {α β:Type}(f:α->Option β):∀ (l:List α) (r:List β),l.mapM f=some r->r.length=l.length/\∀ (i:Nat) (a:α),l[i]?=some a->∃ b,r[i]?=some b/\f a=some b:=by
 intro l;induction l with
 |nil=>intro r h;simp at h;subst h;exact⟨rfl,λi a h=>by simp at h⟩
 |cons a l ih =>
  intro r h;rw[x6] at h;cases hf:f a with
  |none=>simp[hf] at h
  |some b =>
   cases hm:l.mapM f with
   |none=>simp[hf,hm] at h
   |some r' =>
    simp[hf,hm] at h;subst h;obtain⟨h1,h2⟩:=ih r' hm;refine⟨by simp[h1],λi x hx=>?_⟩;cases i with
    |zero=>simp at hx;subst hx;exact⟨b,rfl,hf⟩
    |succ i=>simp at hx;simpa using h2 i x hx
theorem Q07 {P:Program}{α β:Type}(g:α->Sem β) (f:α->β) (w:World):∀ (l:List α),(∀ a∈l,(g a).run P w=.ok (f a) w)->(l.mapM g).run P w=.ok (l.map f) w:=by
 intro l;induction l with
 |nil=>intro _;rfl
 |cons a l ih =>intro h;rw[x6];simp[h a (by simp),ih (λb hb=>h b (by simp[hb]))]
theorem Wu {P:Program}{t:TypeId}{z:List Value}(h:zeroOf P t=some z):∃ i zv,P.info? t=some i/\i.zero=some zv/\zv.cells.toList=z/\z.length=i.size/\z.all QM=true:=by
 unfold zeroOf at h;cases hi:P.info? t with
 |none=>simp[hi] at h
 |some i =>
  cases hz:i.zero with
  |none=>simp[hi,hz] at h
  |some zv =>simp[hi,hz] at h;obtain⟨h1,h2⟩:=h;subst h2;exact(by grind)
theorem QY {P:Program}{t:TypeId}{i:TypeInfo}{zv:Value}(h:P.info? t=some i) (hz:i.zero=some zv) (w:World):(zeroValue t).run P w=.ok zv w:=by simp[zeroValue,run_typeInfo w h,hz]
section
variable {P:Program}{ρ:Plc}{U U':Heap}{w:World}{ev:Operand->Value}{env:Env}{v:Value}
theorem Qi {s:Sem Next}{v c:Value}(h:∀ w',s.run P w'=.ok (.value c) w') (hc:VRel ρ U.n v c):C4 P ρ U w v s:=⟨c,hc,λw' _=>h w'⟩
theorem Um (op:BinOp) (t:TypeId) (x y:Operand) (yt:TypeId) (ty:TypeId) (pos:String) (after:Array Edge) (dst:Option Tmp) (g:Option (Nat×Bool)) {v c a b:Value}(hx:ev x=a) (hy:ev y=b)
  (sH:(∃ k n k' n',a=.int k n/\b=.int k' n')\/(∃ s s',a=.string s/\b=.string s')\/(∃ s s',a=.bool s/\b=.bool s'))
  (h:∀ w',(binOp op t a b).run P w'=.ok c w') (hc:VRel ρ U.n v c):C4 P ρ U w v (execOp ev ⟨dst,.binOp op t x y yt,ty,pos,after,g⟩):=by
 refine Qi (c:=c) (λw'=>?_) hc;have he:∀ w',(eqGuard op t x y a b).run P w'=.ok () w':=λw'=>by rcases sH with⟨k,n,k',n',rfl,rfl⟩|⟨s,s',rfl,rfl⟩|⟨s,s',rfl,rfl⟩<;>(unfold eqGuard;cases op<;>simp)
 simp only[execOp,hx,hy];simp[he,h]
theorem Bw {t:TypeId}(h:P.underlying t=some .bool) (a b:Bool) (d:Nat) (w:World):(Op.equalIn (d+1) t (.bool a) (.bool b)).run P w=.ok (a==b) w:=by simp only[Op.equalIn,zx,Q1 h,zj,xc]
theorem PX {t:TypeId}(h:P.underlying t=some .bool) (a b:Bool) (w:World):(Op.equal t (.bool a) (.bool b)).run P w=.ok (a==b) w :=
 Bw h a b 9999 w
theorem VRel.q1h {n:Nat}{i o:Nat}{c:Value}(h:VRel ρ n (.pointer (some ⟨i,o,none⟩)) c):∃ a:Addr,c=.pointer (some a)/\i<n/\∀ p,ρ i=some p->a=⟨p.blk,p.shift+o,none⟩:=by
 cases h with
 |ptr _ _ a hi h=>exact⟨a,rfl,hi,h⟩
theorem VRel.q1b {n:Nat}{i o len cap:Nat}{c:Value}(h:VRel ρ n (.slice (some ⟨i,o,none⟩) len cap) c):∃ (a:Addr) (al:Nat),c=.slice (some a) len al/\i<n /\
  ∀ p,ρ i=some p->cap<=al/\(p.tight=true->al=cap)/\(al=0/\len=0\/∃ o',a=⟨p.blk,p.shift+o',none⟩/\o'+al*p.esz.sz<=p.ext/\(o'=o\/(len=0/\cap=0))):=by
 cases h with
 |sl _ _ _ _ a al hi h=>exact⟨a,al,rfl,hi,h⟩
theorem VRel.q2m {n:Nat}{i o len cap:Nat}{c:Value}(h:VRel ρ n (.slice (some ⟨i,o,some 0⟩) len cap) c):∃ a:Addr,c=.slice (some a) len cap/\i<n/\(∀ p,ρ i=some p->a=⟨p.blk,p.shift+o,none⟩/\o+cap*p.esz.sz<=p.ext)/\VRel ρ n (.slice (some ⟨i,o,none⟩) len cap) c:=by
 cases h with
 |slx _ _ _ _ a hi h=>exact⟨a,rfl,hi,h,.sl _ _ _ _ _ _ hi (by simp_all)⟩
theorem VRel.q1v {n:Nat}{a:Option Addr}{len cap:Nat}{c:Value}(h:VRel ρ n (.slice a len cap) c):∃ a' al,c=.slice a' len al:=by
 cases h with
 |sl _ _ _ _ a al hi h=>exact⟨_,al,rfl⟩
 |slx _ _ _ _ a hi h=>exact⟨_,_,rfl⟩
 |nilSl=>exact⟨_,_,rfl⟩
theorem Wi {op:Option Operand}{d l:Nat}(hE:∀ x,JL x=true->VRel ρ U.n (Q5 env x) (ev x)) (aj:∀ x,op=some x->JL x=true) (h:ZX (Q5 env) op d=some l) :
  (op=none/\l=d)\/∃ x k i,op=some x/\ev x=.int k i/\0<=i/\l=i.toNat:=by
 cases op with
 |none=>simp[ZX] at h;exact .inl ⟨rfl,h.symm⟩
 |some x =>
  have hr:=hE x (aj x rfl);simp only[ZX] at h;split at h
  .rename_i k i heq;rw[heq] at hr;split at h
   .rename_i hi;simp at h;exact .inr ⟨x,k,i,rfl,hr.q0g,hi,h.symm⟩
   .cases h
  .cases h
theorem QX (k:IntKind) (i:Int) (y:Nat) (code:BoundsCode) (h:0<=i) (h':i.toNat<=y) (w:World):(Instr.sliceBound (.int k i) y code).run P w=.ok i.toNat w:=by
 have:i<=y:=by omega
 simp[Instr.sliceBound,asIntOf,h,this]
theorem YL {lo hi:Option Operand}{isSlice:Bool}{n cap l h:Nat}(p6:(lo=none/\l=0)\/∃ x k i,lo=some x/\ev x=.int k i/\0<=i/\l=i.toNat)
  (ku:(hi=none/\h=n)\/∃ x k i,hi=some x/\ev x=.int k i/\0<=i/\h=i.toNat) (h1:l<=h) (h2:h<=cap) (w:World) :
  (Instr.sliceBounds isSlice n cap (lo.map ev) (hi.map ev) none).run P w=.ok (l,h,cap) w:=by
 rcases p6 with⟨rfl,rfl⟩|⟨x,k,i,rfl,hx,p7,rfl⟩<;>rcases ku with⟨rfl,rfl⟩|⟨y,k',i',rfl,hy,iJ,rfl⟩
 .simp[Instr.sliceBounds]
 .simp[Instr.sliceBounds,hy,QX k' i' _ _ iJ h2]
 .simp[Instr.sliceBounds,hx,QX k i _ _ p7 h1]
 .simp[Instr.sliceBounds,hx,hy,QX k i _ _ p7 h1,QX k' i' _ _ iJ h2]
set_option maxHeartbeats 1000000 in
theorem Ch {o:Oper}{vo:VOp}(hc:KZ P o.op = some vo) (hq:vo.quiet = true) (hH:HRel ρ U w) (hE:∀ x, JL x = true -> VRel ρ U.n (Q5 env x) (ev x))
    (h:Q6 vo (Q5 env) U = some (v, U')):U' = U /\ C4 P ρ U w v (execOp ev o):=by
  obtain ⟨dst, op, ty, pos, after, guard⟩:=o;simp only at hc;unfold KZ at hc;split at hc
  . cases hc
  rename_i aj;simp only [x3, x9] at aj;cases op <;> simp only [Op.operands] at aj hc
  case move x =>
    have hx:=hE x (by simpa using aj);simp at hc; subst hc;simp [Q6] at h;obtain ⟨rfl, rfl⟩:=h;exact ⟨rfl, Qi (λw' => by simp [execOp]) hx⟩
  case assign x =>
    have hx:=hE x (by simpa using aj);simp at hc; subst hc;simp [Q6] at h;obtain ⟨rfl, rfl⟩:=h;exact ⟨rfl, Qi (λw' => by simp [execOp]) hx⟩
  case pick c a b =>
    simp at aj;have hx:=hE c aj.1;have ha:=hE a aj.2.1;have hb:=hE b aj.2.2;simp at hc; subst hc;simp only [Q6] at h;split at h
    . rename_i t heq
      rw [heq] at hx;simp at h;obtain ⟨h1, rfl⟩:=h;refine ⟨rfl, Qi (c:=if t then ev a else ev b) (λw' => by simp [execOp, hx.q1c, asBool]) ?_⟩;rw [<- h1]; split <;> assumption
    . cases h
  case binOp iU t x y yt =>
    simp at aj;have hx:=hE x aj.1;have hy:=hE y aj.2;split at hc
    .
      cases iU <;> simp at hc <;> subst hc <;> simp only [Q6] at h <;> split at h <;> first
        | (cases h; done)
        | (rename_i k a k' b h1 h2
           rw [h1] at hx; rw [h2] at hy;have ex:=hx.q0g;have ey:=hy.q0g;split at h
           . rename_i ah
             simp at h; obtain ⟨rfl, rfl⟩:=h;refine ⟨rfl, ?_⟩
             first
              | refine Um _ t x y yt ty pos after dst guard ex ey (.inl ⟨_, _, _, _, rfl, rfl⟩) (λw' => ?_) (VRel.int _ _)
              | refine Um _ t x y yt ty pos after dst guard ex ey (.inl ⟨_, _, _, _, rfl, rfl⟩) (λw' => ?_) (VRel.bool _)
             first
              | (obtain rfl:=ah; simp [binOp, Op.intArith, Ti]; done)
              | (obtain ⟨rfl, qw⟩:=ah; simp [binOp, Op.intDiv, Q39, qw]; done)
              | (obtain rfl:=ah; simp [binOp, Op.intBits, ZS]; done)
              | (obtain rfl:=ah; simp [binOp, Op.intCmp, Q5w]; done)
              | (simp [binOp, Op.shift, Tg, Int.not_lt.2 ah, Nat.min_def]; done)
           . cases h)
    .
      simp at hc; subst hc;simp only [Q6] at h;split at h
      . rename_i a b h1 h2
        rw [h1] at hx; rw [h2] at hy;have ex:=hx.q0n;have ey:=hy.q0n
        cases iU <;> simp only at h <;> first
          | (cases h; done)
          | (split at h
             . rename_i aC
               simp at h; obtain ⟨rfl, rfl⟩:=h;refine ⟨rfl, Um _ t x y yt ty pos after dst guard ex ey (.inr (.inl ⟨_, _, rfl, rfl⟩)) (c:=.string (a ++ b)) (λw' => ?_) (VRel.string _)⟩;have:¬ (((a.size + b.size:Nat):Int) > IntKind.i64.max):=by
                 have:IntKind.i64.max = 9223372036854775807:=by decide
                 omega
               simp only [binOp, Op.stringOp, z6 this]; rfl
             . cases h)
          | (simp at h; obtain ⟨rfl, rfl⟩:=h
             exact ⟨rfl, Um _ t x y yt ty pos after dst guard ex ey (.inr (.inl ⟨_, _, rfl, rfl⟩)) (λw' => by simp [binOp, Op.stringOp, ByteArray.toList_eq]) (VRel.bool _)⟩)
      . cases h
    .
      rename_i qx
      cases iU <;> simp at hc <;> subst hc <;> simp only [Q6] at h <;> split at h <;> first
        | (cases h; done)
        | (rename_i a b h1 h2
           rw [h1] at hx; rw [h2] at hy;have ex:=hx.q1c;have ey:=hy.q1c;simp at h; obtain ⟨rfl, rfl⟩:=h;refine ⟨rfl, Um _ t x y yt ty pos after dst guard ex ey (.inr (.inr ⟨_, _, rfl, rfl⟩)) (λw' => ?_) (VRel.bool _)⟩;simp [binOp, PX qx])
    . cases hc
  case unOp v8 t x =>
    have hx:=hE x (by simpa using aj);simp at hc; subst hc;simp only [Q6] at h
    split at h <;> first
      | (cases h; done)
      | (rename_i h1; rw [h1] at hx; simp at h; obtain ⟨rfl, rfl⟩:=h
         refine ⟨rfl, ?_⟩
         first
          | (have e:=hx.q1c; refine Qi (λw' => ?_) (VRel.bool _); simp [execOp, e, Op.unary]; done)
          | (have e:=hx.q0g; refine Qi (λw' => ?_) (VRel.int _ _); simp [execOp, e, Op.unary, Op.intArith]; done)
          | (have e:=hx.q0g; refine Qi (λw' => ?_) (VRel.int _ _); simp [execOp, e, Op.unary, Op.intBits, ZS]; done))
  case convert s d x =>
    have hx:=hE x (by simpa using aj);split at hc
    . rename_i k0 k hs hd
      simp at hc; subst hc;simp only [Q6] at h;split at h
      . rename_i h1; rw [h1] at hx; simp at h; obtain ⟨rfl, rfl⟩:=h
        exact ⟨rfl, Qi (λw' => by simp [execOp, hx.q0g, convert, Q1 hs, Q1 hd, Conv.intToInt]) (VRel.int _ _)⟩
      . cases h
    . rename_i hs hd
      simp at hc; subst hc;simp only [Q6] at h;split at h
      . rename_i h1; rw [h1] at hx; simp at h; obtain ⟨rfl, rfl⟩:=h
        exact ⟨rfl, Qi (λw' => by simp [execOp, hx.q0n, convert, Q1 hs, Q1 hd]) (VRel.string _)⟩
      . cases h
    . cases hc
  case alloc t =>
    cases hz:zeroOf P t <;> simp [hz] at hc;subst hc; cases hq
  case box t x => simp at hc; subst hc; cases hq
  case buildSlice t len parts =>
    split at hc
    . rename_i e _
      cases hz:zeroOf P e with
      | none => simp [hz] at hc
      | some z =>
        simp only [hz, zE, xd] at hc;split at hc
        . cases hc
        . simp at hc; subst hc; cases hq
    . cases hc
  case store t a x =>
    cases hi:P.info? t <;> simp [hi] at hc;subst hc; cases hq
  case makeSlice t l c =>
    split at hc
    . rename_i e _
      cases hi:P.info? e with
      | none => simp [hi] at hc
      | some ei =>
        cases hz:zeroOf P e with
        | none => simp [hi, hz] at hc
        | some z =>
          simp only [hi, hz, zE, xd] at hc;split at hc
          . cases hc
          . simp at hc; subst hc; cases hq
    . cases hc
  case load t a =>
    have ha:=hE a (by simpa using aj);cases hi:P.info? t with
    | none => simp [hi] at hc
    | some ti =>
      cases hu:P.underlying t with
      | none => simp [hi, hu] at hc
      | some d =>
        simp [hi, hu] at hc; subst hc;simp only [Q6] at h;split at h
        . rename_i g o s h1
          rw [h1] at ha;split at h
          . rename_i c hb
            split at h
            . rename_i hall
              split at h
              . rename_i v0 hv
                simp at h; obtain ⟨rfl, rfl⟩:=h;obtain ⟨u, cr, hr⟩:=L7 hH hi hu hb hall hv ha;exact ⟨rfl, u, cr, λw' hl => by simp [execOp, hr w' hl]⟩
              . cases h
            . cases h
          . cases h
        . rename_i i o h1
          rw [h1] at ha;split at h
          . rename_i c esz wr tight hb
            split at h
            . rename_i v0 hv
              simp at h; obtain ⟨rfl, rfl⟩:=h;obtain ⟨u, cr, hr⟩:=AU hH hi hu hb hv ha;exact ⟨rfl, u, cr, λw' hl => by simp [execOp, hr w' hl]⟩
            . cases h
          . cases h
        . cases h
  case fieldAddr t a f =>
    have ha:=hE a (by simpa using aj);cases hf:GX P t f with
    | none => simp [hf] at hc
    | some fd =>
      cases hi:P.info? fd.type with
      | none => simp [hf, hi] at hc
      | some fi =>
        simp only [hf, hi, zE, xd] at hc;split at hc
        . cases hc
        . rename_i aC
          simp at hc; subst hc;simp only [Q6] at h;split at h
          . rename_i i o h1
            rw [h1] at ha;simp at h; obtain ⟨rfl, rfl⟩:=h;unfold GX at hf;split at hf
            . rename_i fs hu
              simp at aC;obtain ⟨ad, heq, aL, aN⟩:=ha.q1h;cases hρ:ρ i with
              | none =>refine ⟨rfl, .pointer (some (ad.add fd.offset)), .ptr _ _ _ aL (by simp_all), λw' _ => ?_⟩;simp [execOp, heq, Instr.fieldAt, Q1 hu, hf, Instr.sureAddr, fieldPlace, Qd hi, aC]
              | some p =>obtain rfl:=aN p hρ;refine ⟨rfl, .pointer (some ⟨p.blk, p.shift + (o + fd.offset), none⟩), .ptr _ _ _ aL (by simp_all), λw' _ => ?_⟩;simp [execOp, heq, Instr.fieldAt, Q1 hu, hf, Instr.sureAddr, fieldPlace, Qd hi, aC, Xb, zz]
            . cases hf
          . cases h
  case field t x f =>
    have hx:=hE x (by simpa using aj);cases hf:GX P t f with
    | none => simp [hf] at hc
    | some fd =>
      cases hi:P.info? fd.type with
      | none => simp [hf, hi] at hc
      | some fi =>
        cases hu:P.underlying fd.type with
        | none => simp [hf, hi, hu] at hc
        | some d =>
          simp [hf, hi, hu] at hc; subst hc;simp only [Q6] at h;split at h
          . rename_i cs h1
            rw [h1] at hx;obtain ⟨ds, hds, hl⟩:=hx.q1i;split at h
            . rename_i v0 hv
              simp at h; obtain ⟨rfl, rfl⟩:=h;obtain ⟨u, cr, hr⟩:=Az hi hu hv hl;unfold GX at hf;split at hf
              . rename_i fs qy
                exact ⟨rfl, u, cr, λw' _ => by simp [execOp, hds, Instr.field, Q1 qy, hf, asAgg, hr]⟩
              . cases hf
            . cases h
          . cases h
  case makeFunc fn first cap =>
    rw [Array.toList_append, List.all_append, z1] at aj;cases fn <;> simp at hc;rename_i f;subst hc;simp only [Q6] at h;simp at h; obtain ⟨rfl, rfl⟩:=h;have h1:=Rh hE (l:=first.toList) aj.1;have h2:=Rh hE (l:=cap.toList) aj.2;refine ⟨rfl, Qi (c:=.func (.func f) (first.map ev) (cap.map ev)) (λw' => by simp [execOp, Instr.makeFunc]) ?_⟩;refine .func _ _ _ _ _ (by simp) (by simp) (λi h3 h4 => ?_) (λi h3 h4 => ?_)
    . simp_all
    simp_all
  case build t parts =>
    cases hz:zeroOf P t with
    | none => simp [hz] at hc
    | some z =>
      obtain ⟨ti, zv, hi, dt, ga, _, iK⟩:=Wu hz;have aN:LRel ρ U.n z zv.cells.toList:=by rw [ga]; exact JJ iK
      have ky:∀ q ∈ parts.toList, JL q.2 = true:=(by grind);simp only [hz, zE, xd] at hc;split at hc
      . rename_i fs hu
        cases gF:fs.toList.mapM (λf => (P.info? f.type).map λi => (f.offset, i.size)) with
        | none => simp [gF] at hc
        | some places =>
          cases er:parts.toList.mapM (λq => (places[q.1]?).map λos => (os.1, os.2, q.2)) with
          | none => simp [gF, er] at hc
          | some ps =>
            simp [gF, er] at hc; subst hc;simp only [Q6] at h;split at h
            . rename_i cs dQ
              simp at h; obtain ⟨rfl, rfl⟩:=h;obtain ⟨eu, gG⟩:=XJ _ _ _ gF;obtain ⟨bX, cP⟩:=XJ _ _ _ er
              obtain ⟨bj, me, jC⟩:=Rv (ρ:=ρ) (n:=U.n) (λ(i:Nat) => places[i]?) _ ((parts.map λq => (q.1, ev q.2)).toList) z cs zv.cells (by simp [bX])
                (by grind [Array.toList_map, Option.some.injEq, List.mem_of_getElem?]) dQ aN
              refine ⟨rfl, .agg bj, by have:=VRel.q1m jC; simpa using this, λw' _ => ?_⟩;have aG:(fs.mapM λ(f:Field) => do pure (f.offset, <- sizeOf f.type)).run P w' = .ok places.toArray w':=by
                rw [Array.mapM_eq_mapM_toList];have p8:∀ f ∈ fs.toList, ((do pure (f.offset, <- sizeOf f.type):Sem (Nat × Nat))).run P w' = .ok (f.offset, ((P.info? f.type).map (·.size)).getD 0) w':=λf hf => by
                  obtain ⟨k, hk⟩:=List.getElem?_of_mem hf;obtain ⟨b, hb, bS⟩:=gG k f hk;cases kz:P.info? f.type with
                  | none => simp [kz] at bS
                  | some fi => simp [Qd kz]
                have:=Q07 (P:=P) _ _ w' fs.toList p8;simp only [Sem.run_map, this, zj];congr 2;apply zK;intro k;rw [xp];cases hk:fs.toList[k]? with
                | none =>
                  have:places.length <= k:=by simp_all
                  simp [zD this]
                | some f =>
                  obtain ⟨b, hb, bS⟩:=gG k f hk;cases kz:P.info? f.type with
                  | none => simp [kz] at bS
                  | some fi => simp [kz] at bS |-; rw [hb, <- bS]
              have gb:(λ(i:Nat) => places.toArray[i]?) = (λ(i:Nat) => places[i]?):=by funext i; simp
              simp only [execOp];simp only [Instr.build, zx, QY hi dt, zj, Q1 hu, aG];simp_all
            . cases h
      . rename_i n e hu
        cases cg:P.info? e with
        | none => simp [cg] at hc
        | some ei =>
          simp [cg] at hc; subst hc;simp only [Q6] at h;split at h
          . rename_i cs dQ
            simp at h; obtain ⟨rfl, rfl⟩:=h
            obtain ⟨bj, me, jC⟩:=Rv (ρ:=ρ) (n:=U.n) (λi => some (i * ei.size, ei.size)) _ ((parts.map λq => (q.1, ev q.2)).toList) z cs zv.cells (by simp)
              (by grind) dQ aN
            refine ⟨rfl, .agg bj, by have:=VRel.q1m jC; simpa using this, λw' _ => ?_⟩;simp only [execOp];simp only [Instr.build, zx, QY hi dt, zj, Q1 hu, Qd cg, me];rfl
          . cases h
      . cases hc
  case index t x i =>
    simp at aj;have hx:=hE x aj.1;have hi:=hE i aj.2;split at hc
    . rename_i hu
      simp at hc; subst hc;simp only [Q6] at h;split at h
      . rename_i s k n h1 h2
        rw [h1] at hx; rw [h2] at hi;split at h
        . rename_i hn
          split at h
          . rename_i b hb
            simp at h; obtain ⟨rfl, rfl⟩:=h;have bS:s[n.toNat]? = some b:=by rw [<- hb]; simp [getElem?_def]; split <;> rfl
            refine ⟨rfl, Qi (λw' => ?_) (VRel.int _ _)⟩;simp [execOp, hx.q0n, hi.q0g, Instr.index, asIntOf, Q1 hu, hn, bS]
          . cases h
        . cases h
      . cases h
    . rename_i len e hu
      cases cg:P.info? e with
      | none => simp [cg] at hc
      | some ei =>
        cases iV:P.underlying e with
        | none => simp [cg, iV] at hc
        | some d =>
          simp [cg, iV] at hc; subst hc;simp only [Q6] at h;split at h
          . rename_i cs k n h1 h2
            rw [h1] at hx; rw [h2] at hi;obtain ⟨ds, hds, hl⟩:=hx.q1i;split at h
            . rename_i hn
              split at h
              . rename_i v0 hv
                simp at h; obtain ⟨rfl, rfl⟩:=h;obtain ⟨u, cr, hr⟩:=Az cg iV hv hl;refine ⟨rfl, u, cr, λw' _ => ?_⟩;simp [execOp, hds, hi.q0g, Instr.index, asIntOf, Q1 hu, hn, Qd cg, hr]
              . cases h
            . cases h
          . cases h
    . cases hc
  case indexAddr t x i =>
    simp at aj;have hx:=hE x aj.1;have hi:=hE i aj.2;split at hc
    . rename_i e hu
      cases cg:P.info? e with
      | none => simp [cg] at hc
      | some ei =>
        simp [cg] at hc; subst hc;simp only [Q6] at h;split at h
        . rename_i b o n cap k j h1 h2
          rw [h1] at hx; rw [h2] at hi;split at h
          . rename_i hj
            simp at h; obtain ⟨rfl, rfl⟩:=h;obtain ⟨a, al, aX, aL, aN⟩:=hx.q1b;refine ⟨rfl, .pointer (some (a.add (j.toNat * ei.size))), .ptr _ _ _ aL (λp hp => ?_), λw' _ => ?_⟩
            . grind [Xb, Nat.add_assoc]
            . simp [execOp, aX, hi.q0g, Instr.indexAt, asIntOf, Q1 hu, hj, Qd cg]
          . cases h
        . cases h
    . rename_i len e hu
      cases cg:P.info? e with
      | none => simp [cg] at hc
      | some ei =>
        simp [cg] at hc; subst hc;simp only [Q6] at h;split at h
        . rename_i g o s k j h1 h2
          rw [h1] at hx; rw [h2] at hi;split at h
          . rename_i hj
            simp at h; obtain ⟨rfl, rfl⟩:=h;have aX:ev x = .pointer (some ⟨g, o, none⟩):=by generalize ev x = c at hx; cases hx; rfl
            refine ⟨rfl, .pointer (some ((⟨g, o, none⟩:Addr).add (j.toNat * ei.size))), by rw [Xb]; exact .glob _ _ _, λw' _ => ?_⟩;simp [execOp, aX, hi.q0g, Instr.indexAt, Instr.sureAddr, asIntOf, Q1 hu, hj, Qd cg]
          . cases h
        . rename_i b o k j h1 h2
          rw [h1] at hx; rw [h2] at hi;split at h
          . rename_i hj
            simp at h; obtain ⟨rfl, rfl⟩:=h;obtain ⟨a, aX, aL, aN⟩:=hx.q1h;refine ⟨rfl, .pointer (some (a.add (j.toNat * ei.size))), .ptr _ _ _ aL (λp hp => ?_), λw' _ => ?_⟩
            . grind [Xb, Nat.add_assoc]
            . simp [execOp, aX, hi.q0g, Instr.indexAt, Instr.sureAddr, asIntOf, Q1 hu, hj, Qd cg]
          . cases h
        . cases h
    . cases hc
  case slice t x lo hi mx =>
    have kA:JL x = true:=by simp at aj; exact aj.1
    have fN:∀ y, lo = some y -> JL y = true:=(by simp_all);have fO:∀ y, hi = some y -> JL y = true:=λy hy => by subst hy; cases lo <;> simp at aj <;> first | exact aj.2.1 | exact aj.2.2.1 | exact aj.2.2 | exact aj.2
    have hx:=hE x kA;split at hc
    . rename_i e hu
      cases cg:P.info? e with
      | none => simp [cg] at hc
      | some ei =>
        simp [cg] at hc; subst hc;cases mx with
        | some m => simp [VOp.quiet] at hq
        | none =>
          simp only [Q6] at h;split at h
          . rename_i a n cap h1
            rw [h1] at hx;split at h
            . rename_i l hh hl ku _
              have gd:=Wi hE fN hl;have mf:=Wi hE fO ku;unfold W5 at h;split at h
              . rename_i heq
                simp at heq; obtain ⟨rfl, rfl, rfl⟩:=heq;obtain ⟨_, _, aX⟩:=hx.q1k;split at h
                . rename_i ah
                  obtain ⟨rfl, rfl, _⟩:=ah;simp at h; obtain ⟨rfl, rfl⟩:=h;refine ⟨rfl, Qi (λw' => ?_) VRel.nilSl⟩;have:=YL (P:=P) (isSlice:=true) (cap:=0) gd mf (zd _) (zd _) w';simp [execOp, aX, Instr.sliceAt, Instr.slice, Q1 hu, this, Qd cg]
                . cases h
              . rename_i i o n' iW heq
                simp at heq; obtain ⟨rfl, rfl, rfl⟩:=heq;simp only at h;split at h
                . rename_i c esz wr tight hb
                  split at h
                  . rename_i ah
                    obtain ⟨mM, qz, tN⟩:=ah;simp at h; obtain ⟨rfl, rfl⟩:=h;obtain ⟨ad, al, aX, aL, aN⟩:=hx.q1b;obtain ⟨p, hp, hB⟩:=hH.live i _ hb;have dA:=(aN p hp).1;have bM:=λw' => YL (P:=P) (isSlice:=true) (cap:=al) gd mf qz (zJ tN dA) w';obtain ⟨-, p9, ⟨p_, mN⟩ | ⟨o', rfl, dB, ho⟩⟩:=aN p hp
                    . have a8:al = l:=by omega
                      refine ⟨rfl, .slice (some ad) (hh - l) (al - l), .sl _ _ _ _ _ _ aL (λq hq => ⟨by omega, λ_ => by omega, .inl ⟨by omega, by omega⟩⟩), λw' _ => ?_⟩;simp only [execOp, aX, Instr.sliceAt, zx, Q1 hu, zj, Instr.slice, Option.map_none, bM, Qd cg];simp [a8]
                    have dC:p.esz.sz = ei.size:=by rw [hB.1]; exact mM
                    rw [dC] at dB;refine ⟨rfl, .slice (some (if al = l then ⟨p.blk, p.shift + o', none⟩ else ⟨p.blk, p.shift + (o' + l * ei.size), none⟩)) (hh - l) (al - l), .sl _ _ _ _ _ _ aL (λq hq => ?_), λw' _ => ?_⟩
                    . obtain rfl:p = q:=osj (hp.symm.trans hq)
                      refine ⟨by omega, λht => by have:=p9 ht; omega, .inr ?_⟩;rw [dC];by_cases cf:al = l
                      . refine ⟨o', by rw [z7 cf], by rw [cf, Nat.sub_self]; omega, .inr (by omega)⟩
                      . refine ⟨o' + l * ei.size, by rw [z6 cf], ?_, ?_⟩
                        . have:al = l + (al - l):=by omega
                          rw [this, zH] at dB;omega
                        . rcases ho with rfl | ⟨h0, v_⟩
                          . exact .inl rfl
                          . exact .inr (by omega)
                    . simp only [execOp, aX, Instr.sliceAt, zx, Q1 hu, zj, Instr.slice, Option.map_none, bM, Qd cg]
                      by_cases cf:al = l
                      . simp [cf]
                      . simp [cf, Xb, zz]
                  . cases h
                . cases h
              . cases h
            . simp_all
            . cases h
          . cases h
    . rename_i hu
      split at hc
      . rename_i qA
        cases mx with
        | some m => simp at qA
        | none =>
          simp at hc; subst hc;simp only [Q6] at h;split at h
          . rename_i s h1
            rw [h1] at hx;split at h
            . rename_i l hh hl ku
              have gd:=Wi hE fN hl;have mf:=Wi hE fO ku;split at h
              . rename_i ah
                simp at h; obtain ⟨rfl, rfl⟩:=h;refine ⟨rfl, Qi (λw' => ?_) (VRel.string _)⟩;have:=YL (P:=P) (isSlice:=false) (cap:=s.size) gd mf ah.1 ah.2 w';simp [execOp, hx.q0n, Instr.sliceAt, Instr.slice, Q1 hu, this]
              . cases h
            . cases h
          . cases h
      . cases hc
    . cases hc
  case makeInterface t x =>
    have hx:=hE x (by simpa using aj);cases hu:P.underlying t with
    | none => simp [hu] at hc
    | some d =>
      have tO:∀ ms, d ≠ .interface ms:=λms e => by subst e; simp [hu] at hc
      have cS:vo = .iface t x:=by simp_all
      subst cS;simp only [Q6] at h;split at h
      . cases h
      . simp at h; obtain ⟨rfl, rfl⟩:=h
        refine ⟨rfl, Qi (λw' => ?_) (VRel.iface t _ _ hx)⟩;have:(Instr.makeInterface t (ev x)).run P w' = .ok (.iface t (ev x)) w':=by cases d <;> first | (exact absurd rfl (tO _)) | simp [Instr.makeInterface, Q1 hu]
        simp [execOp, this]
  case extract x i =>
    have hx:=hE x (by simpa using aj);simp at hc; subst hc;simp only [Q6] at h;split at h
    . rename_i vs h1
      rw [h1] at hx;obtain ⟨ds, hds, hl⟩:=hx.q1j;split at h
      . rename_i v0 hv
        simp at h; obtain ⟨rfl, rfl⟩:=h;obtain ⟨u, hu, cr⟩:=hl.get hv;have dz:ds[i]? = some u:=by simpa using hu
        exact ⟨rfl, u, cr, λw' _ => by simp [execOp, hds, Instr.extract, dz]⟩
      . cases h
    . cases h
  case nilCheck x =>
    have hx:=hE x (by simpa using aj);simp at hc; subst hc;simp only [Q6] at h;split at h
    . rename_i a h1
      rw [h1] at hx;simp at h; obtain ⟨rfl, rfl⟩:=h;have:∃ a', ev x = .pointer (some a'):=by generalize ev x = c at hx;cases hx <;> exact ⟨_, rfl⟩
      obtain ⟨a', jD⟩:=this;exact ⟨rfl, ev x, hx, λw' _ => by simp [execOp, jD]⟩
    . rename_i f first cap h1
      rw [h1] at hx;simp at h; obtain ⟨rfl, rfl⟩:=h;have:∃ g' c', ev x = .func (.func f) g' c':=by generalize ev x = c at hx;cases hx; exact ⟨_, _, rfl⟩
      obtain ⟨g', c', jD⟩:=this;exact ⟨rfl, ev x, hx, λw' _ => by simp [execOp, jD]⟩
    . cases h
  case call c =>
    split at hc
    . simp at hc; subst hc; simp [Q6] at h
    . simp at hc; subst hc; simp [Q6] at h
    . rename_i aE
      split at hc
      . rename_i t x ht au
        have ct:c.args = #[x]:=by apply Array.ext'; simpa using au
        have hx:=hE x (by simp [Call.operands, aE, ct] at aj; exact aj);split at hc
        . rename_i hu
          simp at hc; subst hc;simp only [Q6] at h;split at h
          . rename_i s h1
            rw [h1] at hx; simp at h; obtain ⟨rfl, rfl⟩:=h;refine ⟨rfl, Qi (λw' => ?_) (VRel.int _ _)⟩;simp [execOp, resolve, aE, ct, invoke, builtin, Builtin.len_, ht, hx.q0n, Q1 hu, goInt]
          . cases h
        . rename_i e hu
          simp at hc; subst hc;simp only [Q6] at h;split at h
          . rename_i a n cap h1
            rw [h1] at hx; simp at h; obtain ⟨rfl, rfl⟩:=h;obtain ⟨a', al, aX⟩:=hx.q1v;refine ⟨rfl, Qi (λw' => ?_) (VRel.int _ _)⟩;simp [execOp, resolve, aE, ct, invoke, builtin, Builtin.len_, ht, aX, Q1 hu, goInt]
          . cases h
        . cases hc
      . cases hc
    . rename_i aE
      split at hc
      . rename_i t u s x ht hu au
        split at hc
        . rename_i e f _ _
          cases hi:P.info? e with
          | none => simp [hi] at hc
          | some ei =>
            cases hz:zeroOf P e with
            | none => simp [hi, hz] at hc
            | some z =>
              simp only [hi, hz, zE, xd] at hc;split at hc
              . cases hc
              . simp at hc; subst hc; cases hq
        . cases hc
      . cases hc
    . rename_i aE
      split at hc
      . rename_i x y au
        have ct:c.args = #[x, y]:=by apply Array.ext'; simpa using au
        simp [Call.operands, aE, ct] at aj;have hx:=hE x aj.1;have hy:=hE y aj.2;simp at hc; subst hc;simp only [Q6] at h;split at h
        . rename_i k a k' b h1 h2
          rw [h1] at hx; rw [h2] at hy;split at h
          . simp at h; obtain ⟨rfl, rfl⟩:=h
            refine ⟨rfl, Qi (λw' => ?_) (VRel.int _ _)⟩;simp [execOp, resolve, aE, ct, invoke, builtin, Builtin.max_, Builtin.max2, hx.q0g, hy.q0g]
          . cases h
        . cases h
      . rename_i x y z au
        have ct:c.args = #[x, y, z]:=by apply Array.ext'; simpa using au
        simp [Call.operands, aE, ct] at aj;have hx:=hE x aj.1;have hy:=hE y aj.2.1;have hz:=hE z aj.2.2;simp at hc; subst hc;simp only [Q6] at h;split at h
        . rename_i k a k2 b k3 c' k4 d h1 h2 h3 h4
          rw [h1] at hx; rw [h2] at hy; rw [h3] at hz;split at h
          . rename_i hk; obtain ⟨rfl, rfl, rfl⟩:=hk
            simp at h; obtain ⟨rfl, rfl⟩:=h;refine ⟨rfl, Qi (λw' => ?_) (VRel.int _ _)⟩;have tP:=(Value.int.inj (h3.symm.trans h4)).2;subst tP;simp only [O3];simp [execOp, resolve, aE, ct, invoke, builtin, Builtin.max_, Builtin.max2, hx.q0g, hy.q0g, hz.q0g, FD]
          . cases h
        . cases h
      . rename_i x y z w au
        have ct:c.args = #[x, y, z, w]:=by apply Array.ext'; simpa using au
        simp [Call.operands, aE, ct] at aj;have hx:=hE x aj.1;have hy:=hE y aj.2.1;have hz:=hE z aj.2.2.1;have hw:=hE w aj.2.2.2;simp at hc; subst hc;simp only [Q6] at h;split at h
        . rename_i k a k2 b k3 c' k4 d h1 h2 h3 h4
          rw [h1] at hx; rw [h2] at hy; rw [h3] at hz; rw [h4] at hw;split at h
          . rename_i hk; obtain ⟨rfl, rfl, rfl⟩:=hk
            simp at h; obtain ⟨rfl, rfl⟩:=h;refine ⟨rfl, Qi (λw' => ?_) (VRel.int _ _)⟩;simp [execOp, resolve, aE, ct, invoke, builtin, Builtin.max_, Builtin.max2, hx.q0g, hy.q0g, hz.q0g, hw.q0g, FD]
          . cases h
        . cases h
      . cases hc
    . rename_i aE
      split at hc
      . rename_i x y au
        have ct:c.args = #[x, y]:=by apply Array.ext'; simpa using au
        simp [Call.operands, aE, ct] at aj;have hx:=hE x aj.1;have hy:=hE y aj.2;simp at hc; subst hc;simp only [Q6] at h;split at h
        . rename_i k a k' b h1 h2
          rw [h1] at hx; rw [h2] at hy;split at h
          . simp at h; obtain ⟨rfl, rfl⟩:=h
            refine ⟨rfl, Qi (λw' => ?_) (VRel.int _ _)⟩;simp [execOp, resolve, aE, ct, invoke, builtin, Builtin.min_, Builtin.min2, hx.q0g, hy.q0g]
          . cases h
        . cases h
      . cases hc
    . cases hc
  all_goals (first | (cases hc; done) | (split at hc <;> cases hc; done))
end
end Go.V
namespace Go.V
open Go
section
variable {P:Program}{ρ:Plc}{U U':Heap}{w:World}{ev:Operand->Value}{env:Env}{v:Value}
def R3 (P:Program) (ρ:Plc) (U:Heap) (w:World) (v:Value) (U':Heap) (s:Sem Next):Prop :=
 ∃ c w' ρ',(s.run P w=.ok (.value c) w'\/(s.run P w=.ok .skip w'/\c=undef))/\VRel ρ' U'.n v c/\HRel ρ' U' w'/\Ext ρ U w ρ' U' w'
theorem LD (z:List Value) (hz:z≠[]):∀ n,(List.range (n*z.length)).map (λi=>z[i % z.length]!)=(List.replicate n z).flatten:=by
 intro n;have dh:0<z.length:=xl.2 hz;induction n with
 |zero=>simp
 |succ n ih =>
  rw[xn,List.flatten_cons,<-ih,Nat.succ_mul,xL,List.range_add,xr,xY];congr 1
  .apply zK
   grind [Nat.mod_eq_of_lt]
  .apply zZ;intro i _;simp
theorem KD (n:Nat) (z:List Value):BI n z=(List.replicate n z).flatten:=by
 unfold BI;split
 .simp_all
 .rfl
theorem D8 (zero:Array Value) (z:List Value) (h:zero.toList=z) (hz:z≠[]) (n:Nat):((Array.range (n*z.length)).map (λi=>zero[i % zero.size]!)).toList=BI n z:=by
 rw[KD,<-LD z hz n];subst h;simp
 grind
theorem Pk (n:Nat) (z:List Value):(BI n z).length=n*z.length:=by rw[KD];simp_all
theorem EP (n:Nat) (z:List Value) (h:z.all cellOk=true):(BI n z).all cellOk=true:=by
 grind [KD,List.all_eq_true,List.mem_flatten]
theorem Dc (n:Nat) (z:List Value) (h:z.all QM=true):(BI n z).all QM=true:=by rw[KD,List.all_flatten];simp[List.all_replicate,h]
theorem Ba {lo:Option Operand}{yh ym:Operand}{n cap l h m:Nat}{kh km:IntKind}{ih im:Int}(p6:(lo=none/\l=0)\/∃ x k i,lo=some x/\ev x=.int k i/\0<=i/\l=i.toNat)
  (iX:ev yh=.int kh ih) (qa:0<=ih) (hh:h=ih.toNat) (iY:ev ym=.int km im) (qb:0<=im) (hm:m=im.toNat) (h1:l<=h) (h2:h<=m) (h3:m<=cap) (w:World) :
  (Instr.sliceBounds true n cap (lo.map ev) ((some yh).map ev) ((some ym).map ev)).run P w=.ok (l,h,m) w:=by
 subst hh;subst hm;rcases p6 with⟨rfl,rfl⟩|⟨x,k,i,rfl,hx,p7,rfl⟩
 .simp[Instr.sliceBounds,iX,iY,QX km im _ _ qb h3,QX kh ih _ _ qa h2]
 .simp[Instr.sliceBounds,hx,iX,iY,QX km im _ _ qb h3,QX kh ih _ _ qa h2,QX k i _ _ p7 h1]
theorem SF (hH:HRel ρ U w) {c:List Value}{C:Array Value}{esz:El}(hc:LRel ρ U.n c C.toList) {s:Sem Next}
  (hs:s.run P w=.ok (.value (.pointer (some ⟨w.heap.size,0,none⟩))) (w.alloc (.cells C esz.ty))) :
  R3 P ρ U w (.pointer (some ⟨U.n,0,none⟩)) (U.push (.cells c esz true true)) s:=by
 have hl:c.length=C.size:=by have:=hc.1;simpa using this
 obtain⟨ρ',h1,h2,h3⟩:=hH.alloc c C esz.ty esz true rfl (by
  grind [Array.length_toList,List.take_length]) (by omega)
 refine⟨_,_,ρ',.inl hs,.ptr _ _ _ (by simp) (λp hp=>?_),h2,h3⟩;simp_all
theorem P0 (hH:HRel ρ U w) {c:List Value}{C:Array Value}{esz:El}{n cap:Nat}(hc:LRel ρ U.n c C.toList) (hn:cap*esz.sz<=C.size) {s:Sem Next}
  (hs:s.run P w=.ok (.value (.slice (some ⟨w.heap.size,0,none⟩) n cap)) (w.alloc (.cells C esz.ty))) :
  R3 P ρ U w (.slice (some ⟨U.n,0,none⟩) n cap) (U.push (.cells c esz true true)) s:=by
 have hl:c.length=C.size:=by have:=hc.1;simpa using this
 obtain⟨ρ',h1,h2,h3⟩:=hH.alloc c C esz.ty esz true rfl (by
  grind [Array.length_toList,List.take_length]) (by omega)
 refine⟨_,_,ρ',.inl hs,.sl _ _ _ _ _ _ (by simp) (λp hp=>?_),h2,h3⟩;simp_all
theorem TQ (hH:HRel ρ U w) {esz n cap:Nat}{a:Option Addr}{xs:List Value}{c:Value}(h:U.sl esz (.slice a n cap)=some xs) (hv:VRel ρ U.n (.slice a n cap) c) :
  xs.length=n*esz/\∃ us:List Value,LRel ρ U.n xs us/\(∃ a' al,c=.slice a' n al)/\∀ w',Like ρ w w'->(Builtin.firstCells esz n c).run P w'=.ok us.toArray w':=by
 unfold Heap.sl at h;split at h
 .rename_i heq;simp at heq;obtain⟨rfl,rfl,rfl⟩:=heq;simp at h;subst h;obtain⟨_,_,rfl⟩:=hv.q1k;exact⟨by simp,[],LRel.nil _ _,⟨_,_,rfl⟩,λw' _=>by simp[Builtin.firstCells]⟩
 .rename_i i o n' iW heq;simp at heq;obtain⟨rfl,rfl,rfl⟩:=heq;split at h
  .rename_i c0 e wr tight hb;split at h
   .rename_i ah;obtain⟨mM,hlen⟩:=ah;simp at h;obtain⟨p,hp,_,_,_,_,h5,_⟩:=hH.live i _ hb;obtain⟨ad,al,rfl,aL,aN⟩:=hv.q1b;have du:xs.length=n*esz:=by rw[<-h];simp;omega
    obtain⟨_,_,⟨_,mN⟩|⟨o',rfl,_,ho⟩⟩:=aN p hp
    .subst mN;rw[Nat.zero_mul] at du;obtain rfl:=xu.1 du;refine⟨by simp,[],.nil _ _,⟨_,_,rfl⟩,λw' hl=>?_⟩;have:=run_loadCells_list (P:=P) w' ad [] (λj v hj=>by simp at hj);simp only[List.length_nil] at this;simp[Builtin.firstCells,this]
    refine⟨du,?_⟩;have jE:n*esz=0\/o'=o:=by
     grind
    have hex:∀ k,k<n*esz->∃ u,w.cell? ⟨p.blk,p.shift+o'+k,none⟩=some u/\∀ v,xs[k]?=some v->VRel ρ U.n v u:=λk hk=>by
     have mO:o'=o:=jE.resolve_left (by omega);subst mO;obtain⟨u,hu,cr⟩:=h5 (o'+k) _ (z8 (by omega))
     grind
    let us:List Value:=(List.range (n*esz)).map λk=>(w.cell? ⟨p.blk,p.shift+o'+k,none⟩).getD undef;have mP:us.length=n*esz:=by simp[us]
    have eM:∀ k,k<n*esz->∀ u,w.cell? ⟨p.blk,p.shift+o'+k,none⟩=some u->us[k]?=some u:=λk hk u hu=>by simp[us,hk,hu]
    refine⟨us,⟨by omega,λk v u hk hu=>?_⟩,⟨_,_,rfl⟩,λw' hl=>?_⟩
    .grind
    .have cM:∀ j v,us[j]?=some v->w'.cell? ((⟨p.blk,p.shift+o',none⟩:Addr).add j)=some v:=λj v hj=>by
      have bR:j<n*esz:=by grind
      obtain⟨u',dz,_⟩:=hex j bR;rw[eM j bR u' dz] at hj;obtain rfl:=osj hj;rw[Xb,Pg hl hp];exact dz
     have:=run_loadCells_list (P:=P) w' ⟨p.blk,p.shift+o',none⟩ us cM;rw[mP] at this;simp[Builtin.firstCells,this]
   .cases h
  .cases h
 .cases h
theorem EM (fk bn:Nat) (h:bn<fk):Builtin.nextslicecap fk bn<=2*fk:=by
 unfold Builtin.nextslicecap;split
 .omega
 .split
  .omega
  .have key:∀ r c,c<=2*fk->256<=fk->Builtin.growBy fk r c<=2*fk:=by
    intro r;induction r with
    |zero=>intro c hc _;exact hc
    |succ r ih =>
     intro c hc h2;unfold Builtin.growBy;split
     .exact hc
     .exact ih _ (by omega) h2
   exact key 4 bn (by omega) (by omega)
theorem Eh {n:Nat}{v c:Value}(h:cellOk v=true) (hv:VRel ρ n v c):c.oneCell'=true:=by cases hv<;>first|rfl|(simp[cellOk,poison] at h)
theorem YF {n:Nat}{vs cs:List Value}(h:vs.all cellOk=true) (hv:LRel ρ n vs cs):∀ c∈cs,c.oneCell'=true:=by
 intro c hc;obtain⟨k,hk⟩:=List.getElem?_of_mem hc;have cI:k<vs.length:=by have:=(zu.1 hk).1;have:=hv.1;omega
 exact Eh (by simp_all) (hv.2 k _ _ (z8 cI) hk)
theorem JB {t u e f:TypeId}{ei:TypeInfo}(ht:P.underlying t=some (.slice e)) (hu:P.underlying u=some (.slice f)) (hi:P.info? e=some ei) (ty:TypeId) (base:Option Addr) (n cap m:Nat) (x:Value) (us:List Value)
  (hx:∃ a' al,x=.slice a' m al) (e5:(Builtin.firstCells ei.size m x).run P w=.ok us.toArray w) (aQ:n+m<=cap) (w':World)
  (bB:(match base with|some a=>storeCells (a.add (n*ei.size)) us|none=>pure ()).run P w=.ok () w') :
  (Builtin.append_ #[t,u] ty #[.slice base n cap,x]).run P w=.ok (.slice base (n+m) cap) w':=by
 obtain⟨a',al,rfl⟩:=hx;unfold Builtin.append_;cases base with
 |none =>simp at bB;subst bB;simp[Q1 ht,Q1 hu,Qd hi,Builtin.lenOf,aQ,e5]
 |some a =>simp at bB;simp[Q1 ht,Q1 hu,Qd hi,Builtin.lenOf,aQ,e5,bB]
theorem X4 {t u e f:TypeId}{ei:TypeInfo}{zv:Value}(ht:P.underlying t=some (.slice e)) (hu:P.underlying u=some (.slice f)) (hi:P.info? e=some ei) (hz:ei.zero=some zv) (hb:ei.bytes≠0) (ty:TypeId) (base:Option Addr) (n cap m:Nat) (x:Value) (us os:List Value)
  (hx:∃ a' al,x=.slice a' m al) (e5:(Builtin.firstCells ei.size m x).run P w.drew=.ok us.toArray w.drew) (gT:(Builtin.firstCells ei.size n (.slice base n cap)).run P w.drew=.ok os.toArray w.drew)
  (aQ:¬ n+m<=cap) (aC:(n+m)*ei.bytes<=2 ^ 46) :
  ∃ aR,n+m<=aR/\(Builtin.append_ #[t,u] ty #[.slice base n cap,x]).run P w =
   .ok (.slice (some ⟨w.heap.size,0,none⟩) (n+m) aR) (w.drew.alloc (.cells ((os++us).toArray++Builtin.zeroCells zv.cells (aR-(n+m))) e)):=by
 obtain⟨a',al,rfl⟩:=hx;refine⟨(Question.appendCap (n+m) cap e).cut (w.tape w.drawn (.appendCap (n+m) cap e)),by simp[Question.cut],?_⟩;have h1:¬ (2 ^ 48<Builtin.nextslicecap (n+m) cap*ei.bytes):=by have:=EM (n+m) cap (by omega);have h2:Builtin.nextslicecap (n+m) cap*ei.bytes<=2*(n+m)*ei.bytes:=zp _ this;rw[Nat.mul_assoc] at h2;omega
 have mQ:∀ w:World,(typeInfo e).run P w=.ok ei w:=λw=>run_typeInfo w hi;have dt:∀ w:World,(zeroValue e).run P w=.ok zv w:=λw=>QY hi hz w;unfold Builtin.append_;simp[Q1 ht,Q1 hu,Qd hi,Builtin.lenOf,aQ,mQ,hb,h1,Question.forced,gT,e5,dt,newRow];congr 2;apply Array.ext';simp
theorem Xu (_hH:HRel ρ U w) (_hE:Ext ρ U w ρ U w) {σ1:Heap}{ρ1:Plc}(iL:HRel ρ1 σ1 w) (e9:Ext ρ U w ρ1 σ1 w) (fm:σ1.n=U.n) {bn xs os us:List Value}{zs:Array Value}{esz:El}{n aR:Nat}
  (ho:LRel ρ U.n bn os) (hx:LRel ρ U.n xs us) (hlen:bn.length+xs.length=n*esz.sz) (dY:zs.size=(aR-n)*esz.sz) (gf:n<=aR) {s:Sem Next}
  (hs:s.run P w=.ok (.value (.slice (some ⟨w.heap.size,0,none⟩) n aR)) (w.drew.alloc (.cells ((os++us).toArray++zs) esz.ty))) :
  R3 P ρ U w (.slice (some ⟨U.n,0,none⟩) n n) (σ1.push (.cells (bn++xs) esz true false)) s:=by
 have hl:(bn++xs).length=(os++us).length:=by simp[ho.1,hx.1]
 have aD:LRel ρ1 σ1.n (bn++xs) (((os++us).toArray++zs).toList.take (bn++xs).length):=by
  have h1:((os++us).toArray++zs).toList.take (bn++xs).length=os++us:=by
   grind
  rw[h1];exact(ho.append hx).mono e9.n e9.pl
 have aC:((os++us).toArray++zs).size=n*esz.sz+(aR-n)*esz.sz:=by simp_all
 have cf:(bn++xs).length<=((os++us).toArray++zs).size:=by rw[aC,zF];omega
 obtain⟨ρ',h1,h2,h3⟩:=(iL.drew).alloc (bn++xs) ((os++us).toArray++zs) esz.ty esz false rfl aD cf;have hh:w.drew.heap.size=w.heap.size:=rfl;rw[fm] at h1;refine⟨_,_,ρ',.inl hs,.sl _ _ _ _ _ _ (by simp[fm]) (λp hp=>?_),h2,(e9.trans (Ext.drew ρ1 σ1 w)).trans h3⟩;rw[h1] at hp;obtain rfl:=osj hp;refine⟨gf,⟨λh=>(by cases h),.inr ⟨0,rfl,?_,Or.inl rfl⟩⟩⟩;show 0+aR*esz.sz<=((os++us).toArray++zs).size;rw[aC,<-zH];simp_all
theorem Sl (hH:HRel ρ U w) {t u e f:TypeId}{ei:TypeInfo}{zv:Value}{z:List Value}(ht:P.underlying t=some (.slice e)) (hu:P.underlying u=some (.slice f)) (hi:P.info? e=some ei) (hz:ei.zero=some zv) (ga:zv.cells.toList=z) (dY:z.length=ei.size) (hb:ei.bytes≠0) (ty:TypeId)
  {s:Value}{a:Option Addr}{m kB:Nat}{xs:List Value}{cs cx:Value}(hs:VRel ρ U.n s cs) (hx:VRel ρ U.n (.slice a m kB) cx) (aW:U.sl z.length (.slice a m kB)=some xs) (aj:xs.all cellOk=true)
  (h:Y0 ⟨z.length,e⟩ ei.bytes U s m xs=some (v,U')) {qB:Sem Next}(aP:∀ r w',(Builtin.append_ #[t,u] ty #[cs,cx]).run P w=.ok r w'->qB.run P w=.ok (.value r) w'):R3 P ρ U w v U' qB:=by
 obtain⟨du,us,eN,dD,e5⟩:=TQ (P:=P) hH aW hx;rw[dY] at e5 du;have hL:=Like.refl ρ w;have iZ:Like ρ w w.drew:=⟨zd _,λ_ _ _=>rfl,λ_ _ _=>rfl⟩;have mP:us.length=m*ei.size:=by have:=eN.1;omega
 have hzero:∀ k,(Builtin.zeroCells zv.cells k).size=k*z.length:=(by grind [size_zeroCells]);unfold Y0 at h;split at h
 .
  obtain⟨_,_,rfl⟩:=hs.q1k;split at h
  .rename_i ez;subst ez;simp at h;obtain⟨rfl,rfl⟩:=h;have:us=[]:=xu.1 (by omega);subst this;have hr:=JB (w:=w) ht hu hi ty none 0 0 0 cx [] dD (e5 w hL) (zd _) w rfl;exact⟨_,w,ρ,.inl (aP _ _ hr),VRel.nilSl,hH,Ext.refl _ _ _⟩
  .rename_i ez;split at h
   .rename_i aC;simp at h;obtain⟨rfl,rfl⟩:=h;obtain⟨aR,gf,hr⟩:=X4 (w:=w) ht hu hi hz hb ty none 0 0 m cx us [] dD (e5 _ iZ) (by simp[Builtin.firstCells]) (by omega) (by simpa using aC);simp only[x4,xq] at hr gf;have:=Xu (P:=P) hH (Ext.refl _ _ _) hH (Ext.refl _ _ _) rfl (LRel.nil ρ U.n) eN (by simp;rw[du,<-dY]) (esz:=⟨z.length,e⟩) (n:=m) (hzero (aR-m)) gf (s:=qB) (by simpa using aP _ _ hr);simpa using this
   .cases h
 .
  rename_i i o n cap;obtain⟨ad,al,rfl,aL,aN⟩:=hs.q1b;split at h
  .rename_i c e' wr tight aB;obtain⟨p,hp,hB⟩:=hH.live i _ aB;obtain⟨dA,p9,⟨p_,mN⟩|⟨o',rfl,dB,gU⟩⟩:=aN p hp
   .
    obtain rfl:cap=0:=by omega
    subst p_ mN;split at h
    .rename_i ah;obtain⟨rfl,jF,fp⟩:=ah;dsimp only at fp h;split at h
     .rename_i ez;subst ez;simp at h;obtain⟨rfl,rfl⟩:=h;have:us=[]:=xu.1 (by omega);subst this;have hr:=JB (w:=w) ht hu hi ty (some ad) 0 0 0 cx [] dD (e5 w hL) (zd _) w rfl;exact⟨_,w,ρ,.inl (aP _ _ hr),hs,hH,Ext.refl _ _ _⟩
     .rename_i ez;split at h
      .omega
      .split at h
       .rename_i aC;have gg:U.sl z.length (.slice (some ⟨i,o,none⟩) 0 0)=some ((c.drop o).take (0*z.length)):=by
         have:o<=c.length:=by omega
         simp[Heap.sl,aB,this]
        obtain⟨_,os,i_,_,gT⟩:=TQ (P:=P) hH gg hs;rw[dY] at gT;have hlen:((c.drop o).take (0*z.length)).length+xs.length=(0+m)*z.length:=by rw[du,dY];simp
        obtain⟨aR,gf,hr⟩:=X4 (w:=w) ht hu hi hz hb ty (some ad) 0 0 m cx us os dD (e5 _ iZ) (gT _ iZ) (by omega) aC;split at h
        .grind [Prod.mk.inj,osj,Xu,Ext.refl]
        .split at h
         .obtain⟨rfl,rfl⟩:=Prod.mk.inj (osj h);obtain⟨bu,ax⟩:=hH.kill i;exact Xu hH (Ext.refl _ _ _) bu ax rfl i_ eN hlen (hzero _) gf (aP _ _ hr)
         .cases h
       .cases h
    .cases h
   have dC:p.esz=e':=hB.1;split at h
   .rename_i ah;obtain⟨rfl,jF,fp⟩:=ah;rw[dC] at dB;dsimp only at dB fp h;split at h
    .
     rename_i ez;subst ez;simp at h;obtain⟨rfl,rfl⟩:=h;have:us=[]:=xu.1 (by omega);subst this;have hr:=JB (w:=w) ht hu hi ty (some ⟨p.blk,p.shift+o',none⟩) n al 0 cx [] dD (e5 w hL) (by omega) w rfl;exact⟨_,w,ρ,.inl (aP _ _ hr),hs,hH,Ext.refl _ _ _⟩
    .rename_i ez;split at h
     .
      rename_i aQ;split at h
      .rename_i hw;obtain⟨rfl,fq⟩:=hw;simp at h;obtain⟨rfl,rfl⟩:=h;have jE:o'=o:=by
        omega
       subst jE;have hmul:(n+m)*z.length=n*z.length+m*z.length:=zH _ _ _;have tQ:m*ei.size=m*z.length:=by rw[dY]
       obtain⟨h2,h3⟩:=hH.store hp aB eN (o:=o'+n*z.length) (by omega)
       have bB:=run_storeCells_cells (P:=P) p.blk (p.shift+o'+n*z.length) us 0 w
        (λj hj=>by rw[zN,zz,zz];exact hB.q0t _ (by have:=hB.2.2.1;omega))
        (λj hj=>by rw[zN,zz,zz];exact(hB.2.2.2.2.2 rfl).2 _ (by have:=hB.2.2.1;omega))
        (YF aj eN)
       have hr:=JB (w:=w) ht hu hi ty (some ⟨p.blk,p.shift+o',none⟩) n al m cx us dD (e5 w hL) (by omega) _ (by
        simp only[Xb,<-dY];exact bB)
       refine⟨_,_,ρ,.inl (aP _ _ hr),.sl _ _ _ _ _ _ aL (λq hq=>?_),by rw[zN,zz];exact h2,by grind⟩;simp_all
      .cases h
     .rename_i aQ;split at h
      .rename_i aC;have hold:∀ k v,((c.drop o).take (n*z.length))[k]?=some v->∃ u,w.cell? ⟨p.blk,p.shift+o'+k,none⟩=some u/\VRel ρ U.n v u:=λk v hk=>by
        rw[xt] at hk;split at hk
        .rename_i cI;rw[zV] at hk;have jE:o'=o:=by
          grind
         subst jE;obtain⟨u,hu,cr⟩:=hB.2.2.2.2.1 _ v hk
         grind
        .cases hk
       have dR:((c.drop o).take (n*z.length)).length=n*z.length:=by simp;omega
       have gg:U.sl z.length (.slice (some ⟨i,o,none⟩) n cap)=some ((c.drop o).take (n*z.length)):=by simp[Heap.sl,aB,fp]
       obtain⟨_,os,i_,_,gT⟩:=TQ (P:=P) hH gg hs;rw[dY] at gT;have hlen:((c.drop o).take (n*z.length)).length+xs.length=(n+m)*z.length:=by rw[dR,du,zH,dY]
       split at h
       .
        rename_i fv;simp at h;obtain⟨rfl,rfl⟩:=h;have qC:al=cap:=p9 (by rw[hB.2.1];exact fv);subst qC;obtain⟨aR,gf,hr⟩:=X4 (w:=w) ht hu hi hz hb ty (some ⟨p.blk,p.shift+o',none⟩) n al m cx us os dD (e5 _ iZ) (gT _ iZ) aQ aC
        grind [Xu,Ext.refl]
       .rename_i fv;have tR:tight=false:=by simpa using fv
        subst tR;split at h
        .rename_i gy;subst gy;simp at h;obtain⟨rfl,rfl⟩:=h;by_cases fw:n+m<=al
         .
          have hmul:al*z.length=(n+m)*z.length+(al-(n+m))*z.length:=by rw[<-zH];congr 1;omega
          have sI:(n+m)*z.length=n*z.length+m*z.length:=zH _ _ _;have tQ:m*ei.size=m*z.length:=by rw[dY]
          obtain⟨ρ',h1,h2,h3⟩:=hH.onto hp aB o' hold eN (by rw[dR];omega)
          have bB:=run_storeCells_cells (P:=P) p.blk (p.shift+o'+n*z.length) us 0 w
           (λj hj=>by rw[zN,zz,zz];exact hB.q0t _ (by omega))
           (λj hj=>by rw[zN,zz,zz];exact(hB.2.2.2.2.2 rfl).2 _ (by omega))
           (YF aj eN)
          have hr:=JB (w:=w) ht hu hi ty (some ⟨p.blk,p.shift+o',none⟩) n al m cx us dD (e5 w hL) fw _ (by
           simp only[Xb,<-dY];exact bB)
          refine⟨_,_,ρ',.inl (aP _ _ hr),.sl _ _ _ _ _ _ (by simp) (λq hq=>?_),by rw[zN];rw[dR] at h2;exact h2,by rw[zN];rw[dR] at h3;exact h3⟩;rw[h1] at hq;obtain rfl:=osj hq;refine⟨fw,⟨λh=>(by cases h),.inr ⟨0,rfl,?_,Or.inl rfl⟩⟩⟩
          grind
         .obtain⟨aR,gf,hr⟩:=X4 (w:=w) ht hu hi hz hb ty (some ⟨p.blk,p.shift+o',none⟩) n al m cx us os dD (e5 _ iZ) (gT _ iZ) fw aC;obtain⟨bu,ax⟩:=hH.kill i;exact Xu hH (Ext.refl _ _ _) bu ax rfl i_ eN hlen (hzero _) gf (aP _ _ hr)
        .cases h
      .cases h
   .cases h
  .cases h
 .
  rename_i i o n cap;obtain⟨ad,rfl,aL,aN,cT⟩:=hs.q2m;split at h
  .rename_i c e' wr tight aB;obtain⟨p,hp,hB⟩:=hH.live i _ aB;obtain⟨rfl,dB⟩:=aN p hp;have dC:p.esz=e':=hB.1;split at h
   .rename_i ah;obtain⟨rfl,jF,fp,ez,aC⟩:=ah;rw[dC] at dB;dsimp only at dB fp h;simp at h;obtain⟨rfl,rfl⟩:=h;have dR:((c.drop o).take (n*z.length)).length=n*z.length:=by simp;omega
    have gg:U.sl z.length (.slice (some ⟨i,o,none⟩) n cap)=some ((c.drop o).take (n*z.length)):=by simp[Heap.sl,aB,fp]
    obtain⟨_,os,i_,_,gT⟩:=TQ (P:=P) hH gg cT;rw[dY] at gT;have hlen:((c.drop o).take (n*z.length)).length+xs.length=(n+m)*z.length:=by rw[dR,du,zH,dY]
    obtain⟨aR,gf,hr⟩:=X4 (w:=w) ht hu hi hz hb ty (some ⟨p.blk,p.shift+o,none⟩) n cap m cx us os dD (e5 _ iZ) (gT _ iZ) (by omega) aC
    grind [Xu,Ext.refl]
   .cases h
  .cases h
 .cases h
set_option maxHeartbeats 1000000 in
theorem Fu {o:Oper}{vo:VOp}(hc:KZ P o.op=some vo) (hq:vo.quiet=false) (hH:HRel ρ U w) (hE:∀ x,JL x=true->VRel ρ U.n (Q5 env x) (ev x))
  (h:Q6 vo (Q5 env) U=some (v,U')):R3 P ρ U w v U' (execOp ev o):=by
 obtain⟨dst,op,ty,pos,after,guard⟩:=o;simp only at hc;unfold KZ at hc;split at hc
 .cases hc
 rename_i aj;simp only[x3,x9] at aj;cases op<;>simp only[Op.operands] at aj hc
 case alloc t =>
  cases hz:zeroOf P t with
  |none=>simp[hz] at hc
  |some z =>simp[hz] at hc;subst hc;obtain⟨ti,zv,hi,dt,ga,_,iK⟩:=Wu hz;simp[Q6] at h;obtain⟨rfl,rfl⟩:=h;refine SF hH (C:=zv.cells) (esz:=⟨z.length,t⟩) (by rw[ga];exact JJ iK) ?_;simp[execOp,Instr.alloc,QY hi dt,newVar,newRow]
 case box t x =>
  have hx:=hE x (by simpa using aj);simp at hc;subst hc;simp only[Q6] at h;split at h
  .rename_i vs bY;simp at h;obtain⟨rfl,rfl⟩:=h;refine SF hH (C:=(ev x).cells) (esz:=⟨vs.length,t⟩) (GR bY hx) ?_;simp[execOp,Instr.box,newVar,newRow]
  .cases h
 case buildSlice t len parts =>
  split at hc
  .rename_i e hu;cases hz:zeroOf P e with
   |none=>simp[hz] at hc
   |some z =>
    obtain⟨ti,zv,hi,dt,ga,dY,iK⟩:=Wu hz;simp only[hz,zE,xd] at hc;split at hc
    .cases hc
    .rename_i ah;simp at ah;obtain⟨gI,hlen⟩:=ah;simp at hc;subst hc;simp only[Q6] at h;split at h
     .rename_i cs dQ;simp at h;obtain⟨rfl,rfl⟩:=h;have ky:∀ q∈parts.toList,JL q.2=true:=(by grind);have kD:=D8 zv.cells z ga gI len
      obtain⟨bj,me,jC⟩:=Rv (ρ:=ρ) (n:=U.n) (λi=>some (i*z.length,z.length)) _ ((parts.map λq=>(q.1,ev q.2)).toList) (BI len z) cs ((Array.range (len*z.length)).map (λi=>zv.cells[i % zv.cells.size]!)) (by simp)
       (by grind) dQ (by rw[kD];exact JJ (Dc _ _ iK))
      have cf:cs.length=len*z.length:=by
       have h1:∀ (l:List (Nat×Nat×Value)) (c c':List Value),U8 c l=some c'->c'.length=c.length:=by
        intro l;induction l with
        |nil=>intro c c' h;simp[U8] at h;rw[h]
        |cons a r ih =>
         intro c c' h;obtain⟨o1,s1,v1⟩:=a;simp only[U8] at h;split at h
         .grind [Xm]
         .cases h
       rw[h1 _ _ _ dQ,Pk]
      refine P0 hH (C:=bj) (esz:=⟨z.length,e⟩) jC (by have:=jC.1;simp_all) ?_;have hle:¬ (len*ti.size > 2 ^ 24):=by
       grind
      have qD:Instr.fill (λi=>some (i*ti.size,ti.size)) ((Array.range (len*ti.size)).map (λi=>zv.cells[i % zv.cells.size]!)) (parts.map λq=>(q.1,ev q.2)).toList=some bj:=by rw[<-dY];exact me
      by_cases a8:len*ti.size=0
      .have jG:∀ f:Nat->Value,(Array.range 0).map f=#[]:=λf=>by simp
       simp only[execOp];simp only[Instr.buildSlice,zx,Q1 hu,zj,Qd hi,a8,zB,xc];rw[a8,jG] at qD;simp only[jG,qD];simp[newRow]
      .simp only[execOp];simp only[Instr.buildSlice,zx,Q1 hu,zj,Qd hi,z6 hle,z6 a8,QY hi dt,xc,qD];simp[newRow]
     .cases h
  .cases hc
 case store t a x =>
  simp at aj;have ha:=hE a aj.1;have hx:=hE x aj.2;cases hi:P.info? t with
  |none=>simp[hi] at hc
  |some ti =>
   simp[hi] at hc;subst hc;simp only[Q6] at h;split at h
   .rename_i i o vs h1 bY;rw[h1] at ha;split at h
    .rename_i c e wr tight hb;split at h
     .rename_i ah;obtain⟨rfl,mR,ja,gV⟩:=ah;simp at h;obtain⟨rfl,rfl⟩:=h;obtain⟨p,hp,hB⟩:=hH.live i _ hb;obtain⟨_,aL,tS⟩:=ha.q0w hp;have hl:=GR bY hx;have az:(ev x).cells.size=ti.size:=by have:=hl.1;simp at this;omega
      obtain⟨h2,h3⟩:=hH.store hp hb hl (o:=o) (by omega);refine⟨undef,_,ρ,.inr ⟨?_,rfl⟩,Jl,h2,h3⟩
      have hr:=run_storeCells_cells (P:=P) p.blk (p.shift+o) (ev x).cells.toList 0 w
       (λj hj=>by rw[zN,zz];exact hB.q0t _ (by have:=hB.2.2.1;simp at hj;omega))
       (λj hj=>by rw[zN,zz];exact(hB.2.2.2.2.2 rfl).2 _ (by have:=hB.2.2.1;simp at hj;omega))
       (YF gV hl)
      simp only[execOp];simp only[Instr.storeAt,tS,Instr.sureAddr,zx,xc,zj,storeVar,Qd hi];simp_all
     .cases h
    .cases h
   .cases h
 case makeSlice t l c =>
  simp at aj;have hl:=hE l aj.1;have dA:=hE c aj.2;split at hc
  .rename_i e hu;cases hi:P.info? e with
   |none=>simp[hi] at hc
   |some ei =>
    cases hz:zeroOf P e with
    |none=>simp[hi,hz] at hc
    |some z =>
     obtain⟨ti,zv,cJ,dt,ga,dY,iK⟩:=Wu hz;obtain rfl:ei=ti:=osj (hi.symm.trans cJ);simp only[hi,hz,zE,xd] at hc;split at hc
     .cases hc
     .rename_i gI;simp at gI;simp at hc;subst hc;simp only[Q6] at h;split at h
      .rename_i k a k' b h1 h2;rw[h1] at hl;rw[h2] at dA;split at h
       .rename_i ah;obtain⟨wb,sH,jH,bF⟩:=ah;simp at h;obtain⟨rfl,rfl⟩:=h;have kD:=D8 zv.cells z ga gI b.toNat;have wc:(2:Int) ^ 46=70368744177664:=by decide
        have we:(2:Int) ^ 48=281474976710656:=by decide
        have qE:IntKind.i64.wrap a=a:=IntWalk.i64_in _ (by omega);have tT:IntKind.i64.wrap b=b:=IntWalk.i64_in _ (by omega);refine P0 hH (C:=(Array.range (b.toNat*z.length)).map (λi=>zv.cells[i % zv.cells.size]!)) (esz:=⟨z.length,e⟩) (by rw[kD];exact JJ (Dc _ _ iK)) (by simp) ?_;have tU:((ei.bytes:Int)*b > 2 ^ 48)=False:=by
         grind
        have qF:(b<0)=False:=by rw[eq_iff_iff,iff_false];omega
        have mS:(a<0)=False:=by rw[eq_iff_iff,iff_false];omega
        have sJ:(a > b)=False:=by rw[eq_iff_iff,iff_false];omega
        simp only[execOp];simp only[Instr.makeSlice,zx,Q1 hu,zj,hl.q0g,dA.q0g,asInt,asIntOf,xc,run_typeInfo w hi,qE,tT,tU,qF,mS,sJ];simp only[decide_false,x_,Bool.false_or,zq,if_false,run_askRoom,zx,zj,Qd hi];rw[<-dY];by_cases a8:b.toNat*z.length=0
        .have jG:∀ f:Nat->Value,(Array.range 0).map f=#[]:=λf=>by simp
         simp only[a8,zB,jG];simp[newRow]
        .simp only[a8,if_false,QY hi dt,zx,xc,zj];simp[newRow]
       .cases h
      .cases h
  .cases hc
 case slice t x lo hi mx =>
  have kA:JL x=true:=by simp at aj;exact aj.1
  have fN:∀ y,lo=some y->JL y=true:=(by simp_all);have fO:∀ y,hi=some y->JL y=true:=(by simp_all);have qG:∀ y,mx=some y->JL y=true:=(by simp_all);have hx:=hE x kA;split at hc
  .rename_i e hu;cases cg:P.info? e with
   |none=>simp[cg] at hc
   |some ei =>
    simp[cg] at hc;subst hc;cases mx with
    |none=>simp[VOp.quiet] at hq
    |some mo =>
     simp only[Q6] at h;split at h
     .rename_i a n cap h1;rw[h1] at hx;split at h
      .simp_all
      .rename_i l hh wg hl ku tV;split at h
       .rename_i m ho hm;have gd:=Wi hE fN hl;have mf:=Wi hE fO ku;have tW:=Wi hE qG hm;obtain⟨ym,km,im,tX,iY,qb,qH⟩:=tW.resolve_left (λhh=>by cases hh.1);obtain rfl:=osj tX;obtain⟨yh,kh,ih,tY,iX,qa,qI⟩:=mf.resolve_left (λhh=>by cases hh.1);obtain rfl:=osj tY;have mT:=λ(al:Nat) (h1:l<=hh) (h2:hh<=m) (h3:m<=al) w'=>Ba (P:=P) (n:=n) (cap:=al) gd iX qa qI iY qb qH h1 h2 h3 w';unfold W5 at h;split at h
        .rename_i heq;simp at heq;obtain⟨rfl,rfl,rfl⟩:=heq;obtain⟨_,_,aX⟩:=hx.q1k;split at h
         .rename_i ah;obtain⟨rfl,rfl,ez⟩:=ah;simp at ez;simp at h;obtain⟨rfl,rfl⟩:=h;subst ez;refine⟨.slice none 0 0,w,ρ,.inl ?_,VRel.nilSl,hH,Ext.refl _ _ _⟩;have:=mT 0 (zd _) (zd _) (zd _) w;simp only[xQ] at this;simp[execOp,aX,Instr.sliceAt,Instr.slice,Q1 hu,this,Qd cg]
         .cases h
        .rename_i i o n' iW heq;simp at heq;obtain⟨rfl,rfl,rfl⟩:=heq;simp only at h;split at h
         .rename_i c esz wr tight hb;split at h
          .rename_i ah;obtain⟨mM,qz,tZ,eA⟩:=ah;obtain⟨ad,al,aX,aL,aN⟩:=hx.q1b;obtain⟨p,hp,hB⟩:=hH.live i _ hb;have dA:=(aN p hp).1;have bM:=mT al qz tZ (zJ eA dA) w;simp only[xQ] at bM;obtain⟨-,p9,⟨p_,mN⟩|⟨o',rfl,dB,gU⟩⟩:=aN p hp
           .split at h
            .rename_i gW;subst gW;simp at h;obtain⟨rfl,rfl⟩:=h;have qJ:hh=m:=by omega
             subst qJ;have gb:∀ j,j<U.n->∀ q,(ρ.put U.n (some ⟨p.blk,p.shift,0,esz,true⟩)) j=some q->ρ j=some q:=λj hj q hq=>by unfold Plc.put at hq;rwa [z6 (by omega)] at hq
             have bg:∀ j,j≠U.n->(ρ.put U.n (some ⟨p.blk,p.shift,0,esz,true⟩)) j=ρ j:=λj hj=>by simp[Plc.put,hj]
             have eO:(ρ.put U.n (some ⟨p.blk,p.shift,0,esz,true⟩)) U.n=some ⟨p.blk,p.shift,0,esz,true⟩:=by simp[Plc.put]
             have gy:∀ B,Wr (ρ.put U.n (some ⟨p.blk,p.shift,0,esz,true⟩)) (U.push (.cells [] esz false true)) B->Wr ρ U B:=by
              rintro B ⟨j,q,b,hq,bD,hw,rfl⟩;by_cases aK:j=U.n
              .subst aK;rw[Heap.q0a] at bD;obtain rfl:=osj bD;cases hw
              .rw[Heap.q0e _ _ aK] at bD;rw[bg j aK] at hq;exact⟨j,q,b,hq,bD,hw,rfl⟩
             refine⟨.slice (some ad) 0 0,w,ρ.put U.n (some ⟨p.blk,p.shift,0,esz,true⟩),.inl ?_,.sl _ _ _ _ _ _ (by simp) (λq hq=>?_),⟨⟨?_,?_,?_,?_⟩,λg cs hg=>⟨(hH.tab g cs hg).1,λhw=>(hH.tab g cs hg).2 (gy g hw)⟩⟩,
              ⟨rfl,rfl,rfl,zd _,λ_ _ _=>rfl,λB _=>gy B,by simp,gb⟩⟩
             .simp[execOp,aX,Instr.sliceAt,Instr.slice,Q1 hu,bM,Qd cg]
             .omega
             .intro j b hj;by_cases aK:j=U.n
              .subst aK;rw[Heap.q0a] at hj;obtain rfl:=osj hj;obtain⟨C,e0,f0,hC,pY⟩:=hB.2.2.2.1;refine⟨_,eO,rfl,rfl,zd _,⟨C,e0,f0,hC,?_⟩,λk v hk=>by simp at hk,λhw=>by cases hw⟩
               grind
              .rw[Heap.q0e _ _ aK] at hj;obtain⟨q,hq,eL⟩:=hH.live j b hj;exact⟨q,by rw[bg j aK];exact hq,eL.mono (by simp) gb rfl⟩
             .intro j hj;by_cases aK:j=U.n
              .grind [Heap.q0a]
              .rw[Heap.q0e _ _ aK] at hj;rw[bg j aK];exact hH.dead j hj
             .intro j q hq;by_cases aK:j=U.n
              .subst aK;rw[eO] at hq;obtain rfl:=osj hq;exact hH.lt i p hp
              .rw[bg j aK] at hq;exact hH.lt j q hq
             .intro j k q r b dO hq hr bD hw qK;by_cases aK:j=U.n
              .subst aK;rw[Heap.q0a] at bD;obtain rfl:=osj bD;cases hw
              .rw[Heap.q0e _ _ aK] at bD;rw[bg j aK] at hq;by_cases iT:k=U.n
               .grind
               .rw[bg k iT] at hr;exact hH.sep j k q r b dO hq hr bD hw qK
            .omega
           have dC:p.esz.sz=ei.size:=by rw[hB.1];exact mM
           rw[dC] at dB;split at h
           .rename_i gW;subst gW;simp at h;obtain⟨rfl,rfl⟩:=h;have qJ:hh=m:=by omega
            subst qJ;have gb:∀ j,j<U.n->∀ q,(ρ.put U.n (some ⟨p.blk,p.shift+o',0,esz,true⟩)) j=some q->ρ j=some q:=λj hj q hq=>by unfold Plc.put at hq;rwa [z6 (by omega)] at hq
            have bg:∀ j,j≠U.n->(ρ.put U.n (some ⟨p.blk,p.shift+o',0,esz,true⟩)) j=ρ j:=λj hj=>by simp[Plc.put,hj]
            have eO:(ρ.put U.n (some ⟨p.blk,p.shift+o',0,esz,true⟩)) U.n=some ⟨p.blk,p.shift+o',0,esz,true⟩:=by simp[Plc.put]
            have gy:∀ B,Wr (ρ.put U.n (some ⟨p.blk,p.shift+o',0,esz,true⟩)) (U.push (.cells [] esz false true)) B->Wr ρ U B:=by
             rintro B ⟨j,q,b,hq,bD,hw,rfl⟩;by_cases aK:j=U.n
             .subst aK;rw[Heap.q0a] at bD;obtain rfl:=osj bD;cases hw
             .rw[Heap.q0e _ _ aK] at bD;rw[bg j aK] at hq;exact⟨j,q,b,hq,bD,hw,rfl⟩
            refine⟨.slice (some ⟨p.blk,p.shift+o',none⟩) 0 0,w,ρ.put U.n (some ⟨p.blk,p.shift+o',0,esz,true⟩),.inl ?_,.sl _ _ _ _ _ _ (by simp) (λq hq=>?_),⟨⟨?_,?_,?_,?_⟩,λg cs hg=>⟨(hH.tab g cs hg).1,λhw=>(hH.tab g cs hg).2 (gy g hw)⟩⟩,
             ⟨rfl,rfl,rfl,zd _,λ_ _ _=>rfl,λB _=>gy B,by simp,gb⟩⟩
            .simp[execOp,aX,Instr.sliceAt,Instr.slice,Q1 hu,bM,Qd cg]
            .omega
            .intro j b hj;by_cases aK:j=U.n
             .subst aK;rw[Heap.q0a] at hj;obtain rfl:=osj hj;obtain⟨C,e0,f0,hC,pY⟩:=hB.2.2.2.1;refine⟨_,eO,rfl,rfl,zd _,⟨C,e0,f0,hC,?_⟩,λk v hk=>by simp at hk,λhw=>by cases hw⟩
              grind
             .rw[Heap.q0e _ _ aK] at hj;obtain⟨q,hq,eL⟩:=hH.live j b hj;exact⟨q,by rw[bg j aK];exact hq,eL.mono (by simp) gb rfl⟩
            .intro j hj;by_cases aK:j=U.n
             .grind [Heap.q0a]
             .rw[Heap.q0e _ _ aK] at hj;rw[bg j aK];exact hH.dead j hj
            .intro j q hq;by_cases aK:j=U.n
             .subst aK;rw[eO] at hq;obtain rfl:=osj hq;exact hH.lt i p hp
             .rw[bg j aK] at hq;exact hH.lt j q hq
            .intro j k q r b dO hq hr bD hw qK;by_cases aK:j=U.n
             .subst aK;rw[Heap.q0a] at bD;obtain rfl:=osj bD;cases hw
             .rw[Heap.q0e _ _ aK] at bD;rw[bg j aK] at hq;by_cases iT:k=U.n
              .grind
              .rw[bg k iT] at hr;exact hH.sep j k q r b dO hq hr bD hw qK
           rename_i gW;split at h
           .rename_i t_;obtain⟨_,rfl⟩:=t_;simp at h;obtain⟨rfl,rfl⟩:=h;have jE:o'=o:=by
             grind
            subst jE;refine⟨.slice (some ⟨p.blk,p.shift+(o'+l*ei.size),none⟩) (hh-l) (hh-l),w,ρ,.inl ?_,.slx _ _ _ _ _ aL (λq hq=>?_),hH,Ext.refl _ _ _⟩
            .simp[execOp,aX,Instr.sliceAt,Instr.slice,Q1 hu,bM,Qd cg,gW,Xb,zz]
            .obtain rfl:p=q:=osj (hp.symm.trans hq);refine⟨rfl,?_⟩;rw[dC];have:al=l+((hh-l)+(al-hh)):=by omega
             grind [Nat.add_mul]
           .simp at h;obtain⟨rfl,rfl⟩:=h;refine⟨.slice (some ⟨p.blk,p.shift+(o'+l*ei.size),none⟩) (hh-l) (m-l),w,ρ,.inl ?_,.sl _ _ _ _ _ _ aL (λq hq=>?_),hH,Ext.refl _ _ _⟩
            .simp[execOp,aX,Instr.sliceAt,Instr.slice,Q1 hu,bM,Qd cg,gW,Xb,zz]
            .obtain rfl:p=q:=osj (hp.symm.trans hq);refine⟨zd _,λ_=>rfl,.inr ⟨o'+l*ei.size,rfl,?_,?_⟩⟩
             .rw[dC];have:al=l+((m-l)+(al-m)):=by omega
              grind [Nat.add_mul]
             omega
          .cases h
         .cases h
        .cases h
       .cases h
      .cases h
     .cases h
  .rename_i hu;split at hc
   .rename_i qA;cases mx with
    |some m=>simp at qA
    |none=>simp at hc;subst hc;simp[VOp.quiet] at hq
   .cases hc
  .cases hc
 case call c =>
  split at hc
  .simp at hc;subst hc;simp[VOp.quiet] at hq
  .simp at hc;subst hc;simp[VOp.quiet] at hq
  .split at hc
   .split at hc
    .simp at hc;subst hc;simp[VOp.quiet] at hq
    .simp at hc;subst hc;simp[VOp.quiet] at hq
    .cases hc
   .cases hc
  .rename_i aE;split at hc
   .rename_i t u s x ht qy au;split at hc
    .rename_i e f hu mg;cases hi:P.info? e with
     |none=>simp[hi] at hc
     |some ei =>
      cases hz:zeroOf P e with
      |none=>simp[hi,hz] at hc
      |some z =>
       obtain⟨ti,zv,cJ,dt,ga,dY,iK⟩:=Wu hz;obtain rfl:ei=ti:=osj (hi.symm.trans cJ);simp only[hi,hz,zE,xd] at hc;split at hc
       .cases hc
       .rename_i ah;simp at ah;obtain⟨gI,ua⟩:=ah;simp at hc;subst hc;have ct:c.args=#[s,x]:=by apply Array.ext';simpa using au
        simp[Call.operands,aE,ct] at aj;have hs:=hE s aj.1;have hx:=hE x aj.2;have mU:(Builtin.append_ c.argTypes ty #[ev s,ev x])=(Builtin.append_ #[t,u] ty #[ev s,ev x]):=by unfold Builtin.append_;simp[ht,qy]
        have aP:∀ r w',(Builtin.append_ #[t,u] ty #[ev s,ev x]).run P w=.ok r w'->(execOp ev {dst:=dst,op:=.call c,type:=ty,pos:=pos,after:=after,guard:=guard}).run P w=.ok (.value r) w':=λr w' hr=>by simp[execOp,resolve,aE,ct,invoke,builtin,mU,hr]
        simp only[Q6] at h;split at h
        .rename_i xs a m kB aW mV;rw[mV] at hx;split at h
         .rename_i mW;rw[mV] at aW;exact Sl hH hu mg hi dt ga dY ua ty hs hx aW mW h aP
         .cases h
        .cases h
    .cases hc
   .cases hc
  .split at hc
   .simp at hc;subst hc;simp[VOp.quiet] at hq
   .simp at hc;subst hc;simp[VOp.quiet] at hq
   .simp at hc;subst hc;simp[VOp.quiet] at hq
   .cases hc
  .split at hc
   .simp at hc;subst hc;simp[VOp.quiet] at hq
   .cases hc
  .cases hc
 case move x=>simp at hc;subst hc;simp[VOp.quiet] at hq
 case assign x=>simp at hc;subst hc;simp[VOp.quiet] at hq
 case pick c a b=>simp at hc;subst hc;simp[VOp.quiet] at hq
 case unOp=>simp at hc;subst hc;simp[VOp.quiet] at hq
 case extract=>simp at hc;subst hc;simp[VOp.quiet] at hq
 case nilCheck=>simp at hc;subst hc;simp[VOp.quiet] at hq
 all_goals
  repeat' first
   |(cases hc;done)
   |(simp at hc;subst hc;simp[VOp.quiet] at hq;done)
   |split at hc
 all_goals simp only[zE,zU,reduceCtorEq,and_false,exists_false] at hc
 all_goals first
  |(obtain⟨_,_,rfl⟩:=hc;simp[VOp.quiet] at hq;done)
  |(obtain⟨_,_,hc⟩:=hc;simp at hc;subst hc;simp[VOp.quiet] at hq;done)
  |(obtain⟨_,_,_,_,hc⟩:=hc;simp at hc;subst hc;simp[VOp.quiet] at hq;done)
  |(obtain⟨_,_,_,_,_,_,hc⟩:=hc;simp at hc;subst hc;simp[VOp.quiet] at hq;done)
  |(obtain⟨d,_,hc⟩:=hc;cases d<;>simp at hc<;>subst hc<;>simp[VOp.quiet] at hq;done)
  |(obtain⟨_,_,_,_,hc⟩:=hc;split at hc<;>simp at hc;subst hc;simp[VOp.quiet] at hq;done)
end
end Go.V
namespace Go.V
open Go
section
variable {P:Program}{ρ:Plc}{U U':Heap}{w:World}{ev:Operand->Value}{env:Env}{v:Value}
theorem VRel.q0o {n:Nat}{c:Value}(h:VRel ρ n (.pointer none) c):c=.pointer none:=by cases h;rfl
theorem VRel.q1f {n:Nat}{a:Addr}{c:Value}(h:VRel ρ n (.pointer (some a)) c):∃ b,c=.pointer (some b):=by cases h<;>exact⟨_,rfl⟩
theorem VRel.q0s {n:Nat}{c:Value}(h:VRel ρ n (.map none) c):c=.map none:=by cases h;rfl
theorem VRel.q1g {n:Nat}{m:Nat}{c:Value}(h:VRel ρ n (.map (some m)) c):∃ r,c=.map (some r)/\m<n/\∀ p,ρ m=some p->r=p.blk:=by
 cases h with
 |map _ r hi h=>exact⟨r,rfl,hi,h⟩
theorem VRel.q0z {n:Nat}{c:Value}(h:VRel ρ n .nilFunc c):c=.nilFunc:=by cases h;rfl
theorem VRel.q1n {n:Nat}{f:Fn}{a b:Array Value}{c:Value}(h:VRel ρ n (.func f a b) c):∃ g a' b',c=.func g a' b':=by cases h<;>exact⟨_,_,_,rfl⟩
theorem VRel.q1s {n:Nat}{a:Addr}{l k:Nat}{c:Value}(h:VRel ρ n (.slice (some a) l k) c):∃ b k',c=.slice (some b) l k':=by cases h<;>exact⟨_,_,rfl⟩
theorem VRel.q0x {n:Nat}{l k:Nat}{c:Value}(h:VRel ρ n (.slice none l k) c):c=.slice none 0 0:=by cases h;rfl
theorem AM (neg:Bool) (t:TypeId) (x y:Operand) (yt:TypeId) (ty:TypeId) (pos:String) (after:Array Edge) (dst:Option Tmp) (g:Option (Nat×Bool)) {a b:Value}{r:Bool}(hx:ev x=a) (hy:ev y=b)
  (hg:∀ op w',(eqGuard op t x y a b).run P w'=.ok () w') (h:∀ w',(binOp (if neg then .neq else .eql) t a b).run P w'=.ok (.bool (if neg then !r else r)) w') :
  C4 P ρ U w (.bool (if neg then !r else r)) (execOp ev ⟨dst,.binOp (if neg then .neq else .eql) t x y yt,ty,pos,after,g⟩):=by
 refine Qi (c:=.bool (if neg then !r else r)) (λw'=>?_) (.bool _);simp only[execOp,hx,hy];simp[hg,h]
theorem RL (op:BinOp) (t:TypeId) (x y:Operand) {a b:Value}(h:(∀ p q,¬ (a=.nilIface/\b=.nilIface)/\¬ (a=.agg p/\b=.agg q))) (w':World):(eqGuard op t x y a b).run P w'=.ok () w':=by
 have key:∀ op,op=.eql\/op=.neq->(eqGuard op t x y a b).run P w'=.ok () w':=by
  intro op ho;unfold eqGuard;rcases ho with rfl|rfl
  all_goals
   simp only[xO,zq,if_false];split
   .simp_all
   .simp_all
   .rfl
 cases op<;>first|exact key _ (.inl rfl)|exact key _ (.inr rfl)|rfl
theorem J6 {t:TypeId}{a b:Value}{r:Bool}(h:∀ d w',(Op.equalIn (d+1) t a b).run P w'=.ok r w')
  (hb:∀ neg:Bool,binOp (if neg then .neq else .eql) t a b=(do let r <-Op.equal t a b;pure (.bool (if neg then !r else r)))) (neg:Bool) (w':World) :
  (binOp (if neg then .neq else .eql) t a b).run P w'=.ok (.bool (if neg then !r else r)) w':=by
 rw[hb,zx];have:(Op.equal t a b).run P w'=.ok r w':=h 9999 w';rw[this];rfl
theorem Ex {kd:Nat}{t:TypeId}{a b c d:Value}{r:Bool}(hH:HRel ρ U w) (hk:(kd=0/\∃ e i,P.underlying t=some (.pointer e)/\P.info? e=some i)\/(kd=1/\∃ e,P.underlying t=some (.slice e)) \/
   (kd=2/\∃ k e,P.underlying t=some (.map k e))\/(kd=3/\∃ p q s,P.underlying t=some (.func p q s)))
  (ha:VRel ρ U.n a c) (hb:VRel ρ U.n b d) (h:J8 kd a b U=some r):(∀ (neg:Bool) w',(binOp (if neg then .neq else .eql) t c d).run P w'=.ok (.bool (if neg then !r else r)) w')/\(∀ p q,¬ (c=.nilIface/\d=.nilIface)/\¬ (c=.agg p/\d=.agg q)):=by
 unfold J8 at h;split at h
 .obtain rfl:=ha.q0o;obtain rfl:=hb.q0o;simp at h;subst h;rcases hk with⟨_,e,i,h1,h2⟩|⟨h0,_⟩|⟨h0,_⟩|⟨h0,_⟩<;>try (cases h0)
  exact⟨J6 (λd w'=>by simp[Op.equalIn,Q1 h1]) (λneg=>by cases neg<;>rfl),by simp⟩
 .obtain rfl:=ha.q0o;obtain⟨q,rfl⟩:=hb.q1f;simp at h;subst h;rcases hk with⟨_,e,i,h1,h2⟩|⟨h0,_⟩|⟨h0,_⟩|⟨h0,_⟩<;>try (cases h0)
  exact⟨J6 (λd w'=>by simp[Op.equalIn,Q1 h1]) (λneg=>by cases neg<;>rfl),by simp⟩
 .obtain⟨q,rfl⟩:=ha.q1f;obtain rfl:=hb.q0o;simp at h;subst h;rcases hk with⟨_,e,i,h1,h2⟩|⟨h0,_⟩|⟨h0,_⟩|⟨h0,_⟩<;>try (cases h0)
  exact⟨J6 (λd w'=>by simp[Op.equalIn,Q1 h1]) (λneg=>by cases neg<;>rfl),by simp⟩
 .rename_i i o j q;split at h
  .rename_i hc;obtain⟨rfl,rfl,hs⟩:=hc;simp at h;subst h;rcases hk with⟨_,e,i',h1,h2⟩|⟨h0,_⟩|⟨h0,_⟩|⟨h0,_⟩<;>try (cases h0)
   obtain⟨blk,aB⟩:=Option.isSome_iff_exists.1 hs;obtain⟨p,hp,_⟩:=hH.live _ _ aB;obtain⟨_,_,rfl⟩:=ha.q0w hp;obtain⟨_,_,rfl⟩:=hb.q0w hp;exact⟨J6 (λd w'=>by simp[Op.equalIn,Q1 h1,sizeOf,typeInfo,h2,run_sameAddr_same]) (λneg=>by cases neg<;>rfl),by simp⟩
  .cases h
 .obtain rfl:=ha.q0x;obtain rfl:=hb.q0x;simp at h;subst h;rcases hk with⟨h0,_⟩|⟨_,e,h1⟩|⟨h0,_⟩|⟨h0,_⟩<;>try (cases h0)
  exact⟨J6 (λd w'=>by simp[Op.equalIn,Q1 h1]) (λneg=>by cases neg<;>rfl),by simp⟩
 .obtain rfl:=ha.q0x;obtain⟨_,_,rfl⟩:=hb.q1s;simp at h;subst h;rcases hk with⟨h0,_⟩|⟨_,e,h1⟩|⟨h0,_⟩|⟨h0,_⟩<;>try (cases h0)
  exact⟨J6 (λd w'=>by simp[Op.equalIn,Q1 h1]) (λneg=>by cases neg<;>rfl),by simp⟩
 .obtain⟨_,_,rfl⟩:=ha.q1s;obtain rfl:=hb.q0x;simp at h;subst h;rcases hk with⟨h0,_⟩|⟨_,e,h1⟩|⟨h0,_⟩|⟨h0,_⟩<;>try (cases h0)
  exact⟨J6 (λd w'=>by simp[Op.equalIn,Q1 h1]) (λneg=>by cases neg<;>rfl),by simp⟩
 .obtain rfl:=ha.q0s;obtain rfl:=hb.q0s;simp at h;subst h;rcases hk with⟨h0,_⟩|⟨h0,_⟩|⟨_,k,e,h1⟩|⟨h0,_⟩<;>try (cases h0)
  exact⟨J6 (λd w'=>by simp[Op.equalIn,Q1 h1]) (λneg=>by cases neg<;>rfl),by simp⟩
 .obtain rfl:=ha.q0s;obtain⟨_,rfl,_⟩:=hb.q1g;simp at h;subst h;rcases hk with⟨h0,_⟩|⟨h0,_⟩|⟨_,k,e,h1⟩|⟨h0,_⟩<;>try (cases h0)
  exact⟨J6 (λd w'=>by simp[Op.equalIn,Q1 h1]) (λneg=>by cases neg<;>rfl),by simp⟩
 .obtain⟨_,rfl,_⟩:=ha.q1g;obtain rfl:=hb.q0s;simp at h;subst h;rcases hk with⟨h0,_⟩|⟨h0,_⟩|⟨_,k,e,h1⟩|⟨h0,_⟩<;>try (cases h0)
  exact⟨J6 (λd w'=>by simp[Op.equalIn,Q1 h1]) (λneg=>by cases neg<;>rfl),by simp⟩
 .obtain rfl:=ha.q0z;obtain rfl:=hb.q0z;simp at h;subst h;rcases hk with⟨h0,_⟩|⟨h0,_⟩|⟨h0,_⟩|⟨_,p,q,s,h1⟩<;>try (cases h0)
  exact⟨J6 (λd w'=>by simp[Op.equalIn,Q1 h1]) (λneg=>by cases neg<;>rfl),by simp⟩
 .obtain rfl:=ha.q0z;obtain⟨_,_,_,rfl⟩:=hb.q1n;simp at h;subst h;rcases hk with⟨h0,_⟩|⟨h0,_⟩|⟨h0,_⟩|⟨_,p,q,s,h1⟩<;>try (cases h0)
  exact⟨J6 (λd w'=>by simp[Op.equalIn,Q1 h1]) (λneg=>by cases neg<;>rfl),by simp⟩
 .obtain⟨_,_,_,rfl⟩:=ha.q1n;obtain rfl:=hb.q0z;simp at h;subst h;rcases hk with⟨h0,_⟩|⟨h0,_⟩|⟨h0,_⟩|⟨_,p,q,s,h1⟩<;>try (cases h0)
  exact⟨J6 (λd w'=>by simp[Op.equalIn,Q1 h1]) (λneg=>by cases neg<;>rfl),by simp⟩
 .cases h
def Q3k (ρ:Plc) (n:Nat) (e:MapEntry) (kv:JH):Prop:=e.key=kv.1/\e.born=kv.2.2/\VRel ρ n kv.2.1 e.val
def LERel (ρ:Plc) (n:Nat) (E:List MapEntry) (es:List JH):Prop:=E.length=es.length/\∀ (k:Nat) (e:MapEntry) (kv:JH),E[k]?=some e->es[k]?=some kv->Q3k ρ n e kv
theorem LERel.cons_inv {n:Nat}{E:List MapEntry}{es:List JH}{kv:JH}(h:LERel ρ n E (kv::es)):∃ e E',E=e::E'/\Q3k ρ n e kv/\LERel ρ n E' es:=by
 cases E with
 |nil=>have:=h.1;simp at this
 |cons e E'=>exact⟨e,E',rfl,h.2 0 e kv rfl rfl,by have:=h.1;simpa using this,λk a b ha hb=>h.2 (k+1) a b (by simpa using ha) (by simpa using hb)⟩
theorem ORel.q0q {n:Nat}{es:List JH}{clock:Nat}{O:Obj}:ORel ρ n (.map es clock) O<->∃ entries,O=.map entries clock/\LERel ρ n entries.toList es:=by
 constructor
 .rintro⟨entries,h1,h2,h3⟩;refine⟨entries,h1,by simpa using h2,λk e kv he dE=>?_⟩;obtain⟨e',h4,h5,h6,h7⟩:=h3 k kv dE;have:e=e':=by
   simp_all
  subst this;exact⟨h5,h6,h7⟩
 .rintro⟨entries,h1,h2,h3⟩;refine⟨entries,h1,by simpa using h2,λk kv dE=>?_⟩;have hk:k<es.length:=(zu.1 dE).1;have fM:k<entries.toList.length:=by omega
  obtain⟨h4,h5,h6⟩:=h3 k entries.toList[k] kv (z8 fM) dE;simp_all
theorem Xf:∀ {s:List MK}{l:List Value},fits s l=true->l.length=s.length
 |[],[],_=>rfl
 |_::s,_::l,h=>by simp only[fits,z1] at h;simp[Xf h.2]
 |[],_::_,h=>by cases h
 |_::_,[],h=>by cases h
theorem V8:∀ {s r:List MK}{l:List Value},fits (s++r) l=true->fits s (l.take s.length)=true/\fits r (l.drop s.length)=true
 |[],r,l,h=>by simpa [fits] using h
 |k::s,r,[],h=>by cases h
 |k::s,r,v::l,h=>by simp only[xw,fits,z1] at h;obtain⟨h1,h2⟩:=V8 h.2;simp only[xF,xN,xV,fits,z1];exact⟨⟨h.1,h1⟩,h2⟩
theorem UE:∀ (n:Nat) (l m:List Value),l.length=m.length->Qn l m=(Qn (l.take n) (m.take n)&&Qn (l.drop n) (m.drop n))
 |0,l,m,_=>by simp[Qn]
 |n+1,[],[],_=>by simp[Qn]
 |n+1,a::l,b::m,h=>by simp only[Qn,xN,xV];rw[UE n l m (by simpa using h),Bool.and_assoc]
 |n+1,[],_::_,h=>by simp at h
 |n+1,_::_,[],h=>by simp at h
def mkT (P:Program) (t:TypeId) (cs:List Value):Value:=match P.underlying t with
 |some (.struct _)=>.agg cs.toArray
 |some (.array _ _)=>.agg cs.toArray
 |_=>cs.headD undef
theorem UY {m:Nat}{t:TypeId}{s:List MK}(hs:shp P m t=some s) (hc:P.cellsOf t=s.length) {xs:Array Value}{off:Nat}(hf:fits s ((xs.toList.drop off).take s.length)=true) (w:World) :
  (part t xs off).run P w=.ok (mkT P t ((xs.toList.drop off).take s.length)) w:=by
 cases m with
 |zero=>simp[shp] at hs
 |succ m =>
  simp only[shp] at hs;have plain:∀ kd,P.underlying t=some kd->(∀ n e,kd≠.array n e)->(∀ fs,kd≠.struct fs)->s.length=1->(part t xs off).run P w=.ok (mkT P t ((xs.toList.drop off).take s.length)) w:=λkd hu h1 h2 h3=>by
   have hl:=Xf hf;rw[h3] at hl |-;have af:off<xs.size:=by
    grind
   have e:(xs.toList.drop off).take 1=[xs[off]]:=by
    grind [List.drop_eq_getElem_cons]
   rw[e];have:mkT P t [xs[off]]=xs[off]:=by unfold mkT;simp_all
   rw[this];cases kd<;>first|(exact absurd rfl (h1 _ _))|(exact absurd rfl (h2 _))|simp[part,isAgg,run_underlying hu,xy af]
  have agg:∀ kd,P.underlying t=some kd->((∃ n e,kd=.array n e)\/∃ fs,kd=.struct fs)->(part t xs off).run P w=.ok (mkT P t ((xs.toList.drop off).take s.length)) w:=λkd hu hk=>by
   obtain⟨i,hi⟩:=info_of_underlying hu;have hl:(xs.extract off (off+P.cellsOf t))=((xs.toList.drop off).take s.length).toArray:=by
    grind
   rcases hk with⟨n,e,rfl⟩|⟨fs,rfl⟩<;>simp[part,isAgg,run_underlying hu,run_sizeOf w hi,hl,mkT,hu]
  cases hu:P.underlying t with
  |none=>rw[hu] at hs;cases hs
  |some kd =>
   rw[hu] at hs;cases kd
   case bool=>grind
   case int q=>grind
   case string=>grind
   case array n e=>exact agg _ hu (.inl ⟨_,_,rfl⟩)
   case struct fs=>exact agg _ hu (.inr ⟨_,rfl⟩)
   all_goals cases hs
theorem AA {g:TypeId->Option (List MK)}{m d:Nat}(hg:g=shp P m) (ih:∀ t s,shp P m t=some s->∀ (w:World) (cs ds:List Value),fits s cs=true->fits s ds=true->(Op.equalIn (d+m) t (mkT P t cs) (mkT P t ds)).run P w=.ok (Qn cs ds) w) {xs ys:Array Value}(w:World) :
  ∀ (fs:List Field) (off:Nat) (ss:List MK),Cs P g fs off=some ss->fits ss (xs.toList.drop off)=true->fits ss (ys.toList.drop off)=true->(Op.eqFields (d+m) xs ys fs).run P w=.ok (Qn (xs.toList.drop off) (ys.toList.drop off)) w
 |[],off,ss,h,h1,h2=>by simp only[Cs,xg] at h;subst h;have e1:=Xf h1;have e2:=Xf h2;rw[List.eq_nil_of_length_eq_zero e1];simp[Op.eqFields,Qn]
 |f::r,off,ss,h,h1,h2=>by
  simp only[Cs] at h;split at h
  .rename_i hn;obtain⟨hn,rfl⟩:=hn;split at h
   .rename_i s hs;split at h
    .rename_i hc;obtain⟨q,hq,rfl⟩:=zt.1 h;obtain⟨a1,a2⟩:=V8 h1;obtain⟨b1,b2⟩:=V8 h2;rw[List.drop_drop] at a2 b2;rw[hg] at hs;have p1:=UY hs hc a1 w;have p2:=UY hs hc b1 w;have p3:=ih f.type s hs w _ _ a1 b1;have hr:=AA hg ih w r (f.offset+s.length) q hq a2 b2;rw[UE s.length _ _ (by rw[Xf h1,Xf h2]),List.drop_drop,List.drop_drop];simp only[Op.eqFields,hn,ne_eq,not_false_eq_true,zB,zx,p1,p2,p3,zj];cases hb:Qn (List.take s.length (List.drop f.offset xs.toList)) (List.take s.length (List.drop f.offset ys.toList)) with
     |false=>simp
     |true=>simpa using hr
    .cases h
   .cases h
  .cases h
theorem P9 {m d:Nat}{e:TypeId}{s:List MK}(hs:shp P m e=some s) (hc:P.cellsOf e=s.length) (ih:∀ (w:World) (cs ds:List Value),fits s cs=true->fits s ds=true->(Op.equalIn (d+m) e (mkT P e cs) (mkT P e ds)).run P w=.ok (Qn cs ds) w) {xs ys:Array Value}(w:World) :
  ∀ (k i:Nat),fits (List.replicate k s).flatten (xs.toList.drop (i*s.length))=true->fits (List.replicate k s).flatten (ys.toList.drop (i*s.length))=true->(Op.eqItems (d+m) e (P.cellsOf e) xs ys (List.range' i k)).run P w=.ok (Qn (xs.toList.drop (i*s.length)) (ys.toList.drop (i*s.length))) w
 |0,i,h1,h2=>by have e1:=Xf h1;have e2:=Xf h2;simp only[List.replicate_zero,List.flatten_nil,List.length_nil] at e1 e2;rw[List.eq_nil_of_length_eq_zero e1];simp[Op.eqItems,Qn]
 |k+1,i,h1,h2=>by
  rw[xn,List.flatten_cons] at h1 h2;obtain⟨a1,a2⟩:=V8 h1;obtain⟨b1,b2⟩:=V8 h2;rw[List.drop_drop,<-Nat.succ_mul] at a2 b2;have p1:=UY hs hc a1 w;have p2:=UY hs hc b1 w;have p3:=ih w _ _ a1 b1;have hr:=P9 hs hc ih w k (i+1) a2 b2;rw[UE s.length _ _ (by rw[Xf h1,Xf h2]),List.drop_drop,List.drop_drop,<-Nat.succ_mul];rw[hc] at hr |-;simp only[List.range'_succ,Op.eqItems,zx,p1,p2,p3,zj];cases hb:Qn (List.take s.length (List.drop (i*s.length) xs.toList)) (List.take s.length (List.drop (i*s.length) ys.toList)) with
  |false=>simp
  |true=>simpa using hr
theorem Vc (d:Nat):∀ (m:Nat) (t:TypeId) (s:List MK),shp P m t=some s->∀ (w:World) (cs ds:List Value),fits s cs=true->fits s ds=true->(Op.equalIn (d+m) t (mkT P t cs) (mkT P t ds)).run P w=.ok (Qn cs ds) w
 |0,t,s,h=>by simp[shp] at h
 |m+1,t,s,h=>by
  intro w cs ds h1 h2;simp only[shp] at h;have one:∀ {k:MK}{cs:List Value},fits [k] cs=true->∃ a,cs=[a]/\OC k a=true:=λ{k cs} h=>by
   cases cs with
   |nil=>cases h
   |cons a l =>
    cases l with
    |nil=>exact⟨a,rfl,by simpa [fits] using h⟩
    |cons b l=>simp[fits] at h
  cases hu:P.underlying t with
  |none=>rw[hu] at h;cases h
  |some kd =>
   rw[hu] at h;cases kd
   case bool =>
    obtain rfl:=osj h;obtain⟨a,rfl,ha⟩:=one h1;obtain⟨b,rfl,hb⟩:=one h2;cases a<;>first|(cases ha;done)|skip
    cases b<;>first|(cases hb;done)|skip
    simp only[mkT,hu,List.headD_cons,Qn,Ko,xB];exact run_equalIn_bool' w (d+m) t _ _ hu
   case int q =>
    obtain rfl:=osj h;obtain⟨a,rfl,ha⟩:=one h1;obtain⟨b,rfl,hb⟩:=one h2;cases a<;>first|(cases ha;done)|skip
    cases b<;>first|(cases hb;done)|skip
    simp only[OC,zg] at ha hb;subst ha;subst hb;simp only[mkT,hu,List.headD_cons,Qn,Ko,xB]
    grind [run_equalIn_int]
   case string =>
    obtain rfl:=osj h;obtain⟨a,rfl,ha⟩:=one h1;obtain⟨b,rfl,hb⟩:=one h2;cases a<;>first|(cases ha;done)|skip
    cases b<;>first|(cases hb;done)|skip
    simp only[mkT,hu,List.headD_cons,Qn,Ko,xB]
    grind [ByteArray.toList_eq,run_equalIn_string]
   case array n e =>
    simp only at h;split at h
    .rename_i s' aS;split at h
     .rename_i hc;obtain rfl:=osj h;obtain⟨i,hi⟩:∃ i,P.info? e=some i:=by
       cases m with
       |zero=>simp[shp] at aS
       |succ m =>
        simp only[shp] at aS;cases iV:P.underlying e with
        |none=>rw[iV] at aS;cases aS
        |some _=>exact info_of_underlying iV
      simp only[mkT,hu];rw[show d+(m+1)=(d+m)+1 from rfl,run_equalIn_array w (d+m) _ _ hu hi,List.range_eq_range'];have:=P9 (d:=d) aS hc (Vc d m e s' aS) (xs:=cs.toArray) (ys:=ds.toArray) w n 0 (by simpa using h1) (by simpa using h2);simpa using this
     .cases h
    .cases h
   case struct fs =>
    simp only at h;split at h
    .cases h
    .rename_i bB;have p8:P.fieldsOf t=fs:=by simp[Program.fieldsOf,hu]
     simp only[mkT,hu];rw[show d+(m+1)=(d+m)+1 from rfl,run_equalIn_struct w (d+m) t _ _ (by rw[p8];exact hu) (by simpa using bB),p8];have:=AA (d:=d) rfl (Vc d m) (xs:=cs.toArray) (ys:=ds.toArray) w fs.toList 0 s h (by simpa using h1) (by simpa using h2);simpa using this
   all_goals cases h
theorem By {n:Nat}:∀ {s:List MK}{l m:List Value},fits s l=true->LRel ρ n l m->m=l
 |[],[],m,_,hr=>by have:=hr.1;grind
 |k::s,v::l,[],_,hr=>by have:=hr.1;simp at this
 |k::s,v::l,c::m,h,hr=>by
  simp only[fits,z1] at h;have h0:=hr.2 0 v c rfl rfl;have e:c=v:=by cases k<;>cases v<;>first|(cases h.1;done)|(cases h0;rfl)
  have jb:LRel ρ n l m:=⟨by have:=hr.1;simpa using this,λi a b ha hb=>hr.2 (i+1) a b (by simpa using ha) (by simpa using hb)⟩;rw[e,By h.2 jb]
 |[],_::_,_,h,_=>by cases h
 |_::_,[],_,h,_=>by cases h
def Q0j (P:Program) (t:TypeId):MK->TypeDesc->Prop
 |.int k,d=>d=.int k
 |.string,d=>d=.string
 |.bool,d=>d=.bool
 |.agg s,d=>shp P 8 t=some s/\((∃ fs,d=.struct fs)\/∃ n e,d=.array n e)
theorem UO {t:TypeId}{mk:MK}(h:SL P t=some mk):∃ d,P.underlying t=some d/\Q0j P t mk d:=by
 unfold SL at h;split at h
 .rename_i k hk;simp at h;subst h;exact⟨_,hk,rfl⟩
 .rename_i hk;simp at h;subst h;exact⟨_,hk,rfl⟩
 .rename_i hk;simp at h;subst h;exact⟨_,hk,rfl⟩
 .rename_i fs hk;obtain⟨s,hs,rfl⟩:=zt.1 h;exact⟨_,hk,hs,.inl ⟨fs,rfl⟩⟩
 .rename_i n e hk;obtain⟨s,hs,rfl⟩:=zt.1 h;exact⟨_,hk,hs,.inr ⟨n,e,rfl⟩⟩
 .cases h
theorem Yg {n:Nat}{v c:Value}(h:QM v=true) (hv:VRel ρ n v c):c=v:=by cases hv<;>first|rfl|(simp[QM,poison] at h)
theorem BP {mk:MK}{k c:Value}{n:Nat}(h:ZZ mk k=true) (hv:VRel ρ n k c):c=k:=by
 unfold ZZ at h;split at h<;>first|(cases h;done)|(exact Yg rfl hv)|skip
 obtain⟨ds,rfl,hl⟩:=hv.q1i
 grind [By,Array.toList_inj]
def MK.plain:MK->Bool
 |.agg _=>false
 |_=>true
theorem Ff {mk:MK}(hp:mk.plain=true) {t:TypeId}{d:TypeDesc}(hd:Q0j P t mk d) {a b:Value}(ha:ZZ mk a=true) (hb:ZZ mk b=true):Instr.sameNow d a b=some (Yq a b):=by
 cases mk
 case agg=>cases hp
 all_goals
  cases a<;>first|(cases ha;done)|skip
  cases b<;>first|(cases hb;done)|skip
  simp only[Q0j] at hd;subst hd
 .simp[ZZ] at ha hb;subst ha;subst hb;simp[Instr.sameNow,Yq]
 .simp[Instr.sameNow,Yq,beq_toListBytes,ByteArray.toList_eq]
 .simp[Instr.sameNow,Yq]
theorem TB:∀ {s:List MK}{l m:List Value},fits s l=true->fits s m=true->Qn l m=true->((m.zip l).all λp=>Instr.sameBits 9999 p.1 p.2)=true
 |[],[],[],_,_,_=>rfl
 |k::s,a::l,b::m,h1,h2,h3=>by
  simp only[fits,Qn,z1] at h1 h2 h3;simp only[List.zip_cons_cons,zR,z1];refine⟨?_,TB h1.2 h2.2 h3.2⟩;obtain⟨h1,_⟩:=h1;obtain⟨h2,_⟩:=h2;obtain⟨h3,_⟩:=h3;cases k<;>cases a<;>first|(cases h1;done)|(cases b<;>first|(cases h2;done)|skip)
  .simp only[OC,zg] at h1 h2;subst h1;subst h2;simp only[Ko,zr] at h3;subst h3;simp[Instr.sameBits]
  .simp only[Ko,zr] at h3;simp[Instr.sameBits,beq_toListBytes,ByteArray.toList_eq,h3]
  .simp only[Ko,zr] at h3;subst h3;simp[Instr.sameBits]
 |[],_::_,_,h,_,_=>by cases h
 |[],[],_::_,_,h,_=>by cases h
 |_::_,[],_,h,_,_=>by cases h
 |_::_,_::_,[],_,h,_=>by cases h
theorem M7 {mk:MK}{a b:Value}(ha:ZZ mk a=true) (hb:ZZ mk b=true) (h:Yq a b=true):Instr.sameBits 10000 b a=true:=by
 cases mk
 case agg s =>
  cases a<;>first|(cases ha;done)|skip
  cases b<;>first|(cases hb;done)|skip
  rename_i x y;simp only[ZZ] at ha hb;simp only[Yq] at h;simp only[Instr.sameBits,z1,zr];have h1:=Xf ha;have h2:=Xf hb
  grind [TB]
 all_goals
  cases a<;>first|(cases ha;done)|skip
  cases b<;>first|(cases hb;done)|skip
 .simp[ZZ] at ha hb;subst ha;subst hb;simp[Yq] at h;subst h;simp[Instr.sameBits]
 .simp[Yq] at h;simp[Instr.sameBits,beq_toListBytes,ByteArray.toList_eq,h]
 .simp[Yq] at h;simp[Instr.sameBits,h]
theorem Ya {t:TypeId}{d:TypeDesc}(hd:P.underlying t=some d) {a:Value}(hm:(∃ k,d=.int k)\/d=.string\/d=.bool) (e:Bool) (n:Nat) (w':World):(Instr.checkKey e (n+1) t a).run P w'=.ok () w':=by simp only[Instr.checkKey,zx,Q1 hd,zj];rcases hm with⟨k,rfl⟩|rfl|rfl<;>rfl
theorem E9 {e:Bool}{g:TypeId->Option (List MK)}{m d:Nat}(hg:g=shp P m) (ih:∀ t s,shp P m t=some s->∀ (w:World) (cs:List Value),fits s cs=true->(Instr.checkKey e (d+m) t (mkT P t cs)).run P w=.ok () w) {xs:Array Value}(w:World) :
  ∀ (fs:List Field) (off:Nat) (ss:List MK),Cs P g fs off=some ss->fits ss (xs.toList.drop off)=true->(forIn fs PUnit.unit λf (_:PUnit)=>(do
   if f.name≠"_" then Instr.checkKey e (d+m) f.type (<-part f.type xs f.offset)
   pure (ForInStep.yield PUnit.unit):Sem (ForInStep PUnit))).run P w=.ok PUnit.unit w
 |[],off,ss,h,h1=>by simp
 |f::r,off,ss,h,h1=>by
  simp only[Cs] at h;split at h
  .rename_i hn;obtain⟨hn,rfl⟩:=hn;split at h
   .rename_i s hs;split at h
    .rename_i hc;obtain⟨q,hq,rfl⟩:=zt.1 h;obtain⟨a1,a2⟩:=V8 h1;rw[List.drop_drop] at a2;rw[hg] at hs;have p1:=UY hs hc a1 w;have p3:=ih f.type s hs w _ a1;have hr:=E9 hg ih w r (f.offset+s.length) q hq a2;simp_all
    .cases h
   .cases h
  .cases h
theorem H5 (e:Bool) (d:Nat):∀ (m:Nat) (t:TypeId) (s:List MK),shp P m t=some s->∀ (w:World) (cs:List Value),fits s cs=true->(Instr.checkKey e (d+m) t (mkT P t cs)).run P w=.ok () w
 |0,t,s,h=>by simp[shp] at h
 |m+1,t,s,h=>by
  intro w cs h1;simp only[shp] at h;cases hu:P.underlying t with
  |none=>rw[hu] at h;cases h
  |some kd =>
   rw[hu] at h;cases kd
   case bool=>grind [Ya]
   case int q=>grind [Ya]
   case string=>rw[show d+(m+1)=(d+m)+1 from rfl];exact Ya hu (by simp) e (d+m) w
   case array n el =>
    simp only at h;split at h
    .rename_i s' aS;split at h
     .rename_i hc;obtain rfl:=osj h;obtain⟨i,hi⟩:∃ i,P.info? el=some i:=by
       cases m with
       |zero=>simp[shp] at aS
       |succ m =>
        simp only[shp] at aS;cases iV:P.underlying el with
        |none=>rw[iV] at aS;cases aS
        |some _=>exact info_of_underlying iV
      simp only[mkT,hu];rw[show d+(m+1)=(d+m)+1 from rfl,Instr.checkKey];simp only[zx,run_underlying hu,zj];simp only[Std.Legacy.Range.forIn_eq_forIn_range',Std.Legacy.Range.size,Nat.sub_zero,Nat.add_one_sub_one,Nat.div_one]
      have key:∀ (k i:Nat),fits (List.replicate k s').flatten (cs.drop (i*s'.length))=true->(forIn (List.range' i k) PUnit.unit λi (_:PUnit)=>(do
        Instr.checkKey e (d+m) el (<-part el cs.toArray (i*(<-sizeOf el)))
        pure (ForInStep.yield PUnit.unit):Sem (ForInStep PUnit))).run P w=.ok PUnit.unit w:=by
       intro k;induction k with
       |zero=>intro i _;simp
       |succ k ub =>intro i hf;rw[xn,List.flatten_cons] at hf;obtain⟨a1,a2⟩:=V8 hf;rw[List.drop_drop,<-Nat.succ_mul] at a2;have p1:=UY (xs:=cs.toArray) (off:=i*s'.length) aS hc (by simpa using a1) w;have p2:=H5 e d m el s' aS w _ a1;have hr:=ub (i+1) a2;simp only[List.range'_succ,List.forIn_cons,zx,run_sizeOf w hi,hc,zj,p1,p2,xc];exact hr
      simp_all
     .cases h
    .cases h
   case struct fs =>
    simp only at h;split at h
    .cases h
    .simp only[mkT,hu];rw[show d+(m+1)=(d+m)+1 from rfl,Instr.checkKey];simp only[zx,run_underlying hu,zj];rw[<-Array.forIn_toList];have:=E9 (e:=e) (d:=d) rfl (H5 e d m) (xs:=cs.toArray) w fs.toList 0 s h (by simpa using h1);simp_all
   all_goals cases h
theorem CV {t:TypeId}{d:TypeDesc}(hd:P.underlying t=some d) (hk:(∃ fs,d=.struct fs)\/∃ n e,d=.array n e) (a:Array Value):mkT P t a.toList=.agg a:=by unfold mkT;rcases hk with⟨fs,rfl⟩|⟨n,e,rfl⟩<;>simp[hd]
theorem Zq {mk:MK}{t:TypeId}{d:TypeDesc}(hd:P.underlying t=some d) (hm:Q0j P t mk d) {a:Value}(ha:ZZ mk a=true) (e:Bool) (w':World):(Instr.checkKey e 10000 t a).run P w'=.ok () w':=by
 cases mk
 case agg s =>
  cases a<;>first|(cases ha;done)|skip
  rename_i x;have:=H5 (P:=P) e 9992 8 t s hm.1 w' x.toList ha;rw[CV hd hm.2] at this;exact this
 all_goals (cases a<;>first|(cases ha;done)|(simp only[Q0j] at hm;subst hm;exact Ya hd (by simp) e 9999 w'))
theorem EY {mk:MK}(hp:mk.plain=true) {t:TypeId}{d:TypeDesc}(hd:Q0j P t mk d) {k:Value}(hk:ZZ mk k=true) (nv:Value) (c:Nat) {n:Nat}:∀ (es:List JH) (E:List MapEntry) (i:Nat),LERel ρ n E es->es.all (λe=>ZZ mk e.1)=true ->
  (QK k es=none/\Instr.findNow d k E i=some none/\QW k nv c es=(es++[(k,nv,c)],c+1)) \/
  (∃ j e e',QK k es=some e/\es[j]?=some e/\E[j]?=some e'/\Instr.findNow d k E i=some (some (i+j,e'.val))/\Yq k e.1=true/\QW k nv c es=(es.set j (k,nv,e.2.2),c)):=by
 intro es;induction es with
 |nil =>
  intro E i hE _;have:E=[]:=by have:=hE.1;simpa using this
  subst this;exact .inl ⟨rfl,rfl,rfl⟩
 |cons kv es ih =>
  intro E i hE hall;obtain⟨e,E',rfl,he,bG⟩:=hE.cons_inv;simp only[zR,z1] at hall;have hs:Instr.sameNow d k e.key=some (Yq k kv.1):=by rw[he.1];exact Ff hp hd hk hall.1
  cases hq:Yq k kv.1 with
  |true =>refine .inr ⟨0,kv,e,by simp[QK,hq],rfl,rfl,?_,hq,by simp[QW,hq]⟩;simp[Instr.findNow,hs,hq]
  |false =>
   rcases ih E' (i+1) bG hall.2 with⟨h1,h2,h3⟩|⟨j,a,a',h1,h2,h3,h4,h5,h6⟩
   .refine .inl ⟨by simp[QK,hq,h1],by simp[Instr.findNow,hs,hq,h2],by simp[QW,hq,h3]⟩
   .refine .inr ⟨j+1,a,a',by simp[QK,hq,h1],by simpa using h2,by simpa using h3,?_,h5,by simp[QW,hq,h6]⟩;simp[Instr.findNow,hs,hq,h4];omega
theorem NR {t:TypeId}{d:TypeDesc}(hd:P.underlying t=some d) {k:Value}{E:List MapEntry}{r:Option (Nat×Value)}(h:Instr.findNow d k E 0=some r) (w':World):(Instr.findKey t k E).run P w'=.ok r w':=by simp[Instr.findKey,Q1 hd,h]
theorem EF {s:List MK}{t:TypeId}{d:TypeDesc}(hu:P.underlying t=some d) (hd:Q0j P t (.agg s) d) {k:Value}(hk:ZZ (.agg s) k=true) (nv:Value) (c:Nat) {n:Nat}:∀ (es:List JH) (E:List MapEntry) (i:Nat),LERel ρ n E es->es.all (λe=>ZZ (.agg s) e.1)=true ->
  (QK k es=none/\(∀ w',(Instr.findAsking t k E i).run P w'=.ok none w')/\QW k nv c es=(es++[(k,nv,c)],c+1)) \/
  (∃ j e e',QK k es=some e/\es[j]?=some e/\E[j]?=some e'/\(∀ w',(Instr.findAsking t k E i).run P w'=.ok (some (i+j,e'.val)) w')/\Yq k e.1=true/\QW k nv c es=(es.set j (k,nv,e.2.2),c)):=by
 intro es;induction es with
 |nil =>
  intro E i hE _;have:E=[]:=by have:=hE.1;simpa using this
  subst this;exact .inl ⟨rfl,λw'=>by simp[Instr.findAsking],rfl⟩
 |cons kv es ih =>
  intro E i hE hall;obtain⟨e,E',rfl,he,bG⟩:=hE.cons_inv;simp only[zR,z1] at hall;have hs:∀ w',(Op.equal t k e.key).run P w'=.ok (Yq k kv.1) w':=λw'=>by
   rw[he.1];have h1:=hall.1;cases k<;>first|(cases hk;done)|skip
   rename_i x;generalize dE:kv.1=y at h1 |-;cases y<;>first|(cases h1;done)|skip
   rename_i y;have:=Vc 9992 8 t s hd.1 w' x.toList y.toList hk h1;rw[CV hu hd.2,CV hu hd.2] at this;exact this
  cases hq:Yq k kv.1 with
  |true =>refine .inr ⟨0,kv,e,by simp[QK,hq],rfl,rfl,λw'=>?_,hq,by simp[QW,hq]⟩;simp[Instr.findAsking,hs,hq]
  |false =>
   rcases ih E' (i+1) bG hall.2 with⟨h1,h2,h3⟩|⟨j,a,a',h1,h2,h3,h4,h5,h6⟩
   .refine .inl ⟨by simp[QK,hq,h1],λw'=>by simp[Instr.findAsking,hs,hq,h2],by simp[QW,hq,h3]⟩
   .refine .inr ⟨j+1,a,a',by simp[QK,hq,h1],by simpa using h2,by simpa using h3,λw'=>?_,h5,by simp[QW,hq,h6]⟩;simp[Instr.findAsking,hs,hq,h4];omega
theorem CG {t:TypeId}{s:List MK}{d:TypeDesc}(hd:Q0j P t (.agg s) d) {k:Value}{e:MapEntry}{E:List MapEntry}{i:Nat}:Instr.findNow d k (e::E) i=none:=by rcases hd.2 with⟨fs,rfl⟩|⟨n,el,rfl⟩<;>simp[Instr.findNow,Instr.sameNow]
theorem Ym {mk:MK}{t:TypeId}{d:TypeDesc}(hu:P.underlying t=some d) (hd:Q0j P t mk d) {k:Value}(hk:ZZ mk k=true) (nv:Value) (c:Nat) {n:Nat}(es:List JH) (E:List MapEntry) (hE:LERel ρ n E es) (hall:es.all (λe=>ZZ mk e.1)=true) :
  (QK k es=none/\(∀ w',(Instr.findKey t k E).run P w'=.ok none w')/\QW k nv c es=(es++[(k,nv,c)],c+1)) \/
  (∃ j e e',QK k es=some e/\es[j]?=some e/\E[j]?=some e'/\(∀ w',(Instr.findKey t k E).run P w'=.ok (some (0+j,e'.val)) w')/\Yq k e.1=true/\QW k nv c es=(es.set j (k,nv,e.2.2),c)):=by
 cases hp:mk.plain with
 |true =>
  rcases EY hp hd hk nv c es E 0 hE hall with⟨h1,h2,h3⟩|⟨j,a,a',h1,h2,h3,h4,h5,h6⟩
  .grind [NR]
  .grind [NR]
 |false =>
  cases mk with
  |agg s =>
   have e1:∀ w',(Instr.findKey t k E).run P w'=(Instr.findAsking t k E 0).run P w':=λw'=>by
    cases E with
    |nil=>simp[Instr.findKey,Q1 hu,Instr.findNow,Instr.findAsking]
    |cons e E=>simp[Instr.findKey,Q1 hu,CG hd]
   rcases EF hu hd hk nv c es E 0 hE hall with⟨h1,h2,h3⟩|⟨j,a,a',h1,h2,h3,h4,h5,h6⟩
   .simp_all
   .grind
  |_=>cases hp
theorem JX {m:Nat}{es:List JH}{clock:Nat}{wr:Bool}(h:U.mapAt m=some (es,clock,wr)):U.get m=some (.obj (.map es clock) wr):=by
 unfold Heap.mapAt at h
 grind
theorem J_ (hH:HRel ρ U w) {m:Nat}{es:List JH}{clock:Nat}{wr:Bool}(h:U.mapAt m=some (es,clock,wr)) {c:Value}(hv:VRel ρ U.n (.map (some m)) c) :
  ∃ p entries,c=.map (some p.blk)/\ρ m=some p/\w.heap[p.blk]?=some (.map entries clock)/\LERel ρ U.n entries.toList es:=by
 obtain⟨p,hp,_,O,h1,h2⟩:=hH.live m _ (JX h);obtain⟨entries,rfl,h3⟩:=ORel.q0q.1 h2;obtain⟨r,rfl,_,hr⟩:=hv.q1g
 grind
theorem Qu {w':World}{r:Nat}{O:Obj}(h:w'.heap[r]?=some O) (hc:∀ c e f,O≠.cells c e f):(getObj r).run P w'=.ok O w':=by cases O<;>first|(exact absurd rfl (hc _ _ _))|simp[getObj,Sem.run,h]
theorem QL {w':World}{r:Nat}{O O':Obj}(h:w'.heap[r]?=some O) (hc:∀ c e f,O≠.cells c e f):(setObj r O').run P w'=.ok () (BX w' r O'):=by cases O<;>first|(exact absurd rfl (hc _ _ _))|simp[setObj,Sem.run,h,BX]
theorem TK {xs:List Value}{s:ByteArray}(h:DI xs=some s):∃ ns:List Int,xs=ns.map (Value.int .u8)/\s=⟨(ns.map λn=>n.toNat.toUInt8).toArray⟩:=by
 unfold DI at h;rw[zt] at h;obtain⟨bs,h1,rfl⟩:=h;have key:∀ (xs:List Value) (bs:List UInt8),xs.mapM CQ=some bs->∃ ns:List Int,xs=ns.map (Value.int .u8)/\bs=ns.map λn=>n.toNat.toUInt8:=by
  intro xs;induction xs with
  |nil=>intro bs h;simp at h;subst h;exact⟨[],rfl,rfl⟩
  |cons x xs ih =>
   intro bs h;rw[x6] at h;cases hx:CQ x with
   |none=>simp[hx] at h
   |some b =>
    cases hm:xs.mapM CQ with
    |none=>simp[hx,hm] at h
    |some wh =>
     simp[hx,hm] at h;obtain⟨ns,h1,h2⟩:=ih _ hm;unfold CQ at hx;split at hx
     .rename_i n;simp at hx;exact⟨n::ns,by simp[h1],by rw[<-h,h2,<-hx];rfl⟩
     .cases hx
 simp_all
theorem Q06 {n:Nat}{ns:List Int}{us:List Value}(h:LRel ρ n (ns.map (Value.int .u8)) us):us=ns.map (Value.int .u8):=by
 apply zK;intro i;cases hi:(ns.map (Value.int .u8))[i]? with
 |none =>have h1:(ns.map (Value.int .u8)).length<=i:=List.getElem?_eq_none_iff.1 hi;exact List.getElem?_eq_none_iff.2 (by rw[<-h.1];exact h1)
 |some v =>
  obtain⟨c,hc,hv⟩:=h.get hi;rw[hc];rw[xp] at hi;cases hn:ns[i]? with
  |none=>rw[hn] at hi;cases hi
  |some x=>rw[hn] at hi;obtain rfl:=osj hi;rw[hv.q0g]
theorem F4 (ns:List Int):∀ (acc:ByteArray),ns.foldl (λr n=>r.push (UInt8.ofNat n.toNat)) acc=⟨acc.data++(ns.map λn=>n.toNat.toUInt8).toArray⟩:=by
 induction ns with
 |nil=>intro acc;simp
 |cons n ns ih =>intro acc;rw[xJ,ih];apply ByteArray.ext;simp[ByteArray.push]
theorem OY {n:Nat}(b:Nat):∀ (es:List JH) (E:List MapEntry),LERel ρ n E es->∀ e,es.find? (λe=>e.2.2==b)=some e->∃ e',E.find? (λx=>x.born==b)=some e'/\Q3k ρ n e' e:=by
 intro es;induction es with
 |nil=>intro E _ e h;simp at h
 |cons kv es ih =>
  intro E hE e h;obtain⟨x,E',rfl,hx,bG⟩:=hE.cons_inv;cases hb:kv.2.2==b with
  |true =>simp only[List.find?_cons,hb] at h;obtain rfl:=osj h;exact⟨x,by simp only[List.find?_cons,hx.2.1,hb],hx⟩
  |false =>simp only[List.find?_cons,hb] at h;obtain⟨e',h1,h2⟩:=ih E' bG e h;exact⟨e',by simp only[List.find?_cons,hx.2.1,hb];exact h1,h2⟩
theorem Fz {u:TypeId}(hc:P.cellsOf u≠0) (n off:Nat) (h0:off=0) (hn:P.cellsOf u<=n):liesAt P P.depth u (n / P.cellsOf u) off u 1=true:=by have hd:P.depth=(2*(P.types.size+Made.depth)+1)+1:=rfl;have h1:1<=n / P.cellsOf u:=(Nat.one_le_div_iff (by omega)).2 hn;subst h0;rw[hd];simp only[liesAt,zw];left;rw[hd];simp[rowAt,hc,sameLayout,h1]
set_option maxHeartbeats 1000000 in
theorem SY {o:Oper}{xo:XOp}(hc:PS P o.op=some xo) (hq:xo.quiet=true) (hH:HRel ρ U w) (hE:∀ x,JL x=true->VRel ρ U.n (Q5 env x) (ev x))
  (h:Zd xo (Q5 env) U=some (v,U')):U'=U/\C4 P ρ U w v (execOp ev o):=by
 obtain⟨dst,op,ty,pos,after,guard⟩:=o;simp only at hc;unfold PS at hc;split at hc
 .cases hc
 rename_i aj;simp only[x3,x9] at aj;cases op<;>simp only[Op.operands] at aj hc
 case binOp iU t x y yt =>
  simp at aj;have hx:=hE x aj.1;have hy:=hE y aj.2
  have key:∀ (kd:Nat) (neg:Bool),iU=(if neg then .neq else .eql)->((kd=0/\∃ e i,P.underlying t=some (.pointer e)/\P.info? e=some i)\/(kd=1/\∃ e,P.underlying t=some (.slice e)) \/
   (kd=2/\∃ k e,P.underlying t=some (.map k e))\/(kd=3/\∃ p q s,P.underlying t=some (.func p q s)))->xo=.eqNil kd neg x y->U'=U/\C4 P ρ U w v (execOp ev ⟨dst,.binOp iU t x y yt,ty,pos,after,guard⟩):=by
   intro kd neg kE hk mh;subst mh;simp only[Zd] at h;split at h
   .rename_i r hs;simp at h;obtain⟨rfl,rfl⟩:=h;obtain⟨h1,h2⟩:=Ex hH hk hx hy hs;rw[kE];exact⟨rfl,AM neg t x y yt ty pos after dst guard rfl rfl (by grind [RL]) (h1 neg)⟩
   .cases h
  have uc:∀ (neg:Bool),iU=(if neg then .neq else .eql)->((∃ fs,P.underlying t=some (.struct fs))\/∃ n e,P.underlying t=some (.array n e))->PF P neg t x y=some xo->U'=U/\C4 P ρ U w v (execOp ev ⟨dst,.binOp iU t x y yt,ty,pos,after,guard⟩):=by
   intro neg kE hk mh;unfold PF at mh;split at mh
   .cases mh
   .rename_i sJ;obtain⟨s,hs,rfl⟩:=zt.1 mh;simp only[Zd] at h;split at h
    .rename_i a b ha hb;split at h
     .rename_i fq;simp at h;obtain⟨rfl,rfl⟩:=h;rw[ha] at hx;rw[hb] at hy;obtain⟨ca,wi,mX⟩:=hx.q1i;obtain⟨cb,wj,kF⟩:=hy.q1i;have ea:=By fq.1 mX;have eb:=By fq.2 kF;have e1:mkT P t a.toList=.agg a:=by
       unfold mkT;rcases hk with⟨fs,hu⟩|⟨n,e,hu⟩<;>simp[hu]
      have e2:mkT P t b.toList=.agg b:=by unfold mkT;rcases hk with⟨fs,hu⟩|⟨n,e,hu⟩<;>simp[hu]
      have aP:=λw'=>Vc 9992 8 t s hs w' a.toList b.toList fq.1 fq.2;rw[e1,e2] at aP;have ud:ev x=.agg a:=by simp_all
      have uf:ev y=.agg b:=by simp_all
      rw[kE];refine⟨rfl,AM neg t x y yt ty pos after dst guard ud uf (by grind [run_eqGuard_agg]) (λw'=>?_)⟩;have hr:=aP w';cases neg
      .simp only[zq,if_false];rw[run_eql_struct w' t a b,show (10000:Nat)=9992+8 from rfl,hr];rfl
      .simp only[zB];rw[run_neq_struct w' t a b,show (10000:Nat)=9992+8 from rfl,hr];rfl
     .cases h
    .cases h
  split at hc
  .rename_i e hu;cases hi:P.info? e with
   |none=>simp[hi] at hc
   |some i =>simp[hi] at hc;exact(by simp_all)
  .rename_i e hu;cases hi:P.info? e with
   |none=>simp[hi] at hc
   |some i =>simp[hi] at hc;exact(by simp_all)
  .simp_all
  .simp_all
  .simp_all
  .simp_all
  .simp_all
  .simp_all
  .simp_all
  .simp_all
  .simp_all
  .simp_all
  .cases hc
 case makeMap t r=>cases r<;>simp at hc;subst hc;cases hq
 case mapUpdate t m k x =>
  split at hc
  .rename_i kt e hu;cases hk:SL P kt with
   |none=>simp[hk] at hc
   |some mk=>simp[hk] at hc;subst hc;cases hq
  .cases hc
 case insert t m k x =>
  split at hc
  .rename_i kt e hu;cases hk:SL P kt with
   |none=>simp[hk] at hc
   |some mk=>simp[hk] at hc;subst hc;cases hq
  .cases hc
 case mapEntry t m k =>
  split at hc
  .rename_i kt e hu;cases hk:SL P kt with
   |none=>simp[hk] at hc
   |some mk =>
    cases bH:P.info? e with
    |none=>simp[hk,bH] at hc
    |some inf =>
     cases hz:inf.zero with
     |none=>simp[hk,bH,hz] at hc
     |some z=>simp[hk,bH,hz] at hc;obtain⟨_,rfl⟩:=hc;cases hq
  .cases hc
 case entryStore t m s x=>simp at hc;subst hc;cases hq
 case range t x =>
  split at hc
  .simp at hc;subst hc;cases hq
  .cases hc
 case next x b=>cases b<;>simp at hc;subst hc;cases hq
 case lookup t x i jc =>
  simp at aj;have hx:=hE x aj.1;have hi:=hE i aj.2;split at hc
  .rename_i kt e hu;cases hk:SL P kt with
   |none=>simp[hk] at hc
   |some mk =>
    cases bH:P.info? e with
    |none=>simp[hk,bH] at hc
    |some inf =>
     cases hz:inf.zero with
     |none=>simp[hk,bH,hz] at hc
     |some z =>
      simp[hk,bH,hz] at hc;obtain⟨kG,rfl⟩:=hc;obtain⟨d,hd,dF⟩:=UO hk;have kD:∀ w',(zeroValue e).run P w'=.ok z w':=λw'=>QY bH hz w';have dt:VRel ρ U.n z z:=V2 kG;simp only[Zd] at h;split at h
      .rename_i bt;have qL:ev i=Q5 env i:=BP bt hi;split at h
       .rename_i aX;rw[aX] at hx;obtain bT:=hx.q0s;simp at h;obtain⟨rfl,rfl⟩:=h;refine⟨rfl,if jc then .tuple #[z,.bool false] else z,?_,λw' _=>?_⟩
        .cases jc
         .exact dt
         .exact VRel.q0i (LRel.cons dt (LRel.cons (.bool _) (LRel.nil _ _)))
        .simp only[execOp];simp only[Instr.lookup,zx,Q1 hu,zj,bT,xc,qL,Zq hd dF bt];rw[NR hd (r:=none) rfl];cases jc<;>simp[kD]
       .rename_i m aX;rw[aX] at hx;split at h
        .rename_i es clock wr aG;split at h
         .rename_i hall;obtain⟨p,entries,bT,hp,aB,aD⟩:=J_ hH aG hx;have aP:∀ w',Like ρ w w'->(getObj p.blk).run P w'=.ok (.map entries clock) w':=λw' hl =>
           Qu (by rw[hl.blk m p hp];exact aB) (λ_ _ _ e=>by cases e)
          rcases Ym hd dF bt (.bool true) 0 es entries.toList aD hall with⟨h1,h2,_⟩|⟨j,a,a',h1,h2,h3,h4,_,_⟩
          .rw[h1] at h;simp at h;obtain⟨rfl,rfl⟩:=h;refine⟨rfl,if jc then .tuple #[z,.bool false] else z,?_,λw' hl=>?_⟩
           .cases jc
            .exact dt
            .exact VRel.q0i (LRel.cons dt (LRel.cons (.bool _) (LRel.nil _ _)))
           .simp only[execOp];simp only[Instr.lookup,zx,Q1 hu,zj,bT,aP w' hl,xc,qL,Zq hd dF bt];simp_all
          .rw[h1] at h;simp at h;obtain⟨rfl,rfl⟩:=h;have mY:=(aD.2 j a' a h3 h2).2.2;refine⟨rfl,if jc then .tuple #[a'.val,.bool true] else a'.val,?_,λw' hl=>?_⟩
           .cases jc
            .exact mY
            .exact VRel.q0i (LRel.cons mY (LRel.cons (.bool _) (LRel.nil _ _)))
           .simp only[execOp];simp only[Instr.lookup,zx,Q1 hu,zj,bT,aP w' hl,xc,qL,Zq hd dF bt];rw[h4];cases jc<;>simp
         .cases h
        .cases h
       .cases h
      .cases h
  .cases hc
 case entry x =>
  simp at aj;have hx:=hE x aj;simp at hc;subst hc;simp only[Zd] at h;split at h
  .rename_i i aX;rw[aX] at hx;split at h
   .rename_i m since seen last wr hb;split at h
    .rename_i es clock kH b aG di;split at h
     .rename_i cf;split at h
      .rename_i e dS;split at h
       rotate_left
       .cases h
       rename_i aN;simp at h;obtain⟨rfl,rfl⟩:=h;obtain⟨p,hp,⟨_,dG⟩,O,hO,rm,rfl,mi⟩:=hH.live i _ hb;obtain⟨q,entries,gX,dj,aB,aD⟩:=J_ hH aG mi;simp at gX;obtain⟨_,_,bT⟩:=hx.q0w hp;rw[dG] at bT;obtain⟨e',jI,kI⟩:=OY b es entries.toList aD e dS;rw[Array.find?_toList] at jI;have dT:(seen.toArray).back?=some b:=by simpa using di
       have dE:VRel ρ U.n e.1 e'.key:=by rw[kI.1];exact V2 aN
       refine⟨rfl,.tuple #[e'.key,e'.val],VRel.q0i (LRel.cons dE (LRel.cons kI.2.2 (LRel.nil _ _))),λw' hl=>?_⟩;have h1:=Qu (P:=P) (w':=w') (r:=p.blk) (by rw[hl.blk i p hp];exact hO) (λ_ _ _ e=>by cases e);have h2:=Qu (P:=P) (w':=w') (r:=q.blk) (by rw[hl.blk m q dj];exact aB) (λ_ _ _ e=>by cases e);simp only[execOp];simp only[Instr.entry,bT,x4,zx,h1,zj,dT];rw[gX,];simp[h2,cf,jI]
      .cases h
     .cases h
    .cases h
   .cases h
  .cases h
 case convert s d x =>
  simp at aj;have hx:=hE x aj;split at hc
  .rename_i t hs hd;cases hi:P.info? t with
   |none=>simp[hi] at hc
   |some inf =>
    simp[hi] at hc;obtain⟨aC,rfl⟩:=hc;simp only[Zd] at h;split at h
    .rename_i aX;rw[aX] at hx;obtain bT:=hx.q0o;simp at h;obtain⟨rfl,rfl⟩:=h;refine⟨rfl,Qi (c:=.pointer none) (λw'=>?_) .nilPtr⟩;simp[execOp,bT,convert,Q1 hs,Q1 hd,Conv.unsafePointer]
    .rename_i i o aX;rw[aX] at hx;split at h
     .rename_i c e wr tight hb;split at h
      .rename_i af;simp at h;obtain⟨rfl,rfl⟩:=h;obtain⟨p,hp,_,_,hl,⟨C,e',f,hC,qM,_⟩,_,_⟩:=hH.live i _ hb;obtain⟨_,_,bT⟩:=hx.q0w hp;refine⟨rfl,ev x,hx,λw' iM=>?_⟩;have dG:w'.shape? p.blk=some (e',C.size):=by
        have:w'.heap[p.blk]?=some (.cells C e' f):=by rw[iM.blk i p hp];exact hC
        simp[World.shape?,this]
       simp only[execOp,bT];have:=Go.Lib.run_to_unsafe (P:=P) w' (src:=s) (dst:=d) ⟨p.blk,p.shift+o,none⟩ hs hd hi (by simpa using aC) dG (by show p.shift+o<C.size;omega);simp[this]
      .cases h
     .cases h
    .cases h
  .rename_i u hs hd;cases hi:P.info? u with
   |none=>simp[hi] at hc
   |some inf =>
    simp[hi] at hc;obtain⟨⟨aC,ug⟩,rfl⟩:=hc;simp only[Zd] at h;split at h
    .rename_i aX;rw[aX] at hx;obtain bT:=hx.q0o;simp at h;obtain⟨rfl,rfl⟩:=h;refine⟨rfl,Qi (c:=.pointer none) (λw'=>?_) .nilPtr⟩;simp[execOp,bT,convert,Q1 hs,Q1 hd,Conv.unsafePointer]
    .rename_i i o aX;rw[aX] at hx;split at h
     .rename_i c e hb;split at h
      .rename_i af;obtain⟨rfl,het,hle⟩:=af;simp at h;obtain⟨rfl,rfl⟩:=h;obtain⟨p,hp,_,_,hl,⟨C,e',f,hC,qM,kJ⟩,_,h6⟩:=hH.live i _ hb;obtain⟨_,_,bT⟩:=hx.q0w hp;have uh:=(h6 rfl).1 rfl;refine⟨rfl,ev x,hx,λw' iM=>?_⟩;have dG:w'.shape? p.blk=some (u,C.size):=by
        have:w'.heap[p.blk]?=some (.cells C e' f):=by rw[iM.blk i p hp];exact hC
        simp[World.shape?,this,kJ,het]
       simp only[execOp,bT];rw[zN] at *
       have:=Go.Lib.run_from_unsafe (P:=P) w' (src:=s) (dst:=d) ⟨p.blk,p.shift,none⟩ hs hd hi dG (Fz ug _ _ uh (by omega));simp[this]
      .cases h
     .cases h
    .cases h
  .rename_i e hs hd;split at hc
   .rename_i he;simp at hc;subst hc;simp only[Zd] at h;split at h
    .rename_i a n c aX;rw[aX] at hx;split at h
     .rename_i xs aW;split at h
      .rename_i s' qc;simp at h;obtain⟨rfl,rfl⟩:=h;obtain⟨ns,mj,rfl⟩:=TK qc;subst mj;obtain⟨hlen,us,eM,⟨a',al,bT⟩,aP⟩:=TQ hH aW hx;have mZ:=Q06 eM;refine⟨rfl,.string ⟨(ns.map λn=>n.toNat.toUInt8).toArray⟩,.string _,λw' hl=>?_⟩;have hr:=aP w' hl;rw[bT] at hr;simp only[execOp,bT];cases a' with
       |none =>
        simp[Builtin.firstCells] at hr;have:ns=[]:=by rw[mZ] at hr;simpa using hr.symm
        subst this;simp[convert,Q1 hs,Q1 hd,Q1 he,Conv.bytesToString];rfl
       |some a' =>simp only[Builtin.firstCells,Nat.mul_one] at hr;rw[mZ] at hr;have:=run_bytesToString (P:=P) w' a' n al ns hr;rw[F4] at this;simp[convert,Q1 hs,Q1 hd,Q1 he,this]
      .cases h
     .cases h
    .cases h
   .cases hc
  .split at hc
   .simp at hc;subst hc;cases hq
   .cases hc
  .cases hc
 case call c =>
  split at hc
  .rename_i aE;split at hc
   .rename_i t x dZ ct;split at hc
    .rename_i kt e hu;simp at hc;subst hc;have bk:c.args=#[x]:=Array.ext' (by simpa using ct);have hx:VRel ρ U.n (Q5 env x) (ev x):=hE x (by simpa [Call.operands,aE,bk] using aj);simp only[Zd] at h;split at h
     .rename_i aX;rw[aX] at hx;obtain bT:=hx.q0s;simp at h;obtain⟨rfl,rfl⟩:=h;refine⟨rfl,Qi (c:=.int .i64 0) (λw'=>?_) (.int _ _)⟩;simp[execOp,resolve,aE,bk,invoke,builtin,Builtin.len_,dZ,bT,Q1 hu,goInt]
     .rename_i m aX;rw[aX] at hx;split at h
      .rename_i es clock wr aG;simp at h;obtain⟨rfl,rfl⟩:=h;obtain⟨p,entries,bT,hp,aB,aD⟩:=J_ hH aG hx;refine⟨rfl,.int .i64 es.length,.int _ _,λw' hl=>?_⟩;have h1:=Qu (P:=P) (w':=w') (r:=p.blk) (by rw[hl.blk m p hp];exact aB) (λ_ _ _ e=>by cases e);have h2:entries.size=es.length:=by have:=aD.1;simpa using this
       simp[execOp,resolve,aE,bk,invoke,builtin,Builtin.len_,dZ,bT,Q1 hu,goInt,h1,h2]
      .cases h
     .cases h
    .cases hc
   .cases hc
  .split at hc
   .split at hc
    .rename_i kt e hu;cases hk:SL P kt with
     |none=>simp[hk] at hc
     |some mk=>simp[hk] at hc;subst hc;cases hq
    .cases hc
   .cases hc
  .split at hc
   .split at hc
    .rename_i e hu;cases hi:P.info? e with
     |none=>simp[hi] at hc
     |some inf=>simp[hi] at hc;subst hc;cases hq
    .cases hc
   .cases hc
  .split at hc
   .split at hc
    .rename_i e hu;cases hz:zeroOf P e with
     |none=>simp[hz] at hc
     |some z=>simp[hz] at hc;obtain⟨_,rfl⟩:=hc;cases hq
    .cases hc
   .cases hc
  .rename_i aE;split at hc
   .rename_i x ct;simp at hc;subst hc;have bk:c.args=#[x]:=Array.ext' (by simpa using ct);have hx:VRel ρ U.n (Q5 env x) (ev x):=hE x (by simpa [Call.operands,aE,bk] using aj);simp only[Zd] at h;split at h
    .rename_i aX;rw[aX] at hx;obtain bT:=hx.q0x;simp at h;obtain⟨rfl,rfl⟩:=h;refine⟨rfl,Qi (c:=.pointer none) (λw'=>?_) .nilPtr⟩;simp[execOp,resolve,aE,bk,invoke,builtin,bT,Go.Lib.run_unsafeSliceData_nil]
    .rename_i i o n cap aX;rw[aX] at hx;split at h
     .rename_i bZ;simp at h;obtain⟨rfl,rfl⟩:=h;obtain⟨bZ,hs⟩:=bZ;obtain⟨blk,aB⟩:=Option.isSome_iff_exists.1 hs;obtain⟨p,hp,_⟩:=hH.live _ _ aB;obtain⟨a,al,bT,aL,aN⟩:=hx.q1b;obtain⟨h1,_,⟨p_,_⟩|⟨o',rfl,_,ho⟩⟩:=aN p hp
      .omega
      have gU:o'=o:=ho.resolve_right (λhh=>bZ hh.2);subst gU;refine⟨rfl,.pointer (some ⟨p.blk,p.shift+o',none⟩),.ptr _ _ _ aL (by simp_all),λw' _=>?_⟩;simp[execOp,resolve,aE,bk,invoke,builtin,bT,Go.Lib.run_unsafeSliceData_row w' _ _ _ n al (by omega)]
     .cases h
    .cases h
   .cases hc
  .split at hc
   .split at hc
    .split at hc
     .simp at hc;subst hc;cases hq
     .cases hc
    .cases hc
   .cases hc
  .cases hc
 all_goals cases hc
theorem getElem?_modify_list {α:Type}(l:List α) (j:Nat) (f:α->α) (k:Nat):(l.modify j f)[k]?=if j=k then (l[k]?).map f else l[k]?:=by
 grind
theorem Ge {n:Nat}{E:List MapEntry}{es:List JH}(h:LERel ρ n E es) (j:Nat) (f:MapEntry->MapEntry) (kv:JH) (hf:∀ e,E[j]?=some e->Q3k ρ n (f e) kv):LERel ρ n (E.modify j f) (es.set j kv):=by
 refine⟨by simp[h.1],λk e ui he dE=>?_⟩;rw[getElem?_modify_list] at he;rw[xx] at dE;by_cases dO:j=k
 .grind
 .simp only[dO,if_false] at he dE;exact h.2 k e ui he dE
theorem GL {n:Nat}{E:List MapEntry}{es:List JH}(h:LERel ρ n E es) {e:MapEntry}{kv:JH}(he:Q3k ρ n e kv):LERel ρ n (E++[e]) (es++[kv]):=by
 refine⟨by simp[h.1],λk a b ha hb=>?_⟩;have hl:=h.1;rw[List.getElem?_append] at ha hb;split at ha<;>split at hb<;>try omega
 .exact h.2 k a b ha hb
 grind
theorem S1 {γ:Sort _}(f:Option Addr->Value->γ) (g:Array Value->γ) (p:Option Addr) (l:Value):Builtin.unsafeString_.match_3 (motive:=λ_=>γ) #[.pointer p,l] f g=f p l:=rfl
theorem RS (ts:Array TypeId) (ty pt:TypeId) (h0:ts[0]?=some pt) (p:Option Addr) (w:World):(Builtin.unsafeString_ ts ty #[.pointer p,.int .i64 0]).run P w=.ok (.string .empty) w:=by
 have jd:IntKind.i64.max=9223372036854775807:=rfl;cases p with
 |none =>delta Builtin.unsafeString_;rw[S1];simp[asInt,asIntOf,jd,h0]
 |some a =>delta Builtin.unsafeString_;rw[S1];simp[asInt,asIntOf,jd,h0]
theorem C8:∀ (ns:List Int) (a:Addr) (acc:ByteArray) (w:World),(∀ j n,ns[j]?=some n->w.cell? (a.add j)=some (.int .u8 n)) ->
  (loadBytes a acc ns.length).run P w=.ok ⟨acc.data++(ns.map λn=>n.toNat.toUInt8).toArray⟩ w
 |[],a,acc,w,_=>by simp[loadBytes]
 |n::ns,a,acc,w,h=>by
  have h0:w.cell? a=some (.int .u8 n):=by have:=h 0 n rfl;simpa [Addr.add] using this
  have ih:=C8 ns (a.add 1) (acc.push n.toNat.toUInt8) w (λj y hy=>by
   have:=h (j+1) y (by simpa using hy);have e:(a.add 1).add j=a.add (j+1):=by
    unfold Addr.add
    grind
   rw[e];exact this)
  simp only[xF,loadBytes,zx,run_load,h0,Result.andThen];simp_all
theorem R1 {e:TypeId}(hc:P.cellsOf e=1) (count off n:Nat) (hn:off+n<=count):liesAt P P.depth e count off e n=true:=by have hd:P.depth=(2*(P.types.size+Made.depth)+1)+1:=rfl;rw[hd];simp only[liesAt,zw];left;rw[hd];simp[rowAt,hc,hn,sameLayout,Nat.mod_one]
theorem Q0t (ts:Array TypeId) (ty pt e:TypeId) (h0:ts[0]?=some pt) (hp:P.underlying pt=some (.pointer e)) (hc:P.cellsOf e=1) (a:Addr) (cells:Nat) (w:World) (dG:w.shape? a.block=some (e,cells)) (ns:List Int) (k:Int) (hk:0<k) (qN:ns.length=k.toNat) (hn:a.off+ns.length<=cells)
  (wk:k<=2 ^ 62) (br:∀ j n,ns[j]?=some n->w.cell? (a.add j)=some (.int .u8 n)) :
  (Builtin.unsafeString_ ts ty #[.pointer (some a),.int .i64 k]).run P w=.ok (.string ⟨(ns.map λn=>n.toNat.toUInt8).toArray⟩) (w.freeze a k.toNat):=by
 have jd:IntKind.i64.max=9223372036854775807:=rfl;have wm:(2:Int) ^ 62=4611686018427387904:=by decide
 have kF:=C8 (P:=P) ns a .empty w br;have jJ:=R1 (P:=P) hc (cells / P.cellsOf e) a.off ns.length (by rw[hc];simpa using hn);have h1:¬ k<0:=by omega
 have h2:¬ (9223372036854775807:Int)<k:=by omega
 have h3:¬ k=0:=by omega
 rw[<-qN];rw[qN] at kF jJ;delta Builtin.unsafeString_;rw[S1];simp[asInt,asIntOf,jd,h0,h1,h2,h3,variablesAt,dG,elemOf,Q1 hp,jJ,kF,qN]
theorem HRel.freeze (hH:HRel ρ U w) {i:Nat}{p:Pl}{c:List Value}{e:El}{tight:Bool}(hp:ρ i=some p) (hb:U.get i=some (.cells c e true tight)) (off n:Nat) :
  HRel ρ (U.upd i (.cells c e false tight)) (w.freeze ⟨p.blk,off,none⟩ n)/\Ext ρ U w ρ (U.upd i (.cells c e false tight)) (w.freeze ⟨p.blk,off,none⟩ n):=by
 have hi:=U.lt hb;obtain⟨p',bh,hB⟩:=hH.live i _ hb;obtain rfl:p=p':=osj (hp.symm.trans bh);obtain⟨h1,h2,h3,⟨C,e',f,h4,iH⟩,h5,h6⟩:=hB;have cz:∀ k,k≠p.blk->(w.freeze ⟨p.blk,off,none⟩ n).heap[k]?=w.heap[k]?:=λk hk=>by
  unfold World.freeze
  grind
 have aC:(w.freeze ⟨p.blk,off,none⟩ n).heap.size=w.heap.size:=by
  unfold World.freeze;split
  .rfl
  .simp
 obtain⟨f',eQ⟩:∃ f',(w.freeze ⟨p.blk,off,none⟩ n).heap[p.blk]?=some (.cells C e' f'):=by
  unfold World.freeze
  grind
 have br:∀ o,(w.freeze ⟨p.blk,off,none⟩ n).cell? ⟨p.blk,o,none⟩=w.cell? ⟨p.blk,o,none⟩:=λo=>by simp[World.cell?,eQ,h4]
 have qO:(w.freeze ⟨p.blk,off,none⟩ n).os=w.os/\(w.freeze ⟨p.blk,off,none⟩ n).tape=w.tape/\(w.freeze ⟨p.blk,off,none⟩ n).output=w.output:=by unfold World.freeze;split<;>exact⟨rfl,rfl,rfl⟩
 have hE:Ext ρ U w ρ (U.upd i (.cells c e false tight)) (w.freeze ⟨p.blk,off,none⟩ n):=by
  .refine⟨qO.1,qO.2.1,qO.2.2,by rw[aC];exact zd _,λB hB hW=>cz B (λe=>hW ⟨i,p,_,hp,hb,rfl,e.symm⟩),?_,zd _,λ_ _ _ h=>h⟩;rintro B _ ⟨j,q,b,hq,bD,hw,rfl⟩;by_cases aI:j=i
   .subst aI;exact⟨j,q,_,hq,hb,rfl,rfl⟩
   .rw[Heap.q0b _ _ aI] at bD;exact⟨j,q,b,hq,bD,hw,rfl⟩
 refine⟨hH.ext ⟨λj b hj=>?_,λj hj=>?_,λj q hq=>by rw[aC];exact hH.lt j q hq,λj k q r b dO hq hr bS hw hx=>?_⟩ hE,hE⟩
 .by_cases aI:j=i
  .subst aI;rw[Heap.q0c _ _ hi] at hj;obtain rfl:=osj hj;exact⟨p,hp,h1,h2,h3,⟨C,e',f',eQ,iH⟩,(by simp_all),λh=>by cases h⟩
  .rw[Heap.q0b _ _ aI] at hj;obtain⟨q,hq,eL⟩:=hH.live j b hj;exact⟨q,hq,eL.other (zd _) (λ_ _ _ h=>h) p.blk C e' f h4 (λhx=>hH.sep i j p q _ (Ne.symm aI) hp hq hb rfl hx) ⟨C,f',eQ,zd _⟩ (λk hk _=>cz k hk) (hH.lt j q hq)⟩
 .by_cases aI:j=i
  .grind [Heap.q0c]
  .rw[Heap.q0b _ _ aI] at hj;exact hH.dead j hj
 .by_cases aI:j=i
  .subst aI;rw[Heap.q0c _ _ hi] at bS;obtain rfl:=osj bS;cases hw
  .rw[Heap.q0b _ _ aI] at bS;exact hH.sep j k q r b dO hq hr bS hw hx
theorem HRel.freezeOut (hH:HRel ρ U w) {i:Nat}{p:Pl}{c:List Value}{e:El}{tight:Bool}(hp:ρ i=some p) (hb:U.get i=some (.cells c e true tight)) {C:Array Value}{e':TypeId}{f:Nat×Nat}(hC:w.heap[p.blk]?=some (.cells C e' f)) (hf:f.1=f.2) :
  HRel ρ U (w.freeze ⟨p.blk,C.size,none⟩ 1)/\Ext ρ U w ρ U (w.freeze ⟨p.blk,C.size,none⟩ 1):=by
 have cz:∀ k,k≠p.blk->(w.freeze ⟨p.blk,C.size,none⟩ 1).heap[k]?=w.heap[k]?:=λk hk=>by
  unfold World.freeze
  grind
 have aC:(w.freeze ⟨p.blk,C.size,none⟩ 1).heap.size=w.heap.size:=by unfold World.freeze;rw[z6 (by omega)];simp
 have eQ:(w.freeze ⟨p.blk,C.size,none⟩ 1).heap[p.blk]?=some (.cells C e' (C.size,C.size+1)):=by
  unfold World.freeze
  grind
 have br:∀ o,(w.freeze ⟨p.blk,C.size,none⟩ 1).cell? ⟨p.blk,o,none⟩=w.cell? ⟨p.blk,o,none⟩:=λo=>by simp[World.cell?,eQ,hC]
 have hE:Ext ρ U w ρ U (w.freeze ⟨p.blk,C.size,none⟩ 1):=by refine⟨?_,?_,?_,by rw[aC];exact zd _,λB hB hW=>cz B (λe=>hW ⟨i,p,_,hp,hb,rfl,e.symm⟩),λ_ _ h=>h,zd _,λ_ _ _ h=>h⟩<;>(unfold World.freeze;rw[z6 (by omega)])
 refine⟨hH.ext ⟨λj b hj=>?_,hH.dead,λj q hq=>by rw[aC];exact hH.lt j q hq,hH.sep⟩ hE,hE⟩;obtain⟨q,hq,eL⟩:=hH.live j b hj;refine⟨q,hq,?_⟩;by_cases hk:q.blk=p.blk
 .cases b with
  |cells c0 e0 uj t0 =>
   obtain⟨h1,h2,h3,⟨C0,e1,f1,h4,h5⟩,h6,h7⟩:=eL;rw[hk,hC] at h4;obtain⟨rfl,rfl,rfl⟩:=(by simpa using h4:C=C0/\e'=e1/\f=f1);refine⟨h1,h2,h3,(by simp_all),λk v hv=>?_,λhw=>⟨(h7 hw).1,λk fM=>?_⟩⟩
   .rw[hk,br,<-hk];exact h6 k v hv
   .unfold World.frozen?
    grind
  |obj o uj =>obtain⟨_,O,h4,h5⟩:=eL;rw[hk,hC] at h4;obtain rfl:=osj h4;exact absurd h5 ORel.q1u
 .exact eL.mono (zd _) (λ_ _ _ h=>h) (cz _ hk)
theorem A8 (hH:HRel ρ U w) {s:ByteArray}{st d e:TypeId}(hs:P.underlying st=some .string) (hd:P.underlying d=some (.slice e)) (he:P.underlying e=some (.int .u8)) {s0:Sem Next}(h0:s0=(do let v <-convert st d (.string s);pure (.value v))) :
  R3 P ρ U w (.slice (some ⟨U.n,0,none⟩) s.size s.size) (U.push (.cells (s.data.toList.map λb=>.int .u8 b.toNat) ⟨1,e⟩ true false)) s0:=by
 obtain⟨cap,bZ⟩:∃ cap,cap=(Question.appendCap s.size 0 e).cut (w.tape w.drawn (.appendCap s.size 0 e)):=⟨_,rfl⟩;have hle:s.size<=cap:=by rw[bZ];simp[Question.cut]
 let C:Array Value:=(s.data.map λb=>Value.int .u8 b.toNat)++Array.replicate (cap-s.size) (.int .u8 0);have qM:C.size=cap:=by have:s.data.size=s.size:=rfl;simp[C,this];omega
 have m8:=hH.drew;have aD:LRel ρ U.n (s.data.toList.map λb=>Value.int .u8 b.toNat) (C.toList.take (s.data.toList.map λb=>Value.int .u8 b.toNat).length):=by
  have:C.toList.take (s.data.toList.map λb=>Value.int .u8 b.toNat).length=s.data.toList.map λb=>Value.int .u8 b.toNat:=by simp[C]
  rw[this];exact JJ (zf.2 λx hx=>by obtain⟨b,_,rfl⟩:=zM.1 hx;rfl)
 obtain⟨ρ',h1,h2,h3⟩:=m8.alloc (s.data.toList.map λb=>Value.int .u8 b.toNat) C e ⟨1,e⟩ false rfl aD (by
  simp_all)
 have aB:(w.drew.alloc (.cells C e)).heap[w.drew.heap.size]?=some (.cells C e (0,0)):=by show (w.drew.heap.push _)[w.drew.heap.size]?=_;rw[Array.getElem?_push_size]
 obtain⟨h4,h5⟩:=h2.freezeOut (i:=U.n) h1 (Heap.q0a _ _) aB rfl;refine⟨.slice (some ⟨w.heap.size,0,none⟩) s.size cap,_,ρ',.inl ?_,.sl _ _ _ _ _ _ (by simp) (λp hp=>?_),h4,((Ext.drew ρ U w).trans h3).trans h5⟩
 .subst h0;have dG:(w.drew.alloc (.cells C e)).shape? w.drew.heap.size=some (e,C.size):=by
   unfold World.shape?;rw[aB]
  have hq:(Question.appendCap s.size 0 e).forced=false:=rfl;have sK:w.drew.heap.size=w.heap.size:=rfl;simp only[convert,zx,Q1 hs,Q1 hd,Q1 he,zj,Conv.stringToBytes,run_choose_drew,hq,zq,if_false,<-bZ,newRow,run_newObj_alloc,xc,markStringish,run_shape,sK];rw[sK] at dG;have qP:(w.drew.alloc (.cells ((s.data.map λb=>Value.int .u8 b.toNat)++Array.replicate (cap-s.size) (.int .u8 0)) e)).shape? w.heap.size=some (e,C.size):=dG;rw[qP];rfl
 simp_all
set_option maxHeartbeats 1000000 in
theorem Tv {k nv:Value}{c:Nat}:∀ {es:List JH}{e:JH},QK k es=some e->∃ j,es[j]?=some e/\QW k nv c es=(es.set j (k,nv,e.2.2),c)/\DS k es=es.eraseIdx j
 |[],e,h=>by cases h
 |a::es,e,h=>by
  simp only[QK] at h;split at h
  .rename_i he;obtain rfl:=osj h;exact⟨0,rfl,by simp[QW,he],by simp[DS,he]⟩
  .rename_i he;obtain⟨j,h1,h2,h3⟩:=Tv (nv:=nv) (c:=c) h;exact⟨j+1,by simpa using h1,by simp[QW,he,h2],by simp[DS,he,h3]⟩
theorem Pn {k:Value}:∀ {es:List JH},QK k es=none->DS k es=es
 |[],_=>rfl
 |a::es,h=>by
  simp only[QK] at h;split at h
  .cases h
  .rename_i he;simp[DS,he,Pn h]
def Q5v:Value->Nat
 |.int _ n=>n.natAbs
 |_=>0
theorem Ak {e:JH}:∀ {es:List JH},e∈es->Q5v e.2.1<=(es.map λx=>Q5v x.2.1).sum
 |a::es,h=>by
  rw[zW,List.sum_cons];rcases zG.1 h with rfl|h
  .omega
  .have:=Ak h;omega
theorem Ik (es:List JH):∃ nv:Value,∀ e∈es,e.2.1≠nv :=
 ⟨.int .i64 ((es.map λx=>Q5v x.2.1).sum+1:Nat),λe he h=>by
  have h1:=Ak he;rw[h] at h1;simp only[Q5v] at h1;omega⟩
theorem Q2a {es:List JH}{i j:Nat}{x y:JH}(hi:i<es.length) (_hj:j<es.length) (h:es.set i x=es.set j y) (hx:∀ e∈es,e.2.1≠x.2.1):i=j:=by
 grind [List.getElem?_set_self,List.getElem?_set_ne,List.getElem?_eq_getElem,osj,List.getElem_mem]
theorem Ac {n:Nat}{E:List MapEntry}{es:List JH}(h:LERel ρ n E es) (j:Nat):LERel ρ n (E.eraseIdx j) (es.eraseIdx j):=by
 refine⟨by rw[List.length_eraseIdx,List.length_eraseIdx,h.1],λk e kv he dE=>?_⟩;rw[List.getElem?_eraseIdx] at he dE;split at he
 .rename_i af;rw[z7 af] at dE;exact h.2 _ _ _ he dE
 .rename_i af;rw[z6 af] at dE;exact h.2 _ _ _ he dE
theorem CB {o:Oper}{xo:XOp}(hc:PS P o.op = some xo) (hq:xo.quiet = false) (hH:HRel ρ U w) (hE:∀ x, JL x = true -> VRel ρ U.n (Q5 env x) (ev x))
    (h:Zd xo (Q5 env) U = some (v, U')):R3 P ρ U w v U' (execOp ev o):=by
  obtain ⟨dst, op, ty, pos, after, guard⟩:=o;simp only at hc;unfold PS at hc;split at hc
  . cases hc
  rename_i aj;simp only [x3, x9] at aj;cases op <;> simp only [Op.operands] at aj hc
  case binOp iU t x y yt =>
    have nA:∀ neg, PF P neg t x y = some xo -> False:=λneg hx => by
      unfold PF at hx;split at hx
      . cases hx
      . obtain ⟨s, _, rfl⟩:=zt.1 hx; cases hq
    split at hc <;> first
      | exact (nA _ hc).elim
      | (simp at hc; subst hc; cases hq; done)
      | (rename_i e hu
         cases hi:P.info? e with
         | none => simp [hi] at hc
         | some i => simp [hi] at hc; obtain ⟨_, rfl⟩:=hc; cases hq)
      | cases hc
  case makeMap t r =>
    cases r with
    | some _ => cases hc
    | none =>
      simp at hc; subst hc;simp [Zd] at h;obtain ⟨rfl, rfl⟩:=h;obtain ⟨ρ', h1, h2, h3⟩:=hH.newObj (.map [] 0) (.map #[] 0) (ORel.q0q.2 ⟨#[], rfl, rfl, λk e kv he => by simp at he⟩);refine ⟨.map (some w.heap.size), _, ρ', .inl ?_, .map _ _ (by simp) (λp hp => ?_), h2, h3⟩
      . simp [execOp, Instr.makeMap]
      . simp_all
  case lookup t x i jc =>
    split at hc
    . rename_i kt e hu
      cases hk:SL P kt with
      | none => simp [hk] at hc
      | some mk =>
        cases bH:P.info? e with
        | none => simp [hk, bH] at hc
        | some inf =>
          cases hz:inf.zero with
          | none => simp [hk, bH, hz] at hc
          | some z => simp [hk, bH, hz] at hc; obtain ⟨_, rfl⟩:=hc; cases hq
    . cases hc
  case mapUpdate t m k x =>
    simp at aj;have hm:=hE m aj.1;have fx:=hE k aj.2.1;have hx:=hE x aj.2.2;split at hc
    . rename_i kt e hu
      cases hk:SL P kt with
      | none => simp [hk] at hc
      | some mk =>
        simp [hk] at hc; subst hc;obtain ⟨d, hd, dF⟩:=UO hk;simp only [Zd] at h;split at h
        . rename_i i je
          rw [je] at hm;split at h
          . rename_i es clock aG
            split at h
            . rename_i ah
              simp only [z1] at ah;obtain ⟨bt, hall⟩:=ah;simp at h; obtain ⟨rfl, rfl⟩:=h;obtain ⟨p, entries, eA, hp, aB, aD⟩:=J_ hH aG hm;have eB:ev k = Q5 env k:=BP bt fx;have bN:(getObj p.blk).run P w = .ok (.map entries clock) w:=(by grind [Qu]);have bO:∀ O', (setObj p.blk O').run P w = .ok () (BX w p.blk O'):=(by grind [QL]);rcases Ym hd dF bt (Q5 env x) clock es entries.toList aD hall with ⟨h1, h2, h3⟩ | ⟨j, a, a', h1, h2, h3, h4, h5, h6⟩
              . rw [h3]
                obtain ⟨k1, k2⟩:=hH.setObj (i:=i) (p:=p) hp (JX aG) (o':=.map (es ++ [(Q5 env k, Q5 env x, clock)]) (clock + 1))
                  (O':=.map (entries.push { key:=ev k, val:=ev x, born:=clock }) (clock + 1)) (ORel.q0q.2 ⟨_, rfl, by
                    rw [Array.toList_push];exact GL aD ⟨eB, rfl, hx⟩⟩)
                refine ⟨undef, _, ρ, .inr ⟨?_, rfl⟩, Jl, k1, k2⟩;simp only [execOp];simp only [Instr.mapUpdate, zx, Q1 hu, zj, eA, bN, eB, Zq hd dF bt];simp_all
              . rw [h6]
                have gY:((entries[j]?).map (·.key)).getD (Q5 env k) = a.1:=by
                  rw [<- Array.getElem?_toList, h3];simp [(aD.2 j a' a h3 h2).1]
                have eR:ZZ mk a.1 = true:=(by grind)
                obtain ⟨k1, k2⟩:=hH.setObj (i:=i) (p:=p) hp (JX aG) (o':=.map (es.set j (Q5 env k, Q5 env x, a.2.2)) clock)
                  (O':=.map (entries.modify (0 + j) λe => { e with key:=Q5 env k, val:=ev x }) clock) (ORel.q0q.2 ⟨_, rfl, by
                    rw [Array.toList_modify, x4];exact Ge aD j _ _ (λe he => by
                      obtain rfl:a' = e:=osj (h3.symm.trans he);exact ⟨rfl, (aD.2 j a' a h3 h2).2.1, hx⟩)⟩)
                refine ⟨undef, _, ρ, .inr ⟨?_, rfl⟩, Jl, k1, k2⟩;simp only [execOp];simp only [Instr.mapUpdate, zx, Q1 hu, zj, eA, bN, eB, Zq hd dF bt];rw [h4];simp only [zj, zx, x4, gY];have bB:(Instr.keyThatStays a.1 (Q5 env k)).run P w = .ok (Q5 env k) w:=by unfold Instr.keyThatStays;rw [z7 (M7 bt eR h5)];rfl
                simp_all
            . cases h
          . cases h
        . cases h
    . cases hc
  case insert t m k x =>
    simp at aj;have hm:=hE m aj.1;have fx:=hE k aj.2.1;have hx:=hE x aj.2.2;split at hc
    . rename_i kt e hu
      cases hk:SL P kt with
      | none => simp [hk] at hc
      | some mk =>
        simp [hk] at hc; subst hc;obtain ⟨d, hd, dF⟩:=UO hk;simp only [Zd] at h;split at h
        . rename_i i je
          rw [je] at hm;split at h
          . rename_i es clock aG
            split at h
            . rename_i ah
              simp only [z1] at ah;obtain ⟨bt, hall⟩:=ah;simp at h; obtain ⟨rfl, rfl⟩:=h;obtain ⟨p, entries, eA, hp, aB, aD⟩:=J_ hH aG hm;have eB:ev k = Q5 env k:=BP bt fx;have bN:(getObj p.blk).run P w = .ok (.map entries clock) w:=(by grind [Qu]);have bO:∀ O', (setObj p.blk O').run P w = .ok () (BX w p.blk O'):=(by grind [QL]);rcases Ym hd dF bt (Q5 env x) clock es entries.toList aD hall with ⟨h1, h2, h3⟩ | ⟨j, a, a', h1, h2, h3, h4, h5, h6⟩
              . rw [h3]
                obtain ⟨k1, k2⟩:=hH.setObj (i:=i) (p:=p) hp (JX aG) (o':=.map (es ++ [(Q5 env k, Q5 env x, clock)]) (clock + 1))
                  (O':=.map (entries.push { key:=ev k, val:=ev x, born:=clock }) (clock + 1)) (ORel.q0q.2 ⟨_, rfl, by
                    rw [Array.toList_push];exact GL aD ⟨eB, rfl, hx⟩⟩)
                refine ⟨undef, _, ρ, .inr ⟨?_, rfl⟩, Jl, k1, k2⟩;simp only [execOp];simp only [Instr.mapUpdate, zx, Q1 hu, zj, eA, bN, eB, Zq hd dF bt];simp_all
              . rw [h6]
                have gY:((entries[j]?).map (·.key)).getD (Q5 env k) = a.1:=by
                  rw [<- Array.getElem?_toList, h3];simp [(aD.2 j a' a h3 h2).1]
                have eR:ZZ mk a.1 = true:=(by grind)
                obtain ⟨k1, k2⟩:=hH.setObj (i:=i) (p:=p) hp (JX aG) (o':=.map (es.set j (Q5 env k, Q5 env x, a.2.2)) clock)
                  (O':=.map (entries.modify (0 + j) λe => { e with key:=Q5 env k, val:=ev x }) clock) (ORel.q0q.2 ⟨_, rfl, by
                    rw [Array.toList_modify, x4];exact Ge aD j _ _ (λe he => by
                      obtain rfl:a' = e:=osj (h3.symm.trans he);exact ⟨rfl, (aD.2 j a' a h3 h2).2.1, hx⟩)⟩)
                refine ⟨undef, _, ρ, .inr ⟨?_, rfl⟩, Jl, k1, k2⟩;simp only [execOp];simp only [Instr.mapUpdate, zx, Q1 hu, zj, eA, bN, eB, Zq hd dF bt];rw [h4];simp only [zj, zx, x4, gY];have bB:(Instr.keyThatStays a.1 (Q5 env k)).run P w = .ok (Q5 env k) w:=by unfold Instr.keyThatStays;rw [z7 (M7 bt eR h5)];rfl
                simp_all
            . cases h
          . cases h
        . cases h
    . cases hc
  case mapEntry t m k =>
    simp at aj;have hm:=hE m aj.1;have fx:=hE k aj.2;split at hc
    . rename_i kt e hu
      cases hk:SL P kt with
      | none => simp [hk] at hc
      | some mk =>
      cases bH:P.info? e with
      | none => simp [hk, bH] at hc
      | some inf =>
      cases hz:inf.zero with
      | none => simp [hk, bH, hz] at hc
      | some z =>
        simp [hk, bH, hz] at hc;obtain ⟨kG, rfl⟩:=hc;obtain ⟨d, hd, dF⟩:=UO hk;have kD:∀ w', (zeroValue e).run P w' = .ok z w':=λw' => QY bH hz w';have dt:VRel ρ U.n z z:=V2 kG;simp only [Zd] at h;split at h
        . rename_i i je
          rw [je] at hm;split at h
          . rename_i es clock aG
            split at h
            . rename_i ah
              simp only [z1] at ah;obtain ⟨bt, hall⟩:=ah;obtain ⟨p, entries, eA, hp, aB, aD⟩:=J_ hH aG hm;have eB:ev k = Q5 env k:=BP bt fx;have bN:(getObj p.blk).run P w = .ok (.map entries clock) w:=(by grind [Qu]);have bO:∀ O', (setObj p.blk O').run P w = .ok () (BX w p.blk O'):=(by grind [QL]);split at h
              . rename_i e0 hf
                simp at h; obtain ⟨rfl, rfl⟩:=h;rcases Ym hd dF bt e0.2.1 clock es entries.toList aD hall with ⟨h1, h2, h3⟩ | ⟨j, a, a', h1, h2, h3, h4, h5, h6⟩
                . rw [hf] at h1; cases h1
                . obtain rfl:e0 = a:=by rw [hf] at h1; exact osj h1
                  rw [h6];have qQ:entries[j]? = some a':=by simp_all
                  have gY:((entries[j]?).map (·.key)).getD (Q5 env k) = e0.1:=by
                    rw [qQ]; simp [(aD.2 j a' e0 h3 h2).1]
                  have qR:((entries[j]?).map λx => (x.born:Int)).getD 0 = (e0.2.2:Int):=by rw [qQ]; simp [(aD.2 j a' e0 h3 h2).2.1]
                  have eR:ZZ mk e0.1 = true:=(by grind);have mY:=(aD.2 j a' e0 h3 h2).2.2
                  obtain ⟨k1, k2⟩:=hH.setObj (i:=i) (p:=p) hp (JX aG) (o':=.map (es.set j (Q5 env k, e0.2.1, e0.2.2)) clock)
                    (O':=.map (entries.modify (0 + j) λe => { e with key:=Q5 env k }) clock) (ORel.q0q.2 ⟨_, rfl, by
                      rw [Array.toList_modify, x4];exact Ge aD j _ _ (λe he => by
                        obtain rfl:a' = e:=osj (h3.symm.trans he);exact ⟨rfl, (aD.2 j a' e0 h3 h2).2.1, mY⟩)⟩)
                  refine ⟨.tuple #[a'.val, .int .i64 e0.2.2], _, ρ, .inl ?_, VRel.q0i (LRel.cons mY (LRel.cons (.int _ _) (LRel.nil _ _))), k1, k2⟩;simp only [execOp];simp only [Instr.mapEntry, zx, Q1 hu, zj, eA, bN, eB, Zq hd dF bt];rw [h4];simp only [zj, zx, x4, gY, qR];have bB:(Instr.keyThatStays e0.1 (Q5 env k)).run P w = .ok (Q5 env k) w:=by unfold Instr.keyThatStays;rw [z7 (M7 bt eR h5)];rfl
                  rw [bB];simp only [zj, bO, xc];rfl
              . rename_i hf
                simp at h; obtain ⟨rfl, rfl⟩:=h;rcases Ym hd dF bt z clock es entries.toList aD hall with ⟨h1, h2, h3⟩ | ⟨j, a, a', h1, h2, h3, h4, h5, h6⟩
                . rw [h3]
                  obtain ⟨k1, k2⟩:=hH.setObj (i:=i) (p:=p) hp (JX aG) (o':=.map (es ++ [(Q5 env k, z, clock)]) (clock + 1))
                    (O':=.map (entries.push { key:=Q5 env k, val:=z, born:=clock }) (clock + 1)) (ORel.q0q.2 ⟨_, rfl, by
                      rw [Array.toList_push];exact GL aD ⟨rfl, rfl, dt⟩⟩)
                  refine ⟨.tuple #[z, .int .i64 clock], _, ρ, .inl ?_, VRel.q0i (LRel.cons dt (LRel.cons (.int _ _) (LRel.nil _ _))), k1, k2⟩;simp only [execOp];simp only [Instr.mapEntry, zx, Q1 hu, zj, eA, bN, eB, Zq hd dF bt];rw [h2];simp only [zj, zx, kD, bO, xc];rfl
                . rw [hf] at h1; cases h1
            . cases h
          . cases h
        . cases h
    . cases hc
  case entryStore t m s x =>
    simp at aj;have hm:=hE m aj.1;have hs:=hE s aj.2.1;have hx:=hE x aj.2.2;simp at hc; subst hc;simp only [Zd] at h;split at h
    . rename_i i n je qS
      rw [je] at hm;rw [qS] at hs;split at h
      . rename_i es clock aG
        split at h
        . rename_i j kz
          split at h
          . rename_i e0 qd
            simp at h; obtain ⟨rfl, rfl⟩:=h;obtain ⟨p, entries, eA, hp, aB, aD⟩:=J_ hH aG hm;have m9:ev s = .int .i64 n:=Yg rfl hs;have bN:(getObj p.blk).run P w = .ok (.map entries clock) w:=(by grind [Qu]);have bO:∀ O', (setObj p.blk O').run P w = .ok () (BX w p.blk O'):=(by grind [QL]);have m_:entries.toList.map (λx => (x.born:Int)) = es.map (λe => (e.2.2:Int)):=by
              refine zK λq => ?_;rw [xp, xp];cases h1:entries.toList[q]? with
              | none =>
                have:es[q]? = none:=by rw [List.getElem?_eq_none_iff] at h1 |-; rw [<- aD.1]; exact h1
                rw [this]; rfl
              | some a =>
                cases h2:es[q]? with
                | none => rw [List.getElem?_eq_none_iff, <- aD.1, <- List.getElem?_eq_none_iff, h1] at h2; cases h2
                | some b => simp [(aD.2 q a b h1 h2).2.1]
            have qT:entries.findIdx? (λe => (e.born:Int) == n) = some j:=by
              have e1:entries.toList.findIdx? (λe => (e.born:Int) == n) = (entries.toList.map (λx => (x.born:Int))).findIdx? (λb => b == n):=by rw [List.findIdx?_map]; rfl
              have e2:es.findIdx? (λe => (e.2.2:Int) == n) = (es.map (λe => (e.2.2:Int))).findIdx? (λb => b == n):=by rw [List.findIdx?_map]; rfl
              have e3:entries.findIdx? (λe => (e.born:Int) == n) = entries.toList.findIdx? (λe => (e.born:Int) == n):=by rw [<- List.findIdx?_toArray, Array.toArray_toList]
              rw [e3, e1, m_, <- e2, kz]
            have bR:j < entries.toList.length:=by rw [aD.1]; grind
            have qQ:=z8 bR
            obtain ⟨k1, k2⟩:=hH.setObj (i:=i) (p:=p) hp (JX aG) (o':=.map (es.set j (e0.1, Q5 env x, e0.2.2)) clock)
              (O':=.map (entries.modify j λe => { e with val:=ev x }) clock) (ORel.q0q.2 ⟨_, rfl, by
                rw [Array.toList_modify];exact Ge aD j _ _ (λe he => by
                  have hr:=aD.2 j e e0 he qd;exact ⟨hr.1, hr.2.1, hx⟩)⟩)
            refine ⟨undef, _, ρ, .inr ⟨?_, rfl⟩, Jl, k1, k2⟩;simp only [execOp];simp only [Instr.entryStore, eA, zx, bN, zj, m9];simp [asInt, asIntOf, qT, bO]
          . cases h
        . cases h
      . cases h
    . cases h
  case range t x =>
    simp at aj;have hx:=hE x aj;split at hc
    . rename_i kt e hu
      simp at hc; subst hc;simp only [Zd] at h;split at h
      . rename_i m aX
        rw [aX] at hx;split at h
        . rename_i es clock wr aG
          simp at h; obtain ⟨rfl, rfl⟩:=h;obtain ⟨p, entries, eA, hp, aB, aD⟩:=J_ hH aG hx;rw [eA] at hx;obtain ⟨ρ', h1, h2, h3⟩:=hH.newObj (.iter m clock [] clock) (.mapIter (some p.blk) clock #[] clock) ⟨p.blk, rfl, hx⟩;have bN:(getObj p.blk).run P w = .ok (.map entries clock) w:=(by grind [Qu]);refine ⟨.pointer (some ⟨w.heap.size, 0, none⟩), _, ρ', .inl ?_, .ptr _ _ _ (by simp) (λq hq => ?_), h2, h3⟩
          . simp [execOp, Instr.range, Q1 hu, eA, bN]
          simp_all
        . cases h
      . cases h
    . cases hc
  case next x b => cases b <;> simp at hc; subst hc; simp [Zd] at h
  case entry x => simp at hc; subst hc; cases hq
  case convert s d x =>
    split at hc
    . rename_i t hs hd
      cases hi:P.info? t with
      | none => simp [hi] at hc
      | some inf => simp [hi] at hc; obtain ⟨_, rfl⟩:=hc; cases hq
    . rename_i u hs hd
      cases hi:P.info? u with
      | none => simp [hi] at hc
      | some inf => simp [hi] at hc; obtain ⟨_, rfl⟩:=hc; cases hq
    . split at hc
      . simp at hc; subst hc; cases hq
      . cases hc
    . rename_i e hs hd
      split at hc
      . rename_i he
        simp at hc; subst hc;simp only [Zd] at h;split at h
        . rename_i s' aX
          split at h
          . simp at h; obtain ⟨rfl, rfl⟩:=h
            have hx:=hE x (by simpa using aj);rw [aX] at hx;refine A8 hH hs hd he ?_;simp only [execOp, hx.q0n]
          . cases h
        . cases h
      . cases hc
    . cases hc
  case call c =>
    split at hc
    . split at hc
      . split at hc
        . simp at hc; subst hc; cases hq
        . cases hc
      . cases hc
    . rename_i aE
      split at hc
      . rename_i t mm kk dZ ct
        split at hc
        . rename_i kt e hu
          cases hk:SL P kt with
          | none => simp [hk] at hc
          | some mk =>
            simp [hk] at hc; subst hc;obtain ⟨d, hd, dF⟩:=UO hk;have bk:c.args = #[mm, kk]:=Array.ext' (by simpa using ct);have cA:JL mm = true /\ JL kk = true:=by simpa [Call.operands, aE, bk] using aj
            have hm:=hE mm cA.1;have fx:=hE kk cA.2;simp only [Zd] at h;split at h
            . rename_i i je
              rw [je] at hm;split at h
              . rename_i es clock aG
                split at h
                . rename_i ah
                  simp only [z1] at ah;obtain ⟨bt, hall⟩:=ah;simp at h; obtain ⟨rfl, rfl⟩:=h;obtain ⟨p, entries, eA, hp, aB, aD⟩:=J_ hH aG hm;have eB:ev kk = Q5 env kk:=BP bt fx;have bN:(getObj p.blk).run P w = .ok (.map entries clock) w:=(by grind [Qu]);have bO:∀ O', (setObj p.blk O').run P w = .ok () (BX w p.blk O'):=(by grind [QL]);obtain ⟨nv, qe⟩:=Ik es;rcases Ym hd dF bt nv clock es entries.toList aD hall with ⟨h1, h2, h3⟩ | ⟨j, a, a', h1, h2, h3, h4, h5, h6⟩
                  . rw [Pn h1]
                    obtain ⟨k1, k2⟩:=hH.setObj (i:=i) (p:=p) hp (JX aG) (o':=.map es clock) (O':=.map entries clock) (ORel.q0q.2 ⟨_, rfl, aD⟩);refine ⟨.tuple #[], _, ρ, .inl ?_, VRel.q0i (LRel.nil _ _), k1, k2⟩;simp only [execOp];simp [resolve, aE, bk, invoke, builtin, Builtin.delete_, dZ, Q1 hu, eA, bN, eB, Zq hd dF bt, h2, bO]
                  . obtain ⟨j0, g1, g2, g3⟩:=Tv (nv:=nv) (c:=clock) h1
                    have hj:j = j0:=by
                      rw [g2] at h6;have hs:=congrArg (λx:List JH × Nat => x.1) h6
                      grind [Q2a, List.getElem?_eq_some_iff]
                    subst hj;rw [g3];obtain ⟨k1, k2⟩:=hH.setObj (i:=i) (p:=p) hp (JX aG) (o':=.map (es.eraseIdx j) clock) (O':=.map (entries.eraseIdxIfInBounds (0 + j)) clock) (ORel.q0q.2 ⟨_, rfl, by
                      have bR:j < entries.size:=by
                        grind
                      rw [x4];have e:(entries.eraseIdxIfInBounds j).toList = entries.toList.eraseIdx j:=by simp
                      grind [Ac]⟩)
                    refine ⟨.tuple #[], _, ρ, .inl ?_, VRel.q0i (LRel.nil _ _), k1, k2⟩;simp only [execOp];simp [resolve, aE, bk, invoke, builtin, Builtin.delete_, dZ, Q1 hu, eA, bN, eB, Zq hd dF bt, h4, bO]
                . cases h
              . cases h
            . cases h
        . cases hc
      . cases hc
    . rename_i aE
      split at hc
      . rename_i t dd ss dZ ct
        split at hc
        . rename_i e hu
          cases hi:P.info? e with
          | none => simp [hi] at hc
          | some inf =>
            simp [hi] at hc; subst hc;have bk:c.args = #[dd, ss]:=Array.ext' (by simpa using ct);have cA:JL dd = true /\ JL ss = true:=by simpa [Call.operands, aE, bk] using aj
            have hd:=hE dd cA.1;have hs:=hE ss cA.2;simp only [Zd] at h;split at h
            . rename_i db dn dc sb sn sc qU qS
              rw [qU] at hd; rw [qS] at hs;obtain ⟨da, uk, qV⟩:=hd.q1v;obtain ⟨sa, jg, m9⟩:=hs.q1v;split at h
              . rename_i h0
                simp at h; obtain ⟨rfl, rfl⟩:=h;refine ⟨.int .i64 0, w, ρ, .inl ?_, .int _ _, hH, Ext.refl _ _ _⟩;simp only [execOp];have sL:Nat.min sn dn = 0:=h0;cases sa <;> cases da <;> simp [resolve, aE, bk, invoke, builtin, Builtin.copy_, dZ, qV, m9, Q1 hu, Qd hi, Builtin.lenOf, sL, Builtin.firstCells, loadCells, loadCellsFrom, storeCells, goInt]
              . rename_i h0
                split at h
                . rename_i i o xs aW
                  split at h
                  . rename_i cc e' wr tight hb
                    split at h
                    . rename_i ah
                      obtain ⟨rfl, mM, ja, gV⟩:=ah;simp at h; obtain ⟨rfl, rfl⟩:=h;have aS:VRel ρ U.n (.slice sb (min sn dn) sc) (.slice sa (min sn dn) jg):=by
                        rw [m9] at hs;cases hs with
                        | nilSl => exact absurd (by simp) h0
                        | slx _ _ _ _ _ fP dw => exact .slx _ _ _ _ _ fP dw
                        | sl i2 o2 _ _ a2 _ fP dw =>
                          refine .sl _ _ _ _ _ _ fP λp hp => ?_;obtain ⟨k1, k2, ⟨k0, wo⟩ | ⟨o', k3, k4, k5⟩⟩:=dw p hp
                          . omega
                          exact (by simp_all)
                      obtain ⟨du, us, eM, _, aP⟩:=TQ hH aW aS;have hr:=aP w (Like.refl ρ w);have qT:(Builtin.firstCells inf.size (min sn dn) (.slice sa sn jg)).run P w = .ok us.toArray w:=by rw [<- hr]; cases sa <;> rfl
                      obtain ⟨p, hp, hB⟩:=hH.live i _ hb;rw [qV] at hd;obtain ⟨a2, iW, jK, aL, aN⟩:=hd.q1b;simp at jK;obtain ⟨rfl, rfl⟩:=jK;obtain ⟨_, _, ⟨_, gI⟩ | ⟨o', qW, _, mO⟩⟩:=aN p hp
                      . exact absurd (by rw [gI]; simp) h0
                      have ho:o' = o:=mO.resolve_right (λhh => h0 (by rw [hh.1]; simp));subst ho;obtain ⟨h2, h3⟩:=hH.store hp hb eM (o:=o') (by omega);refine ⟨.int .i64 (min sn dn:Nat), _, ρ, .inl ?_, .int _ _, h2, h3⟩;have pZ:us.length = xs.length:=eM.1.symm
                      have bB:=run_storeCells_cells (P:=P) p.blk (p.shift + o') us 0 w
                        (λj hj => by rw [zN, zz]; exact hB.q0t _ (by have:=hB.2.2.1; omega))
                        (λj hj => by rw [zN, zz]; exact (hB.2.2.2.2.2 rfl).2 _ (by have:=hB.2.2.1; omega))
                        (YF gV eM)
                      rw [zN] at bB;have qX:Nat.min sn dn = min sn dn:=rfl;simp only [execOp];simp [resolve, aE, bk, invoke, builtin, Builtin.copy_, dZ, qV, m9, Q1 hu, Qd hi, Builtin.lenOf, qX, qT, qW, bB, goInt]
                    . cases h
                  . cases h
                . cases h
            . cases h
        . cases hc
      . cases hc
    . rename_i aE
      split at hc
      . rename_i t x dZ ct
        split at hc
        . rename_i e hu
          cases hz:zeroOf P e with
          | none => simp [hz] at hc
          | some z =>
            simp [hz] at hc;obtain ⟨gI, rfl⟩:=hc;obtain ⟨inf, zv, bH, dt, ga, wq, iK⟩:=Wu hz;have bk:c.args = #[x]:=Array.ext' (by simpa using ct);have cA:JL x = true:=by simpa [Call.operands, aE, bk] using aj
            have hx:=hE x cA;simp only [Zd] at h;split at h
            . rename_i b n cap aX
              rw [aX] at hx;obtain ⟨a, um, bT⟩:=hx.q1v;split at h
              . rename_i h0
                simp at h; obtain ⟨rfl, rfl⟩:=h;subst h0;refine ⟨.tuple #[], w, ρ, .inl ?_, VRel.q0i (LRel.nil _ _), hH, Ext.refl _ _ _⟩;simp only [execOp];cases a <;> simp [resolve, aE, bk, invoke, builtin, Builtin.clear_, dZ, bT, Q1 hu]
              . rename_i h0
                split at h
                . rename_i i o
                  split at h
                  . rename_i cc e' wr tight hb
                    split at h
                    . rename_i ah
                      obtain ⟨rfl, ja, gV⟩:=ah;simp at h; obtain ⟨rfl, rfl⟩:=h;have eM:LRel ρ U.n (BI n z) (BI n z):=JJ (Dc n z iK);have e_:=Pk n z;have bI:(BI n z).all cellOk = true:=EP n z gV;obtain ⟨p, hp, hB⟩:=hH.live i _ hb;rw [bT] at hx;obtain ⟨a2, iW, jK, aL, aN⟩:=hx.q1b;simp at jK;obtain ⟨rfl, rfl⟩:=jK;obtain ⟨_, _, ⟨_, gI⟩ | ⟨o', qW, _, mO⟩⟩:=aN p hp
                      . exact absurd gI h0
                      have ho:o' = o:=mO.resolve_right (λhh => h0 hh.1);subst ho;obtain ⟨h2, h3⟩:=hH.store hp hb eM (o:=o') (by omega);refine ⟨.tuple #[], _, ρ, .inl ?_, VRel.q0i (LRel.nil _ _), h2, h3⟩
                      have bB:=run_storeCells_cells (P:=P) p.blk (p.shift + o') (BI n z) 0 w
                        (λj hj => by rw [zN, zz]; exact hB.q0t _ (by have:=hB.2.2.1; omega))
                        (λj hj => by rw [zN, zz]; exact (hB.2.2.2.2.2 rfl).2 _ (by have:=hB.2.2.1; omega))
                        (YF bI eM)
                      rw [zN] at bB;have uo:(Builtin.zeroCells zv.cells n).toList = BI n z:=by have:=D8 zv.cells z ga (by intro hh; rw [hh] at gI; exact gI rfl) n;simpa [Builtin.zeroCells, <- ga] using this
                      simp only [execOp];obtain ⟨n', rfl⟩:∃ k, n = k + 1:=⟨n - 1, by omega⟩;simp [resolve, aE, bk, invoke, builtin, Builtin.clear_, dZ, bT, Q1 hu, QY bH dt, uo, qW, bB]
                    . cases h
                  . cases h
                . cases h
            . cases h
        . cases hc
      . cases hc
    . split at hc
      . simp at hc; subst hc; cases hq
      . cases hc
    . rename_i aE
      split at hc
      . rename_i t x nn dZ ct
        split at hc
        . rename_i e hu
          split at hc
          . rename_i qC
            simp at hc; subst hc;have bk:c.args = #[x, nn]:=Array.ext' (by simpa using ct);have cA:JL x = true /\ JL nn = true:=by simpa [Call.operands, aE, bk] using aj
            have hx:=hE x cA.1;have hn:=hE nn cA.2;simp only [Zd] at h;split at h
            . rename_i q k aX aJ
              rw [aX] at hx; rw [aJ] at hn;have gf:=hn.q0g;split at h
              . rename_i h0
                simp at h; obtain ⟨rfl, rfl⟩:=h;subst h0;refine ⟨.string ⟨#[]⟩, w, ρ, .inl ?_, .string _, hH, Ext.refl _ _ _⟩;have dj:∃ q', ev x = .pointer q':=by
                  cases q with
                  | none => exact ⟨none, hx.q0o⟩
                  | some a => obtain ⟨b, hb⟩:=hx.q1f; exact ⟨_, hb⟩
                obtain ⟨q', dj⟩:=dj;simp [execOp, resolve, aE, bk, invoke, builtin, dj, gf, RS c.argTypes ty t dZ q' w];rfl
              . rename_i h0
                split at h
                . rename_i i o
                  split at h
                  . rename_i cc el tight hb
                    split at h
                    . rename_i ah
                      obtain ⟨gZ, sN, het, ja⟩:=ah;split at h
                      . rename_i s' qc
                        simp at h; obtain ⟨rfl, rfl⟩:=h;obtain ⟨ns, mj, rfl⟩:=TK qc;obtain ⟨p, hp, h1, h2, h3, ⟨C, e', f, hC, qM, kJ⟩, h5, h6⟩:=hH.live i _ hb;obtain ⟨_, _, bT⟩:=hx.q0w hp;have kK:ns.length = k.toNat:=by have:=congrArg List.length mj;simp at this; omega
                        have br:∀ j n, ns[j]? = some n -> w.cell? ((⟨p.blk, p.shift + o, none⟩:Addr).add j) = some (.int .u8 n):=λj n hj => by
                          have bR:j < ns.length:=(zu.1 hj).1;have dA:cc[o + j]? = some (.int .u8 n):=by
                            have:((cc.drop o).take k.toNat)[j]? = some (.int .u8 n):=by rw [mj, xp, hj]; rfl
                            rwa [xt, z7 (by omega), zV] at this
                          obtain ⟨u, dz, cr⟩:=h5 (o + j) _ dA;have fy:(⟨p.blk, p.shift + o, none⟩:Addr).add j = ⟨p.blk, p.shift + (o + j), none⟩:=by unfold Addr.add; split <;> simp_all <;> omega
                          rw [fy, dz, cr.q0g]
                        have dG:w.shape? p.blk = some (e, C.size):=by simp [World.shape?, hC, kJ, het]
                        have hr:=Q0t (P:=P) c.argTypes ty t e dZ hu qC ⟨p.blk, p.shift + o, none⟩ C.size w dG ns k gZ kK (by show p.shift + o + ns.length <= C.size; omega) sN br;obtain ⟨k1, k2⟩:=hH.freeze hp hb (p.shift + o) k.toNat;refine ⟨.string ⟨(ns.map λn => n.toNat.toUInt8).toArray⟩, _, ρ, .inl ?_, .string _, k1, k2⟩;simp [execOp, resolve, aE, bk, invoke, builtin, bT, gf, hr]
                      . cases h
                    . cases h
                  . cases h
                . cases h
            . cases h
          . cases hc
        . cases hc
      . cases hc
    . cases hc
  all_goals cases hc
theorem IK {o:Oper}{vo:VOp}(hc:YO P o.op=vo) (hq:vo.quiet=true) (hH:HRel ρ U w) (hE:∀ x,JL x=true->VRel ρ U.n (Q5 env x) (ev x))
  (h:Q6 vo (Q5 env) U=some (v,U')):U'=U/\C4 P ρ U w v (execOp ev o):=by
 unfold YO at hc;split at hc
 .grind [Ch]
 .split at hc
  .rename_i x hx;subst hc;exact SY hx hq hH hE h
  .subst hc;simp[Q6] at h
theorem Q02 {o:Oper}{vo:VOp}(hc:YO P o.op=vo) (hq:vo.quiet=false) (hH:HRel ρ U w) (hE:∀ x,JL x=true->VRel ρ U.n (Q5 env x) (ev x))
  (h:Q6 vo (Q5 env) U=some (v,U')):R3 P ρ U w v U' (execOp ev o):=by
 unfold YO at hc;split at hc
 .grind [Fu]
 .split at hc
  .rename_i x hx;subst hc;exact CB hx hq hH hE h
  .subst hc;simp[Q6] at h
end
end Go.V