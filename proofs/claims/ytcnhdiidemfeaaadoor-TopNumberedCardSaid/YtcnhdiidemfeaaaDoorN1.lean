/- A framework for walks, contracts of functions, and their proofs: part 1. -/
import Derived.WalkKit
import Derived.Lib.Builder
import Derived.Lib.UnsafeStr
import Derived.DeepKeys
abbrev Go.z0:=@if_neg
abbrev Go.z6:=@if_pos
abbrev Go.z8:=@Bool.and_eq_true
abbrev Go.z9:=@List.getElem?_eq_getElem
abbrev Go.zd:=@Nat.le_refl
abbrev Go.ze:=@List.getD_eq_getElem?_getD
abbrev Go.zf:=@Int.toNat_natCast
abbrev Go.zg:=@List.all_eq_true
abbrev Go.zh:=@Go.Result.andThen_ok
abbrev Go.zi:=@_root_.cond_true
abbrev Go.zj:=@of_decide_eq_false
abbrev Go.zk:=@of_decide_eq_true
abbrev Go.zl:=@List.getElem_mem
abbrev Go.zm:=@Nat.lt_or_ge
abbrev Go.zn:=@decide_eq_true
abbrev Go.zo:=@List.mem_cons_of_mem
abbrev Go.zp:=@List.mem_cons_self
abbrev Go.zq:=@Option.map_eq_some_iff
abbrev Go.zr:=@decide_eq_true_eq
abbrev Go.zt:=@List.getElem?_eq_some_iff
abbrev Go.zu:=@Nat.mul_le_mul_right
abbrev Go.zw:=@Bool.false_eq_true
abbrev Go.zx:=@Go.Sem.run_bind
abbrev Go.zy:=@Bool.or_eq_true
abbrev Go.zz:=@if_true
abbrev Go.zA:=@List.mem_cons
abbrev Go.zB:=@List.mem_map
abbrev Go.zC:=@Nat.add_assoc
abbrev Go.zD:=@Nat.le_of_ble_eq_true
abbrev Go.zE:=@Option.bind_eq_bind
abbrev Go.zF:=@Nat.blt_eq
abbrev Go.zG:=@List.length_cons
abbrev Go.zH:=@List.getElem?_eq_none
abbrev Go.zI:=@List.mem_singleton
abbrev Go.zJ:=@List.map_cons
abbrev Go.zK:=@beq_iff_eq
abbrev Go.zL:=@List.length_append
abbrev Go.zM:=@Int.eq_ofNat_of_zero_le
abbrev Go.zN:=@Nat.eq_of_beq_eq_true
abbrev Go.zO:=@Nat.add_mul
abbrev Go.zP:=@_root_.cond_false
abbrev Go.zQ:=@List.all_cons
abbrev Go.zR:=@List.cons.inj
abbrev Go.zS:=@List.ext_getElem?
abbrev Go.zT:=@List.mem_filter
abbrev Go.zU:=@decide_eq_false
abbrev Go.zV:=@Option.bind_eq_some_iff
abbrev Go.zW:=@List.mem_range
abbrev Go.zX:=@List.getElem?_drop
abbrev Go.zY:=@Nat.add_zero
abbrev Go.zZ:=@Nat.lt_of_lt_of_le
abbrev Go.z_:=@Bool.not_eq_false'
abbrev Go.x3:=@List.take_of_length_le
abbrev Go.x4:=@List.length_eq_one_iff
abbrev Go.x5:=@Nat.le_trans
abbrev Go.x6:=@List.mem_append
abbrev Go.x7:=@beq_eq_false_iff_ne
abbrev Go.x8:=@List.mem_of_getElem?
abbrev Go.x9:=@List.append_assoc
abbrev Go.xc:=@List.length_eq_zero_iff
abbrev Go.xd:=@decide_eq_false_iff_not
abbrev Go.xe:=@List.mem_iff_getElem?
abbrev Go.xg:=@List.mapM_cons
abbrev Go.xh:=@List.length_pos_iff
abbrev Go.xi:=@Nat.zero_add
abbrev Go.xj:=@List.length_set
abbrev Go.xk:=@Bool.not_eq_true
abbrev Go.xl:=@Option.bind_some
abbrev Go.xm:=@Nat.mod_eq_of_lt
abbrev Go.xn:=@Go.Sem.run_pure
abbrev Go.xp:=@List.map_congr_left
abbrev Go.xq:=@Option.some.injEq
abbrev Go.xr:=@List.getElem?_append_left
abbrev Go.xt:=@List.length_map
abbrev Go.xu:=@List.cons_append
abbrev Go.xw:=@List.getElem?_map
abbrev Go.xx:=@List.getElem?_set
abbrev Go.xy:=@List.getElem?_append_right
abbrev Go.xA:=@List.getElem?_take
abbrev Go.xB:=@List.nodup_cons
abbrev Go.xC:=@Nat.lt_of_le_of_lt
abbrev Go.xD:=@List.getElem_map
abbrev Go.xE:=@List.replicate_succ
abbrev Go.xF:=@List.length_singleton
abbrev Go.xG:=@List.append_nil
abbrev Go.xH:=@List.map_append
abbrev Go.xI:=@List.any_eq_true
abbrev Go.xJ:=@List.sum_cons
abbrev Go.xK:=@List.drop_zero
abbrev Go.xL:=@Nat.one_mul
abbrev Go.xM:=@List.any_eq_false
abbrev Go.xN:=@List.nil_append
abbrev Go.xO:=@Array.getElem?_eq_getElem
abbrev Go.xP:=@List.drop_eq_getElem_cons
abbrev Go.xQ:=@List.length_replicate
abbrev Go.xR:=@List.length_take
abbrev Go.xS:=@Bool.not_eq_false
abbrev Go.xT:=@Array.getElem?_eq_some_iff
abbrev Go.xU:=@Bool.and_true
abbrev Go.xV:=@List.mem_append_right
abbrev Go.xW:=@Nat.shiftRight_eq_div_pow
abbrev Go.xX:=@Nat.add_comm
abbrev Go.xY:=@List.pairwise_map
abbrev Go.xZ:=@Bool.or_false
abbrev Go.x_:=@List.pairwise_cons
abbrev Go.w4:=@List.take_append_drop
abbrev Go.w5:=@Nat.min_eq_left
abbrev Go.wa:=@List.perm_ext_iff_of_nodup
abbrev Go.wb:=@List.mem_append_left
abbrev Go.wc:=@Nat.mod_lt
abbrev Go.wg:=@List.take_succ_cons
abbrev Go.wh:=@Bool.not_true
abbrev Go.wi:=@Option.map_some
abbrev Go.wj:=@List.foldl_cons
abbrev Go.wk:=@List.length_drop
abbrev Go.wm:=@List.set_append_right
abbrev Go.wq:=@List.map_map
abbrev Go.wu:=@Nat.sub_self
abbrev Go.wx:=@Nat.not_lt
abbrev Go.wz:=@List.drop_succ_cons
abbrev Go.wA:=@Nat.mul_one
abbrev Go.wB:=@List.length_range
abbrev Go.wC:=@Nat.mul_comm
abbrev Go.wD:=@and_self
theorem Go.osj.{u} {α:Type u} {a b:α}:some a=some b->a=b:=Option.some.inj
namespace Go.V
open Go
def t64:List Int:=[0,1,56,2,57,49,28,3,61,58,42,50,38,29,17,4,62,47,59,36,45,43,51,22,53,39,33,30,24,18,12,5,63,55,48,27,60,41,37,16,46,35,44,21,52,32,23,11,54,26,40,15,34,20,31,10,25,14,19,9,13,8,7,6]
def Q4a:Nat->Option (List Value)
 |0=>some (t64.map λx=>.int .u8 x)
 |_=>none
structure El where
 sz:Nat
 ty:Nat
 deriving DecidableEq,Inhabited
inductive VObj where
 |map (es:List (Value×Value×Nat)) (clock:Nat)
 |iter (m since:Nat) (seen:List Nat) (last:Nat)
 |lp (env:List Value) (r:Loop) (st:LoopState) (pend:Option Code)
 deriving Inhabited
inductive Blk where
 |cells (c:List Value) (esz:El) (wr tight:Bool)
 |obj (o:VObj) (wr:Bool)
 deriving Inhabited
def Blk.wr:Blk->Bool
 |.cells _ _ w _=>w
 |.obj _ w=>w
structure Heap where
 get:Nat->Option Blk
 n:Nat
 wf:∀ i,n<=i->get i=none
theorem Heap.lt (U:Heap) {i:Nat}{b:Blk}(h:U.get i=some b):i<U.n:=by
 rcases zm i U.n with h'|h'
 .exact h'
 .rw[U.wf i h'] at h;cases h
def Heap.push (U:Heap) (b:Blk):Heap where
 get i:=if i=U.n then some b else U.get i
 n:=U.n+1
 wf i h:=by rw[z0 (by omega)];exact U.wf i (by omega)
def Heap.upd (U:Heap) (i:Nat) (b:Blk):Heap where
 get j:=if j=i/\i<U.n then some b else U.get j
 n:=U.n
 wf j h:=by rw[z0 (by omega)];exact U.wf j h
def Heap.kill (U:Heap) (i:Nat):Heap where
 get j:=if j=i then none else U.get j
 n:=U.n
 wf j h:=by split;rfl;exact U.wf j h
@[simp] theorem Heap.push_n (U:Heap) (b:Blk):(U.push b).n=U.n+1:=rfl
@[simp] theorem Heap.q2i (U:Heap) (i:Nat) (b:Blk):(U.upd i b).n=U.n:=rfl
@[simp] theorem Heap.kill_n (U:Heap) (i:Nat):(U.kill i).n=U.n:=rfl
theorem Heap.q0a (U:Heap) (b:Blk):(U.push b).get U.n=some b:=by simp[Heap.push]
theorem Heap.q0e (U:Heap) (b:Blk) {i:Nat}(h:i≠U.n):(U.push b).get i=U.get i:=by simp[Heap.push,h]
theorem Heap.q0k (U:Heap) (b:Blk) {i:Nat}(h:i<U.n):(U.push b).get i=U.get i:=U.q0e b (Nat.ne_of_lt h)
theorem Heap.q0c (U:Heap) (b:Blk) {i:Nat}(h:i<U.n):(U.upd i b).get i=some b:=by simp[Heap.upd,h]
theorem Heap.q0b (U:Heap) (b:Blk) {i j:Nat}(h:j≠i):(U.upd i b).get j=U.get j:=by simp[Heap.upd,h]
theorem Heap.q0f (U:Heap) (i:Nat):(U.kill i).get i=none:=by simp[Heap.kill]
theorem Heap.q0d (U:Heap) {i j:Nat}(h:j≠i):(U.kill i).get j=U.get j:=by simp[Heap.kill,h]
structure Pl where
 blk:Nat
 shift:Nat
 ext:Nat
 esz:El
 tight:Bool
abbrev Plc:=Nat->Option Pl
def poison:Value:=.chan none
inductive VRel (ρ:Plc) (n:Nat):Value->Value->Prop
 |poison (c:Value):VRel ρ n poison c
 |bool (b:Bool):VRel ρ n (.bool b) (.bool b)
 |int (k:IntKind) (x:Int):VRel ρ n (.int k x) (.int k x)
 |string (s:ByteArray):VRel ρ n (.string s) (.string s)
 |nilPtr:VRel ρ n (.pointer none) (.pointer none)
 |nilSl:VRel ρ n (.slice none 0 0) (.slice none 0 0)
 |nilMap:VRel ρ n (.map none) (.map none)
 |nilFunc:VRel ρ n .nilFunc .nilFunc
 |nilIface:VRel ρ n .nilIface .nilIface
 |glob (g o s:Nat):VRel ρ n (.pointer (some ⟨g,o,some s⟩)) (.pointer (some ⟨g,o,none⟩))
 |ptr (i o:Nat) (a:Addr) (hi:i<n) (h:∀ p,ρ i=some p->a=⟨p.blk,p.shift+o,none⟩):VRel ρ n (.pointer (some ⟨i,o,none⟩)) (.pointer (some a))
 |sl (i o len cap:Nat) (a:Addr) (ao:Nat) (hi:i<n)
   (h:∀ p,ρ i=some p->cap<=ao/\(p.tight=true->ao=cap)/\(ao=0/\len=0\/∃ o',a=⟨p.blk,p.shift+o',none⟩/\o'+ao*p.esz.sz<=p.ext/\(o'=o\/(len=0/\cap=0)))) :
   VRel ρ n (.slice (some ⟨i,o,none⟩) len cap) (.slice (some a) len ao)
 |slx (i o len cap:Nat) (a:Addr) (hi:i<n) (h:∀ p,ρ i=some p->a=⟨p.blk,p.shift+o,none⟩/\o+cap*p.esz.sz<=p.ext) :
   VRel ρ n (.slice (some ⟨i,o,some 0⟩) len cap) (.slice (some a) len cap)
 |map (i r:Nat) (hi:i<n) (h:∀ p,ρ i=some p->r=p.blk):VRel ρ n (.map (some i)) (.map (some r))
 |yield (i r:Nat) (hi:i<n) (h:∀ p,ρ i=some p->r=p.blk):VRel ρ n (.func (.yield i) #[] #[]) (.func (.yield r) #[] #[])
 |iface (t:TypeId) (v c:Value) (h:VRel ρ n v c):VRel ρ n (.iface t v) (.iface t c)
 |func (fn:FuncId) (fs gs cs ds:Array Value) (hf:fs.size=gs.size) (hc:cs.size=ds.size)
   (h1:∀ i (h1:i<fs.size) (h2:i<gs.size),VRel ρ n fs[i] gs[i]) (h2:∀ i (h1:i<cs.size) (h2:i<ds.size),VRel ρ n cs[i] ds[i]):VRel ρ n (.func (.func fn) fs cs) (.func (.func fn) gs ds)
 |agg (cs ds:Array Value) (hc:cs.size=ds.size) (h:∀ i (h1:i<cs.size) (h2:i<ds.size),VRel ρ n cs[i] ds[i]):VRel ρ n (.agg cs) (.agg ds)
 |tuple (cs ds:Array Value) (hc:cs.size=ds.size) (h:∀ i (h1:i<cs.size) (h2:i<ds.size),VRel ρ n cs[i] ds[i]):VRel ρ n (.tuple cs) (.tuple ds)
theorem VRel.mono {ρ ρ':Plc}{n n':Nat}(hn:n<=n') (hρ:∀ i,i<n->∀ p,ρ' i=some p->ρ i=some p) {v c:Value}(h:VRel ρ n v c):VRel ρ' n' v c:=by
 induction h with
 |poison c=>exact .poison c
 |bool b=>exact .bool b
 |int k x=>exact .int k x
 |string s=>exact .string s
 |nilPtr=>exact .nilPtr
 |nilSl=>exact .nilSl
 |nilMap=>exact .nilMap
 |nilFunc=>exact .nilFunc
 |nilIface=>exact .nilIface
 |glob g o s=>exact .glob g o s
 |ptr i o a hi h=>exact .ptr i o a (by omega) λp hp=>h p (hρ i hi p hp)
 |sl i o len cap a ao hi h=>exact .sl i o len cap a ao (by omega) λp hp=>h p (hρ i hi p hp)
 |slx i o len cap a hi h=>exact .slx i o len cap a (by omega) λp hp=>h p (hρ i hi p hp)
 |map i r hi h=>exact .map i r (by omega) λp hp=>h p (hρ i hi p hp)
 |yield i r hi h=>exact .yield i r (by omega) λp hp=>h p (hρ i hi p hp)
 |iface t v c _ ih=>exact .iface t v c ih
 |func fn fs gs cs ds hf hc _ _ lU lW=>exact .func fn fs gs cs ds hf hc lU lW
 |agg cs ds hc _ ih=>exact .agg cs ds hc ih
 |tuple cs ds hc _ ih=>exact .tuple cs ds hc ih
def LRel (ρ:Plc) (n:Nat) (vs cs:List Value):Prop:=vs.length=cs.length/\∀ (i:Nat) (v c:Value),vs[i]?=some v->cs[i]?=some c->VRel ρ n v c
theorem LRel.mono {ρ ρ':Plc}{n n':Nat}(hn:n<=n') (hρ:∀ i,i<n->∀ p,ρ' i=some p->ρ i=some p) {v c:List Value}(h:LRel ρ n v c):LRel ρ' n' v c :=
 ⟨h.1,λi v c hv hc=>(h.2 i v c hv hc).mono hn hρ⟩
theorem LRel.nil (ρ:Plc) (n:Nat):LRel ρ n [] []:=⟨rfl,λi v c h _=>by simp at h⟩
theorem LRel.cons {ρ:Plc}{n:Nat}{v c:Value}{vs cs:List Value}(h:VRel ρ n v c) (hs:LRel ρ n vs cs):LRel ρ n (v::vs) (c::cs):=by
 refine⟨by simp[hs.1],λi v' c' hv hc=>?_⟩;cases i with
 |zero=>simp at hv hc;subst hv;subst hc;exact h
 |succ i=>simp at hv hc;exact hs.2 i v' c' hv hc
theorem LRel.get {ρ:Plc}{n:Nat}{vs cs:List Value}(h:LRel ρ n vs cs) {i:Nat}{v:Value}(hv:vs[i]?=some v):∃ c,cs[i]?=some c/\VRel ρ n v c:=by
 have ai:i<vs.length:=(zt.1 hv).1;have cQ:i<cs.length:=by have:=h.1;omega
 exact⟨cs[i],z9 cQ,h.2 i v _ hv (z9 cQ)⟩
theorem LRel.set {ρ:Plc}{n:Nat}{vs cs:List Value}(h:LRel ρ n vs cs) (i:Nat) {v c:Value}(hv:VRel ρ n v c):LRel ρ n (vs.set i v) (cs.set i c):=by
 refine⟨by simp[h.1],λj v' c' h1 h2=>?_⟩;rw[xx] at h1 h2;by_cases b_:i=j
 .simp_all
 .simp only[b_,if_false] at h1 h2;exact h.2 j v' c' h1 h2
theorem LRel.append {ρ:Plc}{n:Nat}{vs cs cA cs':List Value}(h:LRel ρ n vs cs) (h':LRel ρ n cA cs'):LRel ρ n (vs++cA) (cs++cs'):=by
 refine⟨by simp[h.1,h'.1],λi v c hv hc=>?_⟩;have e:=h.1;rw[List.getElem?_append] at hv hc;split at hv<;>split at hc<;>try omega
 .exact h.2 i v c hv hc
 .rw[e] at hv;exact h'.2 _ v c hv hc
theorem VRel.q1m {ρ:Plc}{n:Nat}{cs ds:List Value}(h:LRel ρ n cs ds):VRel ρ n (.agg cs.toArray) (.agg ds.toArray) :=
 .agg _ _ (by simpa using h.1) λi h1 h2=>h.2 i _ _ (by simp) (by simp)
theorem VRel.q0i {ρ:Plc}{n:Nat}{cs ds:List Value}(h:LRel ρ n cs ds):VRel ρ n (.tuple cs.toArray) (.tuple ds.toArray) :=
 .tuple _ _ (by simpa using h.1) λi h1 h2=>h.2 i _ _ (by simp) (by simp)
theorem LRel.of_array {ρ:Plc}{n:Nat}{cs ds:Array Value}(hc:cs.size=ds.size) (h:∀ i (h1:i<cs.size) (h2:i<ds.size),VRel ρ n cs[i] ds[i]):LRel ρ n cs.toList ds.toList:=by
 refine⟨by simpa using hc,λi v c hv c_=>?_⟩
 grind
def ORel (ρ:Plc) (n:Nat):VObj->Obj->Prop
 |.map es clock,o=>∃ entries,o=.map entries clock/\entries.size=es.length /\
   ∀ (k:Nat) (kv:Value×Value×Nat),es[k]?=some kv->∃ e:MapEntry,entries[k]?=some e/\e.key=kv.1/\e.born=kv.2.2/\VRel ρ n kv.2.1 e.val
 |.iter m since seen last,o=>∃ rm,o=.mapIter (some rm) since seen.toArray last/\VRel ρ n (.map (some m)) (.map (some rm))
 |.lp env r st pend,o=>o=.loop {r with state:=st,pending:=pend}/\LRel ρ n env r.tmps.toList
def BRel (ρ:Plc) (n:Nat) (p:Pl) (w:World):Blk->Prop
 |.cells c esz wr tight=>p.esz=esz/\p.tight=tight/\c.length<=p.ext /\
   (∃ C e f,w.heap[p.blk]?=some (.cells C e f)/\p.shift+p.ext<=C.size/\e=esz.ty) /\
   (∀ (k:Nat) (v:Value),c[k]?=some v->∃ u,w.cell? ⟨p.blk,p.shift+k,none⟩=some u/\VRel ρ n v u) /\
   (wr=true->(tight=true->p.shift=0)/\∀ k,k<p.ext->w.frozen? ⟨p.blk,p.shift+k,none⟩=false)
 |.obj o _=>(p.ext=1/\p.shift=0)/\∃ O,w.heap[p.blk]?=some O/\ORel ρ n o O
structure HRel0 (ρ:Plc) (U:Heap) (w:World):Prop where
 live:∀ i b,U.get i=some b->∃ p,ρ i=some p/\BRel ρ U.n p w b
 dead:∀ i,U.get i=none->ρ i=none
 lt:∀ i p,ρ i=some p->p.blk<w.heap.size
 sep:∀ i j p q b,i≠j->ρ i=some p->ρ j=some q->U.get i=some b->b.wr=true->0<q.ext->p.blk≠q.blk
theorem HRel0.idlt {ρ:Plc}{U:Heap}{w:World}(h:HRel0 ρ U w) {i:Nat}{p:Pl}(hp:ρ i=some p):i<U.n:=by
 cases hb:U.get i with
 |none=>rw[h.dead i hb] at hp;cases hp
 |some b=>exact U.lt hb
def Wr (ρ:Plc) (U:Heap) (B:Nat):Prop:=∃ i p b,ρ i=some p/\U.get i=some b/\b.wr=true/\p.blk=B
structure Ext (ρ:Plc) (U:Heap) (w:World) (ρ':Plc) (U':Heap) (w':World):Prop where
 os:w'.os=w.os
 tape:w'.tape=w.tape
 output:w'.output=w.output
 size:w.heap.size<=w'.heap.size
 keep:∀ B,B<w.heap.size->¬ Wr ρ U B->w'.heap[B]?=w.heap[B]?
 wr:∀ B,B<w.heap.size->Wr ρ' U' B->Wr ρ U B
 n:U.n<=U'.n
 pl:∀ i,i<U.n->∀ p,ρ' i=some p->ρ i=some p
theorem Ext.refl (ρ:Plc) (U:Heap) (w:World):Ext ρ U w ρ U w :=
 ⟨rfl,rfl,rfl,zd _,λ_ _ _=>rfl,λ_ _ h=>h,zd _,λ_ _ _ h=>h⟩
theorem Ext.trans {ρ ρ' ec:Plc}{U U' aE:Heap}{w w' oy:World}(h:Ext ρ U w ρ' U' w') (k:Ext ρ' U' w' ec aE oy):Ext ρ U w ec aE oy where
 os:=k.os.trans h.os
 tape:=k.tape.trans h.tape
 output:=k.output.trans h.output
 size:=x5 h.size k.size
 keep B hB hW:=(k.keep B (zZ hB h.size) (λhw=>hW (h.wr B hB hw))).trans (h.keep B hB hW)
 wr B hB hW:=h.wr B hB (k.wr B (zZ hB h.size) hW)
 n:=x5 h.n k.n
 pl i hi p hp:=h.pl i hi p (k.pl i (zZ hi h.n) p hp)
theorem Ext.lrel {ρ ρ':Plc}{U U':Heap}{w w':World}(h:Ext ρ U w ρ' U' w') {v c:List Value}(hv:LRel ρ U.n v c):LRel ρ' U'.n v c:=hv.mono h.n h.pl
theorem ORel.mono {ρ ρ':Plc}{n n':Nat}(hn:n<=n') (hρ:∀ i,i<n->∀ p,ρ' i=some p->ρ i=some p) {o:VObj}{O:Obj}(h:ORel ρ n o O):ORel ρ' n' o O:=by
 cases o with
 |map es clock =>obtain⟨entries,h1,h2,h3⟩:=h;exact⟨entries,h1,h2,λk kv hk=>let ⟨e,he,h4,h5,hv⟩:=h3 k kv hk;⟨e,he,h4,h5,hv.mono hn hρ⟩⟩
 |iter m since seen last=>obtain⟨rm,h1,h2⟩:=h;exact⟨rm,h1,h2.mono hn hρ⟩
 |lp env r st pend=>exact⟨h.1,h.2.mono hn hρ⟩
theorem ORel.q1s {ρ:Plc}{n:Nat}{o:VObj}{C:Array Value}{e:TypeId}{f:Nat×Nat}:¬ ORel ρ n o (.cells C e f):=by
 cases o with
 |map es clock=>rintro⟨_,h,_⟩;cases h
 |iter m since seen last=>rintro⟨_,h,_⟩;cases h
 |lp env r st pend=>rintro⟨h,_⟩;cases h
theorem ORel.q0m {ρ:Plc}{n:Nat}{o:VObj}{d:Option (List Deferred)}:¬ ORel ρ n o (.deferred d):=by
 cases o with
 |map es clock=>rintro⟨_,h,_⟩;cases h
 |iter m since seen last=>rintro⟨_,h,_⟩;cases h
 |lp env r st pend=>rintro⟨h,_⟩;cases h
theorem BRel.mono {ρ ρ':Plc}{n n':Nat}(hn:n<=n') (hρ:∀ i,i<n->∀ p,ρ' i=some p->ρ i=some p) {p:Pl}{w w':World}(hw:w'.heap[p.blk]?=w.heap[p.blk]?) {b:Blk}(h:BRel ρ n p w b):BRel ρ' n' p w' b:=by
 cases b with
 |cells c esz wr tight =>
  obtain⟨h1,h2,h3,h4,h5,h6⟩:=h;refine⟨h1,h2,h3,by rw[hw];exact h4,λk v hk=>?_,λfM=>⟨(h6 fM).1,λk hk=>?_⟩⟩
  .obtain⟨u,hu,hv⟩:=h5 k v hk;exact⟨u,by grind [World.cell?_of_block],hv.mono hn hρ⟩
  .grind [World.frozen?_of_block]
 |obj o wr =>obtain⟨h0,O,h1,h2⟩:=h;exact⟨h0,O,by rw[hw];exact h1,h2.mono hn hρ⟩
theorem HRel0.world {ρ:Plc}{U:Heap}{w w':World}(h:HRel0 ρ U w) (hs:w.heap.size<=w'.heap.size) (hb:∀ i p,ρ i=some p->w'.heap[p.blk]?=w.heap[p.blk]?):HRel0 ρ U w' where
 live i b hi:=by obtain⟨p,hp,hB⟩:=h.live i b hi;exact⟨p,hp,hB.mono (zd _) (λ_ _ _ h=>h) (hb i p hp)⟩
 dead:=h.dead
 lt i p hp:=zZ (h.lt i p hp) hs
 sep:=h.sep
theorem HRel0.drew {ρ:Plc}{U:Heap}{w:World}(h:HRel0 ρ U w):HRel0 ρ U w.drew:=h.world (zd _) (λ_ _ _=>rfl)
theorem Ext.drew (ρ:Plc) (U:Heap) (w:World):Ext ρ U w ρ U w.drew :=
 ⟨rfl,rfl,rfl,zd _,λ_ _ _=>rfl,λ_ _ h=>h,zd _,λ_ _ _ h=>h⟩
def Plc.put (ρ:Plc) (i:Nat) (p:Option Pl):Plc:=λj=>if j=i then p else ρ j
theorem HRel0.alloc {ρ:Plc}{U:Heap}{w:World}(h:HRel0 ρ U w) (c:List Value) (C:Array Value) (e:TypeId) (esz:El) (tight:Bool) (he:e=esz.ty)
  (hc:LRel ρ U.n c (C.toList.take c.length)) (hl:c.length<=C.size) :
  ∃ ρ',ρ' U.n=some ⟨w.heap.size,0,C.size,esz,tight⟩/\HRel0 ρ' (U.push (.cells c esz true tight)) (w.alloc (.cells C e))/\Ext ρ U w ρ' (U.push (.cells c esz true tight)) (w.alloc (.cells C e)):=by
 have hold:∀ k,k<w.heap.size->(w.alloc (.cells C e)).heap[k]?=w.heap[k]?:=λk hk=>by
  show (w.heap.push _)[k]?=_
  grind
 have aI:(w.alloc (.cells C e)).heap.size=w.heap.size+1:=World.size_alloc w _;have aU:∀ i,i<U.n->∀ p,(ρ.put U.n (some ⟨w.heap.size,0,C.size,esz,tight⟩)) i=some p->ρ i=some p:=λi hi p hp=>by unfold Plc.put at hp;rwa [z0 (by omega)] at hp
 refine⟨ρ.put U.n (some ⟨w.heap.size,0,C.size,esz,tight⟩),by simp[Plc.put],⟨?_,?_,?_,?_⟩,⟨rfl,rfl,rfl,by omega,λB hB _=>hold B hB,?_,by simp,aU⟩⟩
 .intro i b hb;by_cases hi:i=U.n
  .subst hi;rw[Heap.q0a] at hb;obtain rfl:=osj hb;refine⟨⟨w.heap.size,0,C.size,esz,tight⟩,by simp[Plc.put],rfl,rfl,hl,⟨C,e,(0,0),?_,by simp,he⟩,λk v hk=>?_,λ_=>⟨λ_=>rfl,λk _=>?_⟩⟩
   .show (w.heap.push _)[w.heap.size]?=_;simp
   .obtain⟨u,hu,hv⟩:=hc.get hk;have cB:k<c.length:=(zt.1 hk).1;refine⟨u,?_,hv.mono (by simp) aU⟩;rw[xi,World.cell?_alloc_new]
    grind
   simp_all
  .rw[Heap.q0e _ _ hi] at hb;obtain⟨p,hp,hB⟩:=h.live i b hb;exact⟨p,by simp[Plc.put,hi,hp],hB.mono (by simp) aU (hold _ (h.lt i p hp))⟩
 .intro i hi;by_cases aO:i=U.n
  .grind [Heap.q0a]
  .rw[Heap.q0e _ _ aO] at hi;simp[Plc.put,aO,h.dead i hi]
 .intro i p hp;by_cases hi:i=U.n
  .subst hi;simp[Plc.put] at hp;subst hp;simp
  .simp[Plc.put,hi] at hp;have:=h.lt i p hp;omega
 .intro i j p q b b_ hp hq hb hw hx;by_cases hi:i=U.n
  .subst hi;simp[Plc.put] at hp;subst hp;simp[Plc.put,Ne.symm b_] at hq;have:=h.lt j q hq;intro e;simp at e;omega
  .simp[Plc.put,hi] at hp;rw[Heap.q0e _ _ hi] at hb;by_cases hj:j=U.n
   .subst hj;simp[Plc.put] at hq;subst hq;have:=h.lt i p hp;intro e;simp at e;omega
   .simp[Plc.put,hj] at hq;exact h.sep i j p q b b_ hp hq hb hw hx
 .rintro B hB ⟨i,p,b,hp,hb,hw,rfl⟩;by_cases hi:i=U.n
  .subst hi;simp[Plc.put] at hp;subst hp;simp at hB
  .simp[Plc.put,hi] at hp;rw[Heap.q0e _ _ hi] at hb;exact⟨i,p,b,hp,hb,hw,rfl⟩
theorem HRel0.newObj {ρ:Plc}{U:Heap}{w:World}(h:HRel0 ρ U w) (o:VObj) (O:Obj) (ho:ORel ρ U.n o O) :
  ∃ ρ',ρ' U.n=some ⟨w.heap.size,0,1,default,true⟩/\HRel0 ρ' (U.push (.obj o true)) (w.alloc O)/\Ext ρ U w ρ' (U.push (.obj o true)) (w.alloc O):=by
 have hold:∀ k,k<w.heap.size->(w.alloc O).heap[k]?=w.heap[k]?:=λk hk=>by
  show (w.heap.push _)[k]?=_
  grind
 have aI:(w.alloc O).heap.size=w.heap.size+1:=World.size_alloc w _;have aU:∀ i,i<U.n->∀ p,(ρ.put U.n (some ⟨w.heap.size,0,1,default,true⟩)) i=some p->ρ i=some p:=λi hi p hp=>by unfold Plc.put at hp;rwa [z0 (by omega)] at hp
 refine⟨ρ.put U.n (some ⟨w.heap.size,0,1,default,true⟩),by simp[Plc.put],⟨?_,?_,?_,?_⟩,⟨rfl,rfl,rfl,by omega,λB hB _=>hold B hB,?_,by simp,aU⟩⟩
 .intro i b hb;by_cases hi:i=U.n
  .subst hi;rw[Heap.q0a] at hb;obtain rfl:=osj hb;refine⟨⟨w.heap.size,0,1,default,true⟩,by simp[Plc.put],⟨rfl,rfl⟩,O,?_,ho.mono (by simp) aU⟩;show (w.heap.push _)[w.heap.size]?=_;simp
  .rw[Heap.q0e _ _ hi] at hb;obtain⟨p,hp,hB⟩:=h.live i b hb;exact⟨p,by simp[Plc.put,hi,hp],hB.mono (by simp) aU (hold _ (h.lt i p hp))⟩
 .intro i hi;by_cases aO:i=U.n
  .grind [Heap.q0a]
  .rw[Heap.q0e _ _ aO] at hi;simp[Plc.put,aO,h.dead i hi]
 .intro i p hp;by_cases hi:i=U.n
  .subst hi;simp[Plc.put] at hp;subst hp;simp
  .simp[Plc.put,hi] at hp;have:=h.lt i p hp;omega
 .intro i j p q b b_ hp hq hb hw hx;by_cases hi:i=U.n
  .subst hi;simp[Plc.put] at hp;subst hp;simp[Plc.put,Ne.symm b_] at hq;have:=h.lt j q hq;intro e;simp at e;omega
  .simp[Plc.put,hi] at hp;rw[Heap.q0e _ _ hi] at hb;by_cases hj:j=U.n
   .subst hj;simp[Plc.put] at hq;subst hq;have:=h.lt i p hp;intro e;simp at e;omega
   .simp[Plc.put,hj] at hq;exact h.sep i j p q b b_ hp hq hb hw hx
 .rintro B hB ⟨i,p,b,hp,hb,hw,rfl⟩;by_cases hi:i=U.n
  .subst hi;simp[Plc.put] at hp;subst hp;simp at hB
  .simp[Plc.put,hi] at hp;rw[Heap.q0e _ _ hi] at hb;exact⟨i,p,b,hp,hb,hw,rfl⟩
def RX (w:World) (b:Nat) (O:Obj):World:={w with heap:=w.heap.setIfInBounds b O}
theorem Ks (w:World) (b:Nat) (O:Obj) (k:Nat) (h:k≠b):(RX w b O).heap[k]?=w.heap[k]?:=by simp only[RX];grind
theorem Q1c (w:World) (b:Nat) (O:Obj) (h:b<w.heap.size):(RX w b O).heap[b]?=some O:=by simp only[RX];simp_all
theorem BJ (w:World) (b:Nat) (O:Obj):(RX w b O).heap.size=w.heap.size:=by simp[RX]
theorem HRel0.setObj {ρ:Plc}{U:Heap}{w:World}(h:HRel0 ρ U w) {i:Nat}{p:Pl}{o:VObj}(hp:ρ i=some p) (hb:U.get i=some (.obj o true)) {o':VObj}{O':Obj}(ho:ORel ρ U.n o' O') :
  HRel0 ρ (U.upd i (.obj o' true)) (RX w p.blk O')/\Ext ρ U w ρ (U.upd i (.obj o' true)) (RX w p.blk O'):=by
 have hi:=U.lt hb;obtain⟨p',a9,h0,O,h1,h2⟩:=h.live i _ hb;obtain rfl:p=p':=osj (hp.symm.trans a9);have ai:=h.lt i p hp;refine⟨⟨λj b hj=>?_,λj hj=>?_,λj q hq=>by rw[BJ];exact h.lt j q hq,λj k q r b cM hq hr cm hw hx=>?_⟩,?_⟩
 .by_cases aK:j=i
  .subst aK;rw[Heap.q0c _ _ hi] at hj;obtain rfl:=osj hj;exact⟨p,hp,h0,O',Q1c _ _ _ ai,ho⟩
  .rw[Heap.q0b _ _ aK] at hj;obtain⟨q,hq,eN⟩:=h.live j b hj;refine⟨q,hq,?_⟩;by_cases hk:q.blk=p.blk
   .have hx:q.ext=0:=by
     rcases Nat.eq_zero_or_pos q.ext with h'|h'
     .exact h'
     .exact absurd hk.symm (h.sep i j p q _ (Ne.symm aK) hp hq hb rfl h')
    cases b with
    |cells c esz wr tight =>obtain⟨_,_,_,⟨C,e,f,k1,_⟩,_⟩:=eN;rw[hk,h1] at k1;obtain rfl:=osj k1;exact absurd h2 ORel.q1s
    |obj o2 wr=>have:=eN.1;omega
   .exact eN.mono (zd _) (λ_ _ _ h=>h) (Ks _ _ _ _ hk)
 .by_cases aK:j=i
  .grind [Heap.q0c]
  .rw[Heap.q0b _ _ aK] at hj;exact h.dead j hj
 .by_cases aK:j=i
  .subst aK;exact h.sep j k q r _ cM hq hr hb rfl hx
  .rw[Heap.q0b _ _ aK] at cm;exact h.sep j k q r b cM hq hr cm hw hx
 .refine⟨rfl,rfl,rfl,by rw[BJ];exact zd _,λB hB hW=>Ks _ _ _ _ (λe=>hW ⟨i,p,_,hp,hb,rfl,e.symm⟩),?_,zd _,λ_ _ _ h=>h⟩;rintro B _ ⟨j,q,b,hq,bS,hw,rfl⟩;by_cases aK:j=i
  .subst aK;exact⟨j,q,_,hq,hb,rfl,rfl⟩
  .rw[Heap.q0b _ _ aK] at bS;exact⟨j,q,b,hq,bS,hw,rfl⟩
theorem HRel0.q0m {ρ:Plc}{U:Heap}{w:World}(h:HRel0 ρ U w) {D:Nat}{d:Option (List Deferred)}(hD:w.heap[D]?=some (.deferred d)) (i:Nat) (p:Pl) (hp:ρ i=some p):p.blk≠D:=by
 rintro rfl;cases hb:U.get i with
 |none=>rw[h.dead i hb] at hp;cases hp
 |some b =>
  obtain⟨p',a9,hB⟩:=h.live i b hb;obtain rfl:p=p':=osj (hp.symm.trans a9);cases b with
  |cells c esz wr tight =>obtain⟨_,_,_,⟨C,e,f,k1,_⟩,_⟩:=hB;rw[hD] at k1;cases k1
  |obj o wr =>obtain⟨_,O,k1,k2⟩:=hB;rw[hD] at k1;obtain rfl:=osj k1;exact ORel.q0m k2
theorem HRel0.kill {ρ:Plc}{U:Heap}{w:World}(h:HRel0 ρ U w) (i:Nat):HRel0 (ρ.put i none) (U.kill i) w/\Ext ρ U w (ρ.put i none) (U.kill i) w:=by
 have aU:∀ j,∀ p,(ρ.put i none) j=some p->ρ j=some p/\j≠i:=λj p hp=>by unfold Plc.put at hp;split at hp<;>simp_all
 refine⟨⟨λj b hb=>?_,λj hj=>?_,λj p hp=>h.lt j p (aU j p hp).1,λj k p q b cM hp hq hb hw hx=>?_⟩,⟨rfl,rfl,rfl,zd _,λ_ _ _=>rfl,?_,zd _,λj _ p hp=>(aU j p hp).1⟩⟩
 .by_cases aK:j=i
  .grind [Heap.q0f]
  .rw[Heap.q0d _ aK] at hb;obtain⟨p,hp,hB⟩:=h.live j b hb;exact⟨p,by simp[Plc.put,aK,hp],hB.mono (zd _) (λk _ p hp=>(aU k p hp).1) rfl⟩
 .by_cases aK:j=i
  .simp[Plc.put,aK]
  .rw[Heap.q0d _ aK] at hj;simp[Plc.put,aK,h.dead j hj]
 .obtain⟨a9,aK⟩:=aU j p hp;rw[Heap.q0d _ aK] at hb;exact h.sep j k p q b cM a9 (aU k q hq).1 hb hw hx
 .rintro B _ ⟨j,p,b,hp,hb,hw,rfl⟩;obtain⟨a9,aK⟩:=aU j p hp;rw[Heap.q0d _ aK] at hb;exact⟨j,p,b,a9,hb,hw,rfl⟩
def GTabs (ρ:Plc) (U:Heap) (w:World):Prop:=∀ g cs,Q4a g=some cs->(∃ e f,w.heap[g]?=some (.cells cs.toArray e f))/\¬ Wr ρ U g
theorem GTabs.lt {ρ:Plc}{U:Heap}{w:World}(h:GTabs ρ U w) {g:Nat}{cs:List Value}(hg:Q4a g=some cs):g<w.heap.size:=by
 obtain⟨⟨e,f,h1⟩,_⟩:=h g cs hg
 grind
theorem GTabs.ext {ρ ρ':Plc}{U U':Heap}{w w':World}(h:GTabs ρ U w) (k:Ext ρ U w ρ' U' w'):GTabs ρ' U' w':=λg cs hg=>by obtain⟨⟨e,f,h1⟩,h2⟩:=h g cs hg;have hl:=h.lt hg;exact⟨⟨e,f,by rw[k.keep g hl h2];exact h1⟩,λhw=>h2 (k.wr g hl hw)⟩
structure HRel (ρ:Plc) (U:Heap) (w:World):Prop where
 core:HRel0 ρ U w
 tab:GTabs ρ U w
section
variable {ρ:Plc}{U:Heap}{w:World}
theorem HRel.ext {ρ':Plc}{U':Heap}{w':World}(h:HRel ρ U w) (h':HRel0 ρ' U' w') (k:Ext ρ U w ρ' U' w'):HRel ρ' U' w':=⟨h',h.tab.ext k⟩
theorem HRel.live (h:HRel ρ U w):∀ i b,U.get i=some b->∃ p,ρ i=some p/\BRel ρ U.n p w b:=h.core.live
theorem HRel.dead (h:HRel ρ U w):∀ i,U.get i=none->ρ i=none:=h.core.dead
theorem HRel.lt (h:HRel ρ U w):∀ i p,ρ i=some p->p.blk<w.heap.size:=h.core.lt
theorem HRel.sep (h:HRel ρ U w):∀ i j p q b,i≠j->ρ i=some p->ρ j=some q->U.get i=some b->b.wr=true->0<q.ext->p.blk≠q.blk:=h.core.sep
theorem HRel.idlt (h:HRel ρ U w) {i:Nat}{p:Pl}(hp:ρ i=some p):i<U.n:=h.core.idlt hp
theorem HRel.world {w':World}(h:HRel ρ U w) (hs:w.heap.size<=w'.heap.size) (hb:∀ i p,ρ i=some p->w'.heap[p.blk]?=w.heap[p.blk]?) (ht:∀ g cs,Q4a g=some cs->w'.heap[g]?=w.heap[g]?):HRel ρ U w' :=
 ⟨h.core.world hs hb,λg cs hg=>by
  obtain⟨⟨e,f,h1⟩,h2⟩:=h.tab g cs hg;simp_all⟩
theorem HRel.drew (h:HRel ρ U w):HRel ρ U w.drew:=⟨h.core.drew,h.tab⟩
theorem HRel.alloc (h:HRel ρ U w) (c:List Value) (C:Array Value) (e:TypeId) (esz:El) (tight:Bool) (he:e=esz.ty)
  (hc:LRel ρ U.n c (C.toList.take c.length)) (hl:c.length<=C.size) :
  ∃ ρ',ρ' U.n=some ⟨w.heap.size,0,C.size,esz,tight⟩/\HRel ρ' (U.push (.cells c esz true tight)) (w.alloc (.cells C e))/\Ext ρ U w ρ' (U.push (.cells c esz true tight)) (w.alloc (.cells C e)) :=
 let ⟨ρ',h1,h2,h3⟩:=h.core.alloc c C e esz tight he hc hl
 ⟨ρ',h1,h.ext h2 h3,h3⟩
theorem HRel.newObj (h:HRel ρ U w) (o:VObj) (O:Obj) (ho:ORel ρ U.n o O) :
  ∃ ρ',ρ' U.n=some ⟨w.heap.size,0,1,default,true⟩/\HRel ρ' (U.push (.obj o true)) (w.alloc O)/\Ext ρ U w ρ' (U.push (.obj o true)) (w.alloc O) :=
 let ⟨ρ',h1,h2,h3⟩:=h.core.newObj o O ho
 ⟨ρ',h1,h.ext h2 h3,h3⟩
theorem HRel.setObj (h:HRel ρ U w) {i:Nat}{p:Pl}{o:VObj}(hp:ρ i=some p) (hb:U.get i=some (.obj o true)) {o':VObj}{O':Obj}(ho:ORel ρ U.n o' O') :
  HRel ρ (U.upd i (.obj o' true)) (RX w p.blk O')/\Ext ρ U w ρ (U.upd i (.obj o' true)) (RX w p.blk O') :=
 let ⟨h2,h3⟩:=h.core.setObj hp hb ho
 ⟨h.ext h2 h3,h3⟩
theorem HRel.q0m (h:HRel ρ U w) {D:Nat}{d:Option (List Deferred)}(hD:w.heap[D]?=some (.deferred d)) (i:Nat) (p:Pl) (hp:ρ i=some p):p.blk≠D:=h.core.q0m hD i p hp
theorem HRel.kill (h:HRel ρ U w) (i:Nat):HRel (ρ.put i none) (U.kill i) w/\Ext ρ U w (ρ.put i none) (U.kill i) w :=
 let ⟨h2,h3⟩:=h.core.kill i
 ⟨h.ext h2 h3,h3⟩
end
end Go.V
namespace Go.V
open Go
abbrev Env:=List Value
inductive MK where
 |int (k:IntKind)
 |string
 |bool
 |agg (s:List MK)
 deriving Inhabited
inductive XOp where
 |eqNil (kd:Nat) (neg:Bool) (x y:Operand)
 |makeMap
 |lookup (mk:MK) (zero:Value) (ok:Bool) (x i:Operand)
 |mapUpdate (mk:MK) (m k v:Operand)
 |delete (mk:MK) (m k:Operand)
 |mapEntry (mk:MK) (zero:Value) (m k:Operand)
 |entryStore (m s v:Operand)
 |lenMap (x:Operand)
 |rangeMap (x:Operand)
 |nextMap (x:Operand)
 |entry (x:Operand)
 |copy (size:Nat) (d s:Operand)
 |clear (z:List Value) (x:Operand)
 |toUnsafe (x:Operand)
 |fromUnsafe (u size:Nat) (x:Operand)
 |sliceData (x:Operand)
 |unsafeStr (e:Nat) (x n:Operand)
 |bytesStr (x:Operand)
 |strBytes (e:Nat) (x:Operand)
 |eqAgg (neg:Bool) (s:List MK) (x y:Operand)
 deriving Inhabited
inductive VOp where
 |move (x:Operand)
 |pick (c a b:Operand)
 |arith (op:BinOp) (x y:Operand)
 |div (op:BinOp) (x y:Operand)
 |bits (op:BinOp) (x y:Operand)
 |shift (op:BinOp) (x y:Operand)
 |cmp (op:BinOp) (x y:Operand)
 |str (op:BinOp) (x y:Operand)
 |eqB (neg:Bool) (x y:Operand)
 |un (op:UnOp) (x:Operand)
 |convI (k:IntKind) (x:Operand)
 |convS (x:Operand)
 |alloc (t:Nat) (z:List Value)
 |box (t:Nat) (x:Operand)
 |build (z:List Value) (parts:List (Nat×Nat×Operand))
 |buildSlice (esz:El) (z:List Value) (len:Nat) (parts:List (Nat×Operand))
 |load (agg:Bool) (size:Nat) (a:Operand)
 |store (size:Nat) (a v:Operand)
 |fieldAddr (off:Nat) (a:Operand)
 |field (agg:Bool) (off size:Nat) (x:Operand)
 |indexAddr (size:Nat) (x i:Operand)
 |indexAddrArr (len size:Nat) (x i:Operand)
 |indexStr (x i:Operand)
 |indexArr (len:Nat) (agg:Bool) (size:Nat) (x i:Operand)
 |slice (size:Nat) (x:Operand) (lo hi mx:Option Operand)
 |sliceStr (x:Operand) (lo hi:Option Operand)
 |makeSlice (esz:El) (bytes:Nat) (z:List Value) (l c:Operand)
 |len (x:Operand)
 |lenStr (x:Operand)
 |append (esz:El) (bytes:Nat) (s x:Operand)
 |max (x y:Operand)
 |max4 (x y z w:Operand)
 |min (x y:Operand)
 |makeFunc (fn:Fn) (first cap:List Operand)
 |iface (t:TypeId) (x:Operand)
 |extract (x:Operand) (i:Nat)
 |nilCheck (x:Operand)
 |callF (f:FuncId) (args:List Operand)
 |callV (f:Operand) (args:List Operand)
 |ext (o:XOp)
 |bad
 deriving Inhabited
structure VOper where
 dst:Option Nat
 op:VOp
 guard:Option (Nat×Bool)
 deriving Inhabited
structure DOper where
 dst:Option Nat
 op:VOp
 guard:Option (Nat×Bool)
 kind:Nat
 kmin:Nat
 kmax:Nat
 deriving Inhabited
inductive DSeg where
 |one (o:VOper)
 |alts (l:List (List DOper))
 deriving Inhabited
inductive VCode where
 |skip
 |region (ops:List VOper)
 |regionD (aQ:List DSeg)
 |rangeF (g:Operand) (ps:List Nat) (a b:VCode)
 |seq (a b:VCode)
 |cond (c:Operand) (a b:VCode)
 |block (id:Nat) (b:VCode)
 |loop (b:VCode)
 |exit (id:Nat)
 |ret
 |bad
 deriving Inhabited
def Z4:Value->Bool
 |.bool _|.int _ _|.string _|.pointer none|.slice none 0 0|.map none|.nilFunc|.nilIface=>true
 |_=>false
def VV:Value->Bool
 |.agg cs=>cs.toList.all Z4
 |.tuple cs=>cs.toList.all Z4
 |v=>Z4 v
def Xv:Operand->Bool
 |.tmp _=>true
 |.const v=>VV v
 |.global _=>true
 |.func _=>true
def Nk:TypeDesc->Bool
 |.struct _|.array _ _=>true
 |_=>false
def zeroOf (P:Program) (t:TypeId):Option (List Value):=do
 let i <-P.info? t;let z <-i.zero;let cs:=z.cells.toList
 if cs.length==i.size&&cs.all Z4 then some cs else none
def Ho (P:Program) (t:TypeId) (f:Nat):Option Field :=
 match P.underlying t with
 |some (.struct fs)=>fs[f]?
 |_=>none
def Us (P:Program) (o:Op):Option VOp :=
 if !(o.operands.toList.all Xv) then none else
 match o with
 |.move x|.assign x=>some (.move x)
 |.pick c a b=>some (.pick c a b)
 |.binOp op t x y _ =>
  match P.underlying t with
  |some (.int _) =>
   match op with
   |.add|.sub|.mul=>some (.arith op x y)
   |.quo|.rem=>some (.div op x y)
   |.and|.or|.xor|.andNot=>some (.bits op x y)
   |.shl|.shr=>some (.shift op x y)
   |_=>some (.cmp op x y)
  |some .string=>some (.str op x y)
  |some .bool=>match op with|.eql=>some (.eqB false x y)|.neq=>some (.eqB true x y)|_=>none
  |_=>none
 |.unOp op _ x=>some (.un op x)
 |.convert s d x =>
  match P.underlying s,P.underlying d with
  |some (.int _),some (.int k)=>some (.convI k x)
  |some .string,some .string=>some (.convS x)
  |_,_=>none
 |.alloc t=>do some (.alloc t (<-zeroOf P t))
 |.box t x=>some (.box t x)
 |.build t parts=>do
  let z <-zeroOf P t
  match P.underlying t with
  |some (.struct fs)=>do
   let places <-fs.toList.mapM λf=>(P.info? f.type).map λi=>(f.offset,i.size);let ps <-parts.toList.mapM λq=>(places[q.1]?).map λos=>(os.1,os.2,q.2)
   some (.build z ps)
  |some (.array _ e)=>do
   let ei <-P.info? e
   some (.build z (parts.toList.map λq=>(q.1*ei.size,ei.size,q.2)))
  |_=>none
 |.buildSlice t len parts =>
  match P.underlying t with
  |some (.slice e)=>do
   let z <-zeroOf P e
   if z.length==0||4096<len*z.length then none
   some (.buildSlice ⟨z.length,e⟩ z len parts.toList)
  |_=>none
 |.load t a=>do
  let i <-P.info? t;let d <-P.underlying t
  some (.load (Nk d) i.size a)
 |.store t a v=>do
  let i <-P.info? t
  some (.store i.size a v)
 |.fieldAddr t a f=>do
  let fd <-Ho P t f;let fi <-P.info? fd.type
  if fi.size==0 then none
  some (.fieldAddr fd.offset a)
 |.field t x f=>do
  let fd <-Ho P t f;let fi <-P.info? fd.type;let d <-P.underlying fd.type
  some (.field (Nk d) fd.offset fi.size x)
 |.indexAddr t x i =>
  match P.underlying t with
  |some (.slice e)=>do let ei <-P.info? e;some (.indexAddr ei.size x i)
  |some (.array n e)=>do let ei <-P.info? e;some (.indexAddrArr n ei.size x i)
  |_=>none
 |.index t x i =>
  match P.underlying t with
  |some .string=>some (.indexStr x i)
  |some (.array n e)=>do let ei <-P.info? e;let d <-P.underlying e;some (.indexArr n (Nk d) ei.size x i)
  |_=>none
 |.slice t x lo hi mx =>
  match P.underlying t with
  |some (.slice e)=>do let ei <-P.info? e;some (.slice ei.size x lo hi mx)
  |some .string=>if mx.isNone then some (.sliceStr x lo hi) else none
  |_=>none
 |.makeSlice t l c =>
  match P.underlying t with
  |some (.slice e)=>do
   let ei <-P.info? e;let z <-zeroOf P e
   if z.length==0 then none
   some (.makeSlice ⟨z.length,e⟩ ei.bytes z l c)
  |_=>none
 |.makeFunc fn first cap=>match fn with|.func _=>some (.makeFunc fn first.toList cap.toList)|_=>none
 |.makeInterface t x=>do
  let d <-P.underlying t
  match d with
  |.interface _=>none
  |_=>some (.iface t x)
 |.extract x i=>some (.extract x i)
 |.nilCheck x=>some (.nilCheck x)
 |.call c =>
  match c.callee with
  |.value (.func f)=>some (.callF f c.args.toList)
  |.value f=>some (.callV f c.args.toList)
  |.builtin .len =>
   match c.argTypes[0]?,c.args.toList with
   |some t,[x] =>
    match P.underlying t with
    |some .string=>some (.lenStr x)
    |some (.slice _)=>some (.len x)
    |_=>none
   |_,_=>none
  |.builtin .append =>
   match c.argTypes[0]?,c.argTypes[1]?,c.args.toList with
   |some t,some u,[s,x] =>
    match P.underlying t,P.underlying u with
    |some (.slice e),some (.slice _)=>do
     let ei <-P.info? e;let z <-zeroOf P e
     if z.length==0||ei.bytes==0 then none
     some (.append ⟨z.length,e⟩ ei.bytes s x)
    |_,_=>none
   |_,_,_=>none
  |.builtin .max=>match c.args.toList with|[x,y]=>some (.max x y)|[x,y,z]=>some (.max4 x y z z)|[x,y,z,w]=>some (.max4 x y z w)|_=>none
  |.builtin .min=>match c.args.toList with|[x,y]=>some (.min x y)|_=>none
  |_=>none
 |_=>none
def FY (P:Program) (g:TypeId->Option (List MK)):List Field->Nat->Option (List MK)
 |[],_=>some []
 |f::r,off=>if f.name≠"_"/\f.offset=off then (match g f.type with
  |some s=>if P.cellsOf f.type=s.length then (FY P g r (off+s.length)).map λq=>s++q else none
  |none=>none) else none
def shp (P:Program):Nat->TypeId->Option (List MK)
 |0,_=>none
 |d+1,t=>match P.underlying t with
  |some .bool=>some [.bool]
  |some (.int q)=>some [.int q]
  |some .string=>some [.string]
  |some (.array n e)=>(match shp P d e with
   |some s=>if P.cellsOf e=s.length then some (List.replicate n s).flatten else none
   |none=>none)
  |some (.struct fs)=>if P.stoodInHeld t=true then none else FY P (shp P d) fs.toList 0
  |_=>none
def OA:MK->Value->Bool
 |.int q,.int q' _=>decide (q'=q)
 |.string,.string _=>true
 |.bool,.bool _=>true
 |_,_=>false
def fits:List MK->List Value->Bool
 |[],[]=>true
 |k::ks,v::vs=>OA k v&&fits ks vs
 |_,_=>false
def KR:Value->Value->Bool
 |.int _ a,.int _ b=>a==b
 |.bool a,.bool b=>a==b
 |.string a,.string b=>a.data.toList==b.data.toList
 |_,_=>false
def Qn:List Value->List Value->Bool
 |a::l,b::m=>KR a b&&Qn l m
 |_,_=>true
def Sl (P:Program) (neg:Bool) (t:TypeId) (x y:Operand):Option XOp :=
 if P.eqGuardType P.depth t=true then none else (shp P 8 t).map λs=>.eqAgg neg s x y
theorem On {P:Program}{neg:Bool}{t:TypeId}{x y:Operand}{o:XOp}(h:Sl P neg t x y=some o):∃ s,o=.eqAgg neg s x y:=by
 unfold Sl at h
 grind [Option.map_eq_some_iff]
def Ep (P:Program) (t:TypeId):Option MK :=
 match P.underlying t with
 |some (.int k)=>some (.int k)
 |some .string=>some .string
 |some .bool=>some .bool
 |some (.struct _)=>(shp P 8 t).map .agg
 |some (.array _ _)=>(shp P 8 t).map .agg
 |_=>none
def Si (P:Program) (o:Op):Option XOp :=
 if !(o.operands.toList.all Xv) then none else
 match o with
 |.binOp op t x y _ =>
  match op,P.underlying t with
  |.eql,some (.pointer e)=>do let i <-P.info? e;if i.size==0 then none else some (.eqNil 0 false x y)
  |.neq,some (.pointer e)=>do let i <-P.info? e;if i.size==0 then none else some (.eqNil 0 true x y)
  |.eql,some (.slice _)=>some (.eqNil 1 false x y)
  |.eql,some (.map _ _)=>some (.eqNil 2 false x y)
  |.eql,some (.func _ _ _)=>some (.eqNil 3 false x y)
  |.neq,some (.slice _)=>some (.eqNil 1 true x y)
  |.neq,some (.map _ _)=>some (.eqNil 2 true x y)
  |.neq,some (.func _ _ _)=>some (.eqNil 3 true x y)
  |.eql,some (.struct _)=>Sl P false t x y
  |.neq,some (.struct _)=>Sl P true t x y
  |.eql,some (.array _ _)=>Sl P false t x y
  |.neq,some (.array _ _)=>Sl P true t x y
  |_,_=>none
 |.makeMap _ none=>some .makeMap
 |.lookup t x i ok =>
  match P.underlying t with
  |some (.map k e)=>do
   let mk <-Ep P k;let inf <-P.info? e;let z <-inf.zero
   if VV z then some (.lookup mk z ok x i) else none
  |_=>none
 |.mapUpdate t m k v =>
  match P.underlying t with
  |some (.map kt _)=>do some (.mapUpdate (<-Ep P kt) m k v)
  |_=>none
 |.insert t m k v =>
  match P.underlying t with
  |some (.map kt _)=>do some (.mapUpdate (<-Ep P kt) m k v)
  |_=>none
 |.mapEntry t m k =>
  match P.underlying t with
  |some (.map kt e)=>do
   let mk <-Ep P kt;let inf <-P.info? e;let z <-inf.zero
   if VV z then some (.mapEntry mk z m k) else none
  |_=>none
 |.entryStore _ m s v=>some (.entryStore m s v)
 |.range t x =>
  match P.underlying t with
  |some (.map _ _)=>some (.rangeMap x)
  |_=>none
 |.next x false=>some (.nextMap x)
 |.entry x=>some (.entry x)
 |.convert s d x =>
  match P.underlying s,P.underlying d with
  |some (.pointer t),some .unsafePointer=>do let i <-P.info? t;if i.size==0 then none else some (.toUnsafe x)
  |some .unsafePointer,some (.pointer u)=>do let i <-P.info? u;if i.size==0||P.cellsOf u==0 then none else some (.fromUnsafe u (P.cellsOf u) x)
  |some (.slice e),some .string=>match P.underlying e with|some (.int .u8)=>some (.bytesStr x)|_=>none
  |some .string,some (.slice e)=>match P.underlying e with|some (.int .u8)=>some (.strBytes e x)|_=>none
  |_,_=>none
 |.call c =>
  match c.callee with
  |.builtin .len =>
   match c.argTypes[0]?,c.args.toList with
   |some t,[x]=>match P.underlying t with|some (.map _ _)=>some (.lenMap x)|_=>none
   |_,_=>none
  |.builtin .delete =>
   match c.argTypes[0]?,c.args.toList with
   |some t,[m,k]=>match P.underlying t with|some (.map kt _)=>do some (.delete (<-Ep P kt) m k)|_=>none
   |_,_=>none
  |.builtin .copy =>
   match c.argTypes[0]?,c.args.toList with
   |some t,[d,s]=>match P.underlying t with|some (.slice e)=>do let i <-P.info? e;some (.copy i.size d s)|_=>none
   |_,_=>none
  |.builtin .clear =>
   match c.argTypes[0]?,c.args.toList with
   |some t,[x]=>match P.underlying t with
    |some (.slice e)=>do
     let z <-zeroOf P e
     if z.length==0 then none
     some (.clear z x)
    |_=>none
   |_,_=>none
  |.builtin .unsafeSliceData=>match c.args.toList with|[x]=>some (.sliceData x)|_=>none
  |.builtin .unsafeString =>
   match c.argTypes[0]?,c.args.toList with
   |some t,[x,n]=>match P.underlying t with|some (.pointer e)=>if P.cellsOf e=1 then some (.unsafeStr e x n) else none|_=>none
   |_,_=>none
  |_=>none
 |_=>none
def V9 (P:Program) (o:Op):VOp :=
 match Us P o with
 |some v=>v
 |none=>match Si P o with
  |some x=>.ext x
  |none=>.bad
def Jo (P:Program) (ops:Array Oper) (o:Oper):Option VOper:=do
 let v:=V9 P o.op
 match o.guard with
 |none=>some ⟨o.dst,v,none⟩
 |some (j,want)=>do
  let oj <-ops[j]?;let d <-oj.dst
  some ⟨o.dst,v,some (d,want)⟩
def XOp.quiet:XOp->Bool
 |.makeMap|.mapUpdate ..|.mapEntry ..|.entryStore ..|.delete ..|.rangeMap _|.nextMap _|.copy ..|.clear ..|.unsafeStr ..|.strBytes ..=>false
 |_=>true
def VOp.quiet:VOp->Bool
 |.ext o=>o.quiet
 |.alloc ..|.box ..|.buildSlice ..|.store ..|.makeSlice ..|.append ..=>false
 |.slice _ _ _ _ (some _)=>false
 |_=>true
def VOp.kind:VOp->Nat
 |.callF ..|.callV ..=>2
 |.load ..=>1
 |.slice _ _ _ _ none=>1
 |.ext (.eqNil ..)|.ext (.lookup ..)|.ext (.lenMap _)|.ext (.entry _)|.ext (.toUnsafe _)|.ext (.fromUnsafe ..)|.ext (.sliceData _)|.ext (.bytesStr _)=>1
 |o=>if o.quiet then 0 else 2
def Q8j (acc:List Nat) (es:List Nat):Nat:=es.foldl (λs e=>s ||| 2 ^ e ||| acc.getD e 0) 0
def Z3x:List (List Nat)->List Nat->List Nat
 |[],acc=>acc
 |es::r,acc=>Z3x r (acc++[Q8j acc es])
def XOp.opds:XOp->List Operand
 |.eqNil _ _ x y=>[x,y]
 |.eqAgg _ _ x y=>[x,y]
 |.makeMap=>[]
 |.lookup _ _ _ x i=>[x,i]
 |.mapUpdate _ m k v=>[m,k,v]
 |.delete _ m k=>[m,k]
 |.mapEntry _ _ m k=>[m,k]
 |.entryStore m s v=>[m,s,v]
 |.lenMap x|.rangeMap x|.nextMap x|.entry x|.toUnsafe x|.fromUnsafe _ _ x|.sliceData x|.bytesStr x=>[x]
 |.copy _ d s=>[d,s]
 |.clear _ x=>[x]
 |.unsafeStr _ x n=>[x,n]
 |.strBytes _ x=>[x]
def VOp.opds:VOp->List Operand
 |.move x|.un _ x|.convI _ x|.convS x|.box _ x|.load _ _ x|.fieldAddr _ x|.field _ _ _ x|.len x|.lenStr x|.iface _ x|.extract x _|.nilCheck x=>[x]
 |.pick c a b=>[c,a,b]
 |.arith _ x y|.div _ x y|.bits _ x y|.shift _ x y|.cmp _ x y|.str _ x y|.eqB _ x y|.store _ x y|.indexAddr _ x y|.indexAddrArr _ _ x y|.indexStr x y|.indexArr _ _ _ x y|.makeSlice _ _ _ x y
 |.append _ _ x y|.max x y|.min x y=>[x,y]
 |.max4 x y z w=>[x,y,z,w]
 |.alloc ..|.bad=>[]
 |.build _ ps=>ps.map λp=>p.2.2
 |.buildSlice _ _ _ ps=>ps.map λp=>p.2
 |.slice _ x a b c=>x::(a.toList++b.toList++c.toList)
 |.sliceStr x a b=>x::(a.toList++b.toList)
 |.makeFunc _ a b=>a++b
 |.callF _ bM=>bM
 |.callV f bM=>f::bM
 |.ext o=>o.opds
def Q2g (l:List Operand):List Nat:=l.filterMap fun|.tmp t=>some t|_=>none
def Pc (o:Oper):List Nat:=(o.after.toList.filter (Region.binds .any)).map (·.on)
def Vx (v:VOper):List Nat:=v.dst.toList++Q2g v.op.opds++(v.guard.map (·.1)).toList
def Q7c (a b:List Nat×Option Nat):Bool:=(match a.2 with|some d=>b.1.contains d|none=>false)||(match b.2 with|some d=>a.1.contains d|none=>false)
structure DInfo where
 an:List Nat
 ed:List (List Nat)
 nm:List (List Nat×Option Nat)
 ks:List Nat
def VR (ops:List Oper) (vs:List VOper):DInfo:=⟨Z3x (ops.map Pc) [],ops.map Pc,vs.map λv=>(Vx v,v.dst),vs.map (·.op.kind)⟩
def DInfo.lt (d:DInfo) (i j:Nat):Bool:=(d.an.getD j 0).testBit i
def DInfo.k (d:DInfo) (i:Nat):Nat:=d.ks.getD i 0
def DInfo.rank (d:DInfo):Nat->Nat
 |0=>0
 |i+1=>if d.k i=2 then d.rank i+1 else d.rank i
def DInfo.kmin (d:DInfo) (i:Nat):Nat:=((List.range d.ks.length).filter λl=>d.k l==2&&d.lt l i).length
def DInfo.kmax (d:DInfo) (i:Nat):Nat:=((List.range d.ks.length).filter λl=>d.k l==2&&!(d.lt i l)).length
def DInfo.touch (d:DInfo) (i j:Nat):Bool:=Q7c (d.nm.getD i ([],none)) (d.nm.getD j ([],none))
def DInfo.okE (d:DInfo) (j:Nat):Bool:=(d.ed.getD j []).all λe=>decide (e<j)
def DInfo.okP (d:DInfo) (j:Nat):Bool:=(List.range j).all λi =>
 if d.lt i j then (d.ed.getD j []).any (λe=>e==i||decide (i<e)&&d.lt i e) else !(d.touch i j)&&!(d.k i==2&&d.k j==2)
def DInfo.okK (d:DInfo) (j:Nat):Bool:=!(d.k j==1) ||
 (decide (d.kmin j<=d.rank j/\d.rank j<=d.kmax j)&&(decide (d.kmax j<=d.rank d.ks.length)&&(List.range d.ks.length).all λl=>!(d.k l==2)||(d.lt l j==decide (d.rank l<d.kmin j)&&d.lt j l==decide (d.kmax j<=d.rank l))))
def DInfo.ok (d:DInfo):Bool:=(List.range d.ks.length).all λj=>d.okE j&&(d.okP j&&d.okK j)
def DInfo.opers (d:DInfo):List VOper->Nat->List DOper
 |[],_=>[]
 |v::r,i=>⟨v.dst,v.op,v.guard,v.op.kind,d.kmin i,d.kmax i⟩::d.opers r (i+1)
def DInfo.okB (d:DInfo):Bool:=decide (d.an.length=d.ks.length)&&(List.range d.ks.length).all λj=>d.okE j&&(decide (d.an.getD j 0<2 ^ j) &&
 (List.range j).all λi=>!(d.lt i j)||(d.ed.getD j []).any (λe=>e==i||decide (i<e)&&d.lt i e))
def exts (lt:Nat->Nat->Bool):Nat->List Nat->List (List Nat)
 |_,[]=>[[]]
 |0,_=>[]
 |n+1,l=>l.flatMap λk=>if l.all (λi=>i==k||!(lt i k)) then (exts lt n (l.erase k)).map (k::·) else []
def Z53 (ed:List (List Nat)) (ks idx:List Nat):Nat->List Nat->List Nat->List Nat
 |0,acc,_=>acc
 |f+1,acc,kq=>match idx.find? (λi=>!(acc.contains i)&&((ed.getD i []).all (λe=>!(idx.contains e)||acc.contains e)&&(!(ks.getD i 0==2)||kq.head?==some i))) with
  |none=>acc
  |some i=>Z53 ed ks idx f (acc++[i]) (if ks.getD i 0==2 then kq.tail else kq)
def Q89 (ed:List (List Nat)) (ks idx:List Nat):Nat->List Nat->List Nat->List Nat
 |0,acc,_=>acc
 |f+1,acc,kq=>match idx.find? (λi=>!(acc.contains i)&&((ed.getD i []).all (λe=>!(idx.contains e)||acc.contains e)&&!(ks.getD i 0==2))) with
  |some i=>Q89 ed ks idx f (acc++[i]) kq
  |none=>match idx.find? (λi=>!(acc.contains i)&&((ed.getD i []).all (λe=>!(idx.contains e)||acc.contains e)&&kq.head?==some i)) with
   |none=>acc
   |some i=>Q89 ed ks idx f (acc++[i]) kq.tail
def Q8t:VOp->Bool
 |.callF ..=>true
 |_=>false
def Z3z (b:Bool) (ed:List (List Nat)) (ks idx:List Nat) (n:Nat) (q:List Nat):List Nat:=if b then Q89 ed ks idx n [] q else Z53 ed ks idx n [] q
def Q8x (d:DInfo) (pm:List Nat) (p:Nat):List Nat :=
 ((d.ed.getD (pm.getD p 0) []).filter pm.contains).map (λe=>pm.idxOf e) ++
  (if d.k (pm.getD p 0)==2 then ((List.range p).filter λq=>d.k (pm.getD q 0)==2).getLast?.toList else [])
def Uc (vs:List VOper) (pm:List Nat):List VOper:=pm.map λi=>vs.getD i default
def FC (d:DInfo) (vs:List VOper) (pm:List Nat):DInfo :=
 let ed:=(List.range pm.length).map (Q8x d pm)
 ⟨Z3x ed [],ed,(Uc vs pm).map λv=>(Vx v,v.dst),(Uc vs pm).map (·.op.kind)⟩
def Z30 (d:DInfo) (vs:List VOper) (idx s pm:List Nat):Bool :=
 idx.all pm.contains&&(pm.all idx.contains&&(decide pm.Nodup&&(decide (pm.filter (λi=>d.k i==2)=s)&&(FC d vs pm).ok)))
def Z3j (d:DInfo) (vs:List VOper) (s n:Nat):Option DSeg :=
 if n=1 then some (.one (vs.getD s default)) else
 let idx:=List.range' s n;let ss:=exts d.lt n (idx.filter λi=>d.k i==2);let ps:=ss.map λq=>(q,Z3z (decide (3<=(idx.filter λi=>Q8t (vs.getD i default).op).length)) d.ed d.ks idx n q)
 if ps.all λsp=>Z30 d vs idx sp.1 sp.2 then some (.alts (ps.map λsp=>(FC d vs sp.2).opers (Uc vs sp.2) 0)) else none
def cutAt (d:DInfo) (t:Nat):Bool:=(List.range' t (d.ks.length-t)).all λp=>(List.range t).all λi=>d.lt i p
def Q37 (d:DInfo) (vs:List VOper):Nat->Nat->Option (List DSeg)
 |0,s=>if s=d.ks.length then some [] else none
 |f+1,s=>if s=d.ks.length then some [] else
  match (List.range' (s+1) (d.ks.length-s)).find? (cutAt d) with
  |none=>none
  |some t=>match Z3j d vs s (t-s),Q37 d vs f t with
   |some x,some r=>some (x::r)
   |_,_=>none
def Q8c (d:DInfo) (vs:List VOper):Option (List DSeg):=if d.okB then Q37 d vs d.ks.length 0 else none
def DF (d:DInfo) (vs:List VOper):Bool :=
 d.okB&&(vs.all (λv=>!(v.op.kind==2))&&Z30 d vs (List.range' 0 d.ks.length) [] (List.range' 0 d.ks.length))
def comp (P:Program):Code->Option VCode
 |.skip=>some .skip
 |.region _ ops false=>do some (.region (<-ops.toList.mapM (Jo P ops)))
 |.region _ ops true=>do
  let l <-ops.toList.mapM (Jo P ops)
  if DF (VR ops.toList l) l then some (.region l) else
  match Q8c (VR ops.toList l) l with
  |some aQ=>some (.regionD aQ)
  |none=>some .bad
 |.seq a b=>do some (.seq (<-comp P a) (<-comp P b))
 |.cond c a b=>do if Xv c then some (.cond c (<-comp P a) (<-comp P b)) else some .bad
 |.block id b=>do some (.block id (<-comp P b))
 |.loop b=>do some (.loop (<-comp P b))
 |.rangeFunc g ps a b=>do if Xv g then some (.rangeF g ps.toList (<-comp P a) (<-comp P b)) else some .bad
 |.exit id=>some (.exit id)
 |.ret=>some .ret
 |_=>some .bad
def Q4 (env:Env):Operand->Value
 |.tmp t=>env.getD t undef
 |.const v=>v
 |.global g=>.pointer (some ⟨g,0,some 0⟩)
 |.func f=>.func (.func f) #[] #[]
def P4:BinOp->IntKind->Int->Int->Int
 |.add,k,a,b=>k.wrap (a+b)
 |.sub,k,a,b=>k.wrap (a-b)
 |_,k,a,b=>k.wrap (a*b)
def Q9i:BinOp->IntKind->Int->Int->Int
 |.quo,k,a,b=>k.wrap (a.tdiv b)
 |_,_,a,b=>a.tmod b
def QM (op:BinOp) (k:IntKind) (x y:Int):Int :=
 let a:=BitVec.ofInt k.bits x;let b:=BitVec.ofInt k.bits y
 match op with
 |.and=>k.wrap (a &&& b).toNat
 |.or=>k.wrap (a ||| b).toNat
 |.xor=>k.wrap (a ^^^ b).toNat
 |_=>k.wrap (a &&& ~~~b).toNat
def P8:BinOp->IntKind->Int->Int->Int
 |.shl,k,x,y=>k.wrap (x*2 ^ (Nat.min y.toNat k.bits))
 |_,k,x,y=>x.fdiv (2 ^ (Nat.min y.toNat k.bits))
def Z1n:BinOp->Int->Int->Bool
 |.eql,a,b=>a==b
 |.neq,a,b=>a != b
 |.lss,a,b=>decide (a<b)
 |.leq,a,b=>decide (a<=b)
 |.gtr,a,b=>decide (a > b)
 |_,a,b=>decide (a>=b)
def cellOk:Value->Bool
 |.agg _|.tuple _|.chan _=>false
 |_=>true
def KP:Value->Option (List Value)
 |.agg cs=>some cs.toList
 |.chan _|.tuple _=>none
 |v=>some [v]
def XG (c:List Value) (o:Nat):List Value->List Value
 |[]=>c
 |v::vs=>XG (c.set o v) (o+1) vs
def M9 (c:List Value):List (Nat×Nat×Value)->Option (List Value)
 |[]=>some c
 |(o,s,v)::rest =>
  match KP v with
  |some vs=>if vs.length=s/\o+s<=c.length then M9 (XG c o vs) rest else none
  |none=>none
def PW (n:Nat):List Value->List Value
 |[x]=>List.replicate n x
 |z=>(List.replicate n z).flatten
def Wn (agg:Bool) (size:Nat) (c:List Value) (o:Nat):Option Value :=
 if agg then (if o+size<=c.length then some (.agg ((c.drop o).take size).toArray) else none) else c[o]?
def Heap.sl (U:Heap) (esz:Nat):Value->Option (List Value)
 |.slice none 0 0=>some []
 |.slice (some ⟨i,o,none⟩) n _ =>
  match U.get i with
  |some (.cells c e _ _)=>if e.sz=esz/\o+n*esz<=c.length then some ((c.drop o).take (n*esz)) else none
  |_=>none
 |_=>none
def YT (esz:El) (bytes:Nat) (U:Heap) (s:Value) (m:Nat) (xs:List Value):Option (Value×Heap) :=
 match s with
 |.slice none 0 0 =>
  if m=0 then some (s,U) else
  if m*bytes<=2 ^ 46 then some (.slice (some ⟨U.n,0,none⟩) m m,U.push (.cells xs esz true false)) else none
 |.slice (some ⟨i,o,none⟩) n cap =>
  match U.get i with
  |some (.cells c e wr tight) =>
   if e=esz/\n<=cap/\o+n*esz.sz<=c.length then
    if m=0 then some (s,U) else
    if n+m<=cap then
     (if wr=true/\o+(n+m)*esz.sz<=c.length then some (.slice (some ⟨i,o,none⟩) (n+m) cap,U.upd i (.cells (XG c (o+n*esz.sz) xs) e wr tight)) else none)
    else if (n+m)*bytes<=2 ^ 46 then
     (if tight then some (.slice (some ⟨U.n,0,none⟩) (n+m) (n+m),U.push (.cells ((c.drop o).take (n*esz.sz)++xs) esz true false))
     else if wr then some (.slice (some ⟨U.n,0,none⟩) (n+m) (n+m),(U.kill i).push (.cells ((c.drop o).take (n*esz.sz)++xs) esz true false))
     else none)
    else none
   else none
  |_=>none
 |.slice (some ⟨i,o,some 0⟩) n cap =>
  match U.get i with
  |some (.cells c e _ _) =>
   if e=esz/\n=cap/\o+n*esz.sz<=c.length/\m≠0/\(n+m)*bytes<=2 ^ 46 then
    some (.slice (some ⟨U.n,0,none⟩) (n+m) (n+m),U.push (.cells ((c.drop o).take (n*esz.sz)++xs) esz true false))
   else none
  |_=>none
 |_=>none
def Jg (ev:Operand->Value):Option Operand->Nat->Option Nat
 |none,d=>some d
 |some x,_=>match ev x with
  |.int _ i=>if 0<=i then some i.toNat else none
  |_=>none
def WU (size:Nat) (U:Heap) (s:Value) (l h:Nat) (m:Option Nat):Option (Value×Heap) :=
 match s with
 |.slice none 0 0=>if l=0/\h=0/\(m.getD 0)=0 then some (.slice none 0 0,U) else none
 |.slice (some ⟨i,o,none⟩) _ cap =>
  match U.get i with
  |some (.cells _ e _ t) =>
   match m with
   |none=>if e.sz=size/\l<=h/\h<=cap then some (.slice (some ⟨i,o+l*size,none⟩) (h-l) (cap-l),U) else none
   |some m =>
    if e.sz=size/\l<=h/\h<=m/\m<=cap then
     if m=l then some (.slice (some ⟨U.n,0,none⟩) 0 0,U.push (.cells [] e false true))
     else if t=false/\h=m then some (.slice (some ⟨i,o+l*size,some 0⟩) (h-l) (m-l),U)
     else some (.slice (some ⟨i,o+l*size,none⟩) (h-l) (m-l),U)
    else none
  |_=>none
 |_=>none
def Zm:MK->Value->Bool
 |.int k,.int k' _=>decide (k=k')
 |.string,.string _|.bool,.bool _=>true
 |.agg s,.agg cs=>fits s cs.toList
 |_,_=>false
def Xz:Value->Value->Bool
 |.agg a,.agg b=>Qn a.toList b.toList
 |.int _ a,.int _ b=>a==b
 |.string a,.string b=>a.data.toList==b.data.toList
 |.bool a,.bool b=>a==b
 |_,_=>false
abbrev Jp:=Value×Value×Nat
def Qf (k:Value):List Jp->Option Jp
 |[]=>none
 |e::es=>if Xz k e.1 then some e else Qf k es
def Qt (k v:Value) (clock:Nat):List Jp->List Jp×Nat
 |[]=>([(k,v,clock)],clock+1)
 |e::es=>if Xz k e.1 then ((k,v,e.2.2)::es,clock) else (e::(Qt k v clock es).1,(Qt k v clock es).2)
def Vs (k:Value):List Jp->List Jp
 |[]=>[]
 |e::es=>if Xz k e.1 then es else e::Vs k es
def Heap.mapAt (U:Heap) (m:Nat):Option (List Jp×Nat×Bool):=match U.get m with
 |some (.obj (.map es clock) wr)=>some (es,clock,wr)
 |_=>none
def I1:Value->Option UInt8
 |.int .u8 n=>some n.toNat.toUInt8
 |_=>none
def P0 (l:List Value):Option ByteArray:=(l.mapM I1).map λbs=>⟨bs.toArray⟩
def Jw:Nat->Value->Value->Heap->Option Bool
 |0,.pointer none,.pointer none,_=>some true
 |0,.pointer none,.pointer (some _),_=>some false
 |0,.pointer (some _),.pointer none,_=>some false
 |0,.pointer (some ⟨i,o,none⟩),.pointer (some ⟨j,q,none⟩),U=>if i=j/\o=q/\(U.get i).isSome=true then some true else none
 |1,.slice none _ _,.slice none _ _,_=>some true
 |1,.slice none _ _,.slice (some _) _ _,_=>some false
 |1,.slice (some _) _ _,.slice none _ _,_=>some false
 |2,.map none,.map none,_=>some true
 |2,.map none,.map (some _),_=>some false
 |2,.map (some _),.map none,_=>some false
 |3,.nilFunc,.nilFunc,_=>some true
 |3,.nilFunc,.func _ _ _,_=>some false
 |3,.func _ _ _,.nilFunc,_=>some false
 |_,_,_,_=>none
def ZA (o:XOp) (ev:Operand->Value) (U:Heap):Option (Value×Heap) :=
 match o with
 |.eqNil kd neg x y=>match Jw kd (ev x) (ev y) U with|some b=>some (.bool (if neg then !b else b),U)|none=>none
 |.eqAgg neg s x y=>match ev x,ev y with
  |.agg a,.agg b=>if fits s a.toList=true/\fits s b.toList=true then some (.bool (if neg then !(Qn a.toList b.toList) else Qn a.toList b.toList),U) else none
  |_,_=>none
 |.makeMap=>some (.map (some U.n),U.push (.obj (.map [] 0) true))
 |.lookup mk z ok x i =>
  let k:=ev i
  if Zm mk k then
   match ev x with
   |.map none=>some (if ok then .tuple #[z,.bool false] else z,U)
   |.map (some m)=>match U.mapAt m with
    |some (es,_,_)=>if es.all (λe=>Zm mk e.1) then
      (match Qf k es with
      |some e=>some (if ok then .tuple #[e.2.1,.bool true] else e.2.1,U)
      |none=>some (if ok then .tuple #[z,.bool false] else z,U)) else none
    |none=>none
   |_=>none
  else none
 |.mapUpdate mk m k v=>match ev m with
  |.map (some i)=>match U.mapAt i with
   |some (es,clock,true)=>if Zm mk (ev k)&&es.all (λe=>Zm mk e.1) then some (undef,U.upd i (.obj (.map (Qt (ev k) (ev v) clock es).1 (Qt (ev k) (ev v) clock es).2) true)) else none
   |_=>none
  |_=>none
 |.delete mk m k=>match ev m with
  |.map (some i)=>match U.mapAt i with
   |some (es,clock,true)=>if Zm mk (ev k)&&es.all (λe=>Zm mk e.1) then some (.tuple #[],U.upd i (.obj (.map (Vs (ev k) es) clock) true)) else none
   |_=>none
  |_=>none
 |.mapEntry mk z m k=>match ev m with
  |.map (some i)=>match U.mapAt i with
   |some (es,clock,true)=>if Zm mk (ev k)&&es.all (λe=>Zm mk e.1) then
     (match Qf (ev k) es with
     |some e=>some (.tuple #[e.2.1,.int .i64 e.2.2],U.upd i (.obj (.map (Qt (ev k) e.2.1 clock es).1 (Qt (ev k) e.2.1 clock es).2) true))
     |none=>some (.tuple #[z,.int .i64 clock],U.upd i (.obj (.map (Qt (ev k) z clock es).1 (Qt (ev k) z clock es).2) true))) else none
   |_=>none
  |_=>none
 |.entryStore m s v=>match ev m,ev s with
  |.map (some i),.int .i64 n=>match U.mapAt i with
   |some (es,clock,true)=>(match es.findIdx? (λe=>(e.2.2:Int)==n) with
    |some j=>(match es[j]? with
     |some e=>some (undef,U.upd i (.obj (.map (es.set j (e.1,ev v,e.2.2)) clock) true))
     |none=>none)
    |none=>none)
   |_=>none
  |_,_=>none
 |.lenMap x=>match ev x with
  |.map none=>some (.int .i64 0,U)
  |.map (some m)=>match U.mapAt m with
   |some (es,_,_)=>some (.int .i64 es.length,U)
   |none=>none
  |_=>none
 |.rangeMap x=>match ev x with
  |.map (some m)=>match U.mapAt m with
   |some (_,clock,_)=>some (.pointer (some ⟨U.n,0,none⟩),U.push (.obj (.iter m clock [] clock) true))
   |none=>none
  |_=>none
 |.nextMap _=>none
 |.entry x=>match ev x with
  |.pointer (some ⟨i,0,none⟩)=>match U.get i with
   |some (.obj (.iter m _ seen last) _)=>match U.mapAt m,seen.getLast? with
    |some (es,clock,_),some b=>if clock=last then (match es.find? (λe=>e.2.2==b) with|some e=>if VV e.1 then some (.tuple #[e.1,e.2.1],U) else none|none=>none) else none
    |_,_=>none
   |_=>none
  |_=>none
 |.copy size d s=>match ev d,ev s with
  |.slice db dn _,.slice sb sn sc =>
   if min sn dn=0 then some (.int .i64 0,U) else
   match db,U.sl size (.slice sb (min sn dn) sc) with
   |some ⟨i,o,none⟩,some xs=>match U.get i with
    |some (.cells c e wr tight)=>if wr=true/\e.sz=size/\o+xs.length<=c.length/\xs.all cellOk=true then some (.int .i64 (min sn dn:Nat),U.upd i (.cells (XG c o xs) e wr tight)) else none
    |_=>none
   |_,_=>none
  |_,_=>none
 |.clear z x=>match ev x with
  |.slice b n _ =>
   if n=0 then some (.tuple #[],U) else
   match b with
   |some ⟨i,o,none⟩=>match U.get i with
    |some (.cells c e wr tight)=>if wr=true/\o+n*z.length<=c.length/\z.all cellOk=true then some (.tuple #[],U.upd i (.cells (XG c o (PW n z)) e wr tight)) else none
    |_=>none
   |_=>none
  |_=>none
 |.toUnsafe x=>match ev x with
  |.pointer none=>some (.pointer none,U)
  |.pointer (some ⟨i,o,none⟩)=>match U.get i with
   |some (.cells c _ _ _)=>if o<c.length then some (.pointer (some ⟨i,o,none⟩),U) else none
   |_=>none
  |_=>none
 |.fromUnsafe u size x=>match ev x with
  |.pointer none=>some (.pointer none,U)
  |.pointer (some ⟨i,o,none⟩)=>match U.get i with
   |some (.cells c e true true)=>if o=0/\e.ty=u/\size<=c.length then some (.pointer (some ⟨i,o,none⟩),U) else none
   |_=>none
  |_=>none
 |.sliceData x=>match ev x with
  |.slice none _ _=>some (.pointer none,U)
  |.slice (some ⟨i,o,none⟩) _ cap=>if cap≠0/\(U.get i).isSome=true then some (.pointer (some ⟨i,o,none⟩),U) else none
  |_=>none
 |.unsafeStr e x n=>match ev x,ev n with
  |.pointer p,.int .i64 k =>
   if k=0 then some (.string ⟨#[]⟩,U) else
   match p with
   |some ⟨i,o,none⟩=>match U.get i with
    |some (.cells c el true tight) =>
     if 0<k/\k<=2 ^ 62/\el.ty=e/\o+k.toNat<=c.length then
      (match P0 ((c.drop o).take k.toNat) with
      |some s=>some (.string s,U.upd i (.cells c el false tight))
      |none=>none) else none
    |_=>none
   |_=>none
  |_,_=>none
 |.strBytes e x=>match ev x with
  |.string s=>if s.size<=2 ^ 62 then some (.slice (some ⟨U.n,0,none⟩) s.size s.size,U.push (.cells (s.data.toList.map λb=>.int .u8 b.toNat) ⟨1,e⟩ true false)) else none
  |_=>none
 |.bytesStr x=>match ev x with
  |.slice a n c=>match U.sl 1 (.slice a n c) with
   |some xs=>match P0 xs with|some s=>some (.string s,U)|none=>none
   |none=>none
  |_=>none
def Q0y (a b:Int):Int:=if b > a then b else a
theorem Q2k (a b:Int):Q0y (Q0y a b) b=Q0y a b:=by unfold Q0y;(repeat' split)<;>omega
def Q7 (o:VOp) (ev:Operand->Value) (U:Heap):Option (Value×Heap) :=
 match o with
 |.move x=>some (ev x,U)
 |.pick c a b=>match ev c with|.bool t=>some (if t then ev a else ev b,U)|_=>none
 |.arith op x y=>match ev x,ev y with|.int k a,.int k' b=>if k=k' then some (.int k (P4 op k a b),U) else none|_,_=>none
 |.div op x y=>match ev x,ev y with|.int k a,.int k' b=>if k=k'/\b≠0 then some (.int k (Q9i op k a b),U) else none|_,_=>none
 |.bits op x y=>match ev x,ev y with|.int k a,.int k' b=>if k=k' then some (.int k (QM op k a b),U) else none|_,_=>none
 |.shift op x y=>match ev x,ev y with|.int k a,.int _ b=>if 0<=b then some (.int k (P8 op k a b),U) else none|_,_=>none
 |.cmp op x y=>match ev x,ev y with|.int k a,.int k' b=>if k=k' then some (.bool (Z1n op a b),U) else none|_,_=>none
 |.str op x y=>match ev x,ev y with
  |.string a,.string b=>match op with
   |.add=>if a.size+b.size<=2 ^ 62 then some (.string (a++b),U) else none
   |.eql=>some (.bool (a.data.toList==b.data.toList),U)
   |.neq=>some (.bool (!(a.data.toList==b.data.toList)),U)
   |.lss=>some (.bool (Op.bytesLess a.data.toList b.data.toList),U)
   |_=>none
  |_,_=>none
 |.eqB neg x y=>match ev x,ev y with|.bool a,.bool b=>some (.bool (if neg then !(a==b) else (a==b)),U)|_,_=>none
 |.un op x=>match op,ev x with
  |.not,.bool b=>some (.bool (!b),U)
  |.neg,.int k n=>some (.int k (k.wrap (0-n)),U)
  |.xor,.int k n=>some (.int k (QM .xor k (if k.signed then -1 else k.max) n),U)
  |_,_=>none
 |.convI k x=>match ev x with|.int _ n=>some (.int k (k.wrap n),U)|_=>none
 |.convS x=>match ev x with|.string s=>some (.string s,U)|_=>none
 |.alloc t z=>some (.pointer (some ⟨U.n,0,none⟩),U.push (.cells z ⟨z.length,t⟩ true true))
 |.box t x=>match KP (ev x) with
  |some vs=>some (.pointer (some ⟨U.n,0,none⟩),U.push (.cells vs ⟨vs.length,t⟩ true true))
  |none=>none
 |.build z parts=>match M9 z (parts.map λp=>(p.1,p.2.1,ev p.2.2)) with|some cs=>some (.agg cs.toArray,U)|none=>none
 |.buildSlice esz z len parts=>match M9 (PW len z) (parts.map λp=>(p.1*esz.sz,esz.sz,ev p.2)) with
  |some cs=>some (.slice (some ⟨U.n,0,none⟩) len len,U.push (.cells cs esz true true))
  |none=>none
 |.load agg size a=>match ev a with
  |.pointer (some ⟨g,o,some _⟩)=>(match Q4a g with
   |some c=>if c.all Z4 then (match Wn agg size c o with|some v=>some (v,U)|none=>none) else none
   |none=>none)
  |.pointer (some ⟨i,o,none⟩)=>match U.get i with
   |some (.cells c _ _ _)=>match Wn agg size c o with|some v=>some (v,U)|none=>none
   |_=>none
  |_=>none
 |.store size a v=>match ev a,KP (ev v) with
  |.pointer (some ⟨i,o,none⟩),some vs=>match U.get i with
   |some (.cells c e wr tight)=>if wr=true/\vs.length=size/\o+size<=c.length/\vs.all cellOk=true then some (undef,U.upd i (.cells (XG c o vs) e wr tight)) else none
   |_=>none
  |_,_=>none
 |.fieldAddr off a=>match ev a with
  |.pointer (some ⟨i,o,none⟩)=>some (.pointer (some ⟨i,o+off,none⟩),U)
  |_=>none
 |.field agg off size x=>match ev x with
  |.agg cs=>match Wn agg size cs.toList off with|some v=>some (v,U)|none=>none
  |_=>none
 |.indexAddr size x i=>match ev x,ev i with
  |.slice (some ⟨b,o,none⟩) n _,.int _ k=>if 0<=k/\k<n then some (.pointer (some ⟨b,o+k.toNat*size,none⟩),U) else none
  |_,_=>none
 |.indexAddrArr len size x i=>match ev x,ev i with
  |.pointer (some ⟨g,o,some s⟩),.int _ k=>if 0<=k/\k<len then some (.pointer (some ⟨g,o+k.toNat*size,some s⟩),U) else none
  |.pointer (some ⟨b,o,none⟩),.int _ k=>if 0<=k/\k<len then some (.pointer (some ⟨b,o+k.toNat*size,none⟩),U) else none
  |_,_=>none
 |.indexStr x i=>match ev x,ev i with
  |.string s,.int _ k=>if 0<=k then (match s.data.toList[k.toNat]? with|some b=>some (.int .u8 b.toNat,U)|none=>none) else none
  |_,_=>none
 |.indexArr len agg size x i=>match ev x,ev i with
  |.agg cs,.int _ k=>if 0<=k/\k<len then (match Wn agg size cs.toList (k.toNat*size) with|some v=>some (v,U)|none=>none) else none
  |_,_=>none
 |.slice size x lo hi mx =>
  match ev x with
  |.slice a n cap =>
   match Jg ev lo 0,Jg ev hi n,mx with
   |some l,some h,none=>WU size U (.slice a n cap) l h none
   |some l,some h,some _=>match Jg ev mx 0,hi with
    |some m,some _=>WU size U (.slice a n cap) l h (some m)
    |_,_=>none
   |_,_,_=>none
  |_=>none
 |.sliceStr x lo hi =>
  match ev x with
  |.string s =>
   match Jg ev lo 0,Jg ev hi s.size with
   |some l,some h=>if l<=h/\h<=s.size then some (.string (s.extract l h),U) else none
   |_,_=>none
  |_=>none
 |.makeSlice esz bytes z l c =>
  match ev l,ev c with
  |.int _ a,.int _ b=>if 0<=a/\a<=b/\b*bytes<=2 ^ 46/\b<=2 ^ 46 then some (.slice (some ⟨U.n,0,none⟩) a.toNat b.toNat,U.push (.cells (PW b.toNat z) esz true true)) else none
  |_,_=>none
 |.len x=>match ev x with
  |.slice _ n _=>some (.int .i64 n,U)
  |_=>none
 |.lenStr x=>match ev x with
  |.string s=>some (.int .i64 s.size,U)
  |_=>none
 |.append esz bytes s x =>
  match U.sl esz.sz (ev x),ev x with
  |some xs,.slice _ m _=>if xs.all cellOk then YT esz bytes U (ev s) m xs else none
  |_,_=>none
 |.max4 x y z w=>match ev x,ev y,ev z,ev w with|.int k a,.int k2 b,.int k3 c,.int k4 d=>if k=k2/\k=k3/\k=k4 then some (.int k (Q0y (Q0y (Q0y a b) c) d),U) else none|_,_,_,_=>none
 |.max x y=>match ev x,ev y with|.int k a,.int k' b=>if k=k' then some (.int k (if b > a then b else a),U) else none|_,_=>none
 |.min x y=>match ev x,ev y with|.int k a,.int k' b=>if k=k' then some (.int k (if b<a then b else a),U) else none|_,_=>none
 |.makeFunc fn first cap=>some (.func fn (first.map ev).toArray (cap.map ev).toArray,U)
 |.iface t x=>match ev x with|.chan _=>none|v=>some (.iface t v,U)
 |.extract x i=>match ev x with
  |.tuple vs=>match vs.toList[i]? with|some v=>some (v,U)|none=>none
  |_=>none
 |.nilCheck x=>match ev x with
  |.pointer (some a)=>some (.pointer (some a),U)
  |.func (.func f) first cap=>some (.func (.func f) first cap,U)
  |_=>none
 |.ext o=>ZA o ev U
 |.callF ..|.callV ..|.bad=>none
def QV {α:Type}(o:Option α) (f:α->Prop):Prop:=match o with|some a=>f a|none=>False
def vif (b:Bool) (A B:Prop):Prop:=(b=true->A)/\(b=false->B)
def Q1z (v:Value) (A B:Prop):Prop:=match v with|.bool t=>vif t A B|_=>False
abbrev SG:=List Value->Heap->(Value->Heap->Prop)->Prop
structure VSpecs where
 fn:FuncId->Option SG
 yl:Nat->Option SG
 it:FuncId->Option (Nat->SG->SG)
def vcall (S:VSpecs) (f:FuncId) (args:List Value) (U:Heap) (K:Value->Heap->Prop):Prop :=
 match S.fn f with
 |some s=>s args U K
 |none=>False
def It (S:VSpecs) (i:Nat) (args:List Value) (U:Heap) (K:Value->Heap->Prop):Prop :=
 match S.yl i with
 |some s=>s args U K
 |none=>False
def Fa (x:Value) (U:Heap) (K:Value->Heap->Prop):Prop :=
 match x with
 |.pointer (some ⟨i,0,none⟩)=>match U.get i with
  |some (.obj (.iter m since seen last) true)=>match U.mapAt m with
   |some (es,clock,_)=>(seen.isEmpty||es.isEmpty||es.any (λe=>decide (e.2.2<last)))=true/\es.all (λe=>VV e.1)=true /\
     (es.all (λe=>seen.contains e.2.2||decide (since<=e.2.2))=true->K (.tuple #[.bool false]) U) /\
     ∀ e∈es,seen.contains e.2.2=false->K (.tuple #[.bool true,e.1,e.2.1]) (U.upd i (.obj (.iter m since (seen++[e.2.2]) clock) true))
   |none=>False
  |_=>False
 |_=>False
def X6 (env:Env) (d:Option Nat) (v:Value):Env :=
 match d with
 |some d=>env.set d v
 |none=>env
def vop (S:VSpecs) (o:VOp) (env:Env) (U:Heap) (K:Value->Heap->Prop):Prop :=
 match o with
 |.callF f args=>vcall S f (args.map (Q4 env)) U K
 |.callV f args=>match Q4 env f with
  |.func (.func g) first cap=>vcall S g (first.toList++args.map (Q4 env)++cap.toList) U K
  |.func (.yield i) _ _=>It S i (args.map (Q4 env)) U K
  |_=>False
 |.ext (.nextMap x)=>Fa (Q4 env x) U K
 |o=>QV (Q7 o (Q4 env) U) λp=>K p.1 p.2
def Jl (env:Env):Option (Nat×Bool)->Option Bool
 |none=>some true
 |some (d,want)=>match env.getD d undef with
  |.bool b=>some (b==want)
  |.tuple _=>some false
  |_=>none
def S2 (S:VSpecs):List VOper->Env->Heap->(Env->Heap->Prop)->Prop
 |[],env,U,K=>K env U
 |o::rest,env,U,K=>QV (Jl env o.guard) λb =>
   vif b (vop S o.op env U λv U'=>S2 S rest (X6 env o.dst v) U' K) (S2 S rest (X6 env o.dst undef) U K)
def Q0p:Value->Bool
 |.bool _|.int _ _|.string _|.pointer none|.slice none 0 0|.map none|.nilFunc|.nilIface=>true
 |.tuple vs=>vs.toList.all Z4
 |_=>false
def Heap.Le (U U':Heap):Prop:=U.n<=U'.n/\∀ i b,U.get i=some b->U'.get i=some b
def B3 (A:(Value->Heap->Prop)->Prop) (R:Value->Heap->Prop):Prop:=∃ v U',A (λv' aE=>v'=v/\aE=U')/\R v U'
def X9 (op:VOp) (ev:Operand->Value) (v:Value) (Z:Heap):Prop:=QV (Q7 op ev Z) λq=>q.1=v
def Xa (r:Nat) (U:Heap):List (Nat×(Heap->Prop))->Prop
 |[]=>True
 |c::l=>(r<=c.1->c.2 U)/\Xa r U l
def waits:List Nat->List DOper->Bool
 |_,[]=>true
 |xs,o::r=>((o.kind==2)||(Q2g o.op.opds++(o.guard.map (·.1)).toList).any (λx=>xs.contains x))&&waits (o.dst.toList++xs) r
def ZI (S:VSpecs):List DOper->Env->List Heap->Heap->List (Nat×(Heap->Prop))->(Env->Heap->Prop)->Prop
 |[],env,_,U,_,K=>K env U
 |o::rest,env,hs,U,pend,K=>QV (Jl env o.guard) λb =>
   vif b (if o.kind=2 then (B3 (λR=>vop S o.op env U R) λv U'=>Xa hs.length U' pend/\ZI S rest (X6 env o.dst v) (hs++[U']) U' pend K) \/
      (waits o.dst.toList rest=true/\vop S o.op env U λv U'=>Xa hs.length U' pend/\ZI S rest (X6 env o.dst v) (hs++[U']) U' pend K)
     else if o.kind=1 then QV (Q7 o.op (Q4 env) U) λp=>(∀ Z∈hs.drop o.kmin,X9 o.op (Q4 env) p.1 Z) /\
      ZI S rest (X6 env o.dst p.1) hs U (if hs.length<=o.kmax then (o.kmax,X9 o.op (Q4 env) p.1)::pend else pend) K
     else QV (Q7 o.op (Q4 env) U) λp=>ZI S rest (X6 env o.dst p.1) hs U pend K)
    (if o.kind=2 then Xa hs.length U pend/\ZI S rest (X6 env o.dst undef) (hs++[U]) U pend K else ZI S rest (X6 env o.dst undef) hs U pend K)
def DropE (σ0:Heap) (env:Env) (U:Heap) (ae:Env) (U':Heap):Prop :=
 ∀ ρ0 w0 ρ w cs,HRel ρ0 σ0 w0->Ext ρ0 σ0 w0 ρ U w->HRel ρ U w->LRel ρ U.n env cs->∃ ρ',LRel ρ' U'.n ae cs/\HRel ρ' U' w/\Ext ρ0 σ0 w0 ρ' U' w
theorem DropE.refl (σ0:Heap) (env:Env) (U:Heap):DropE σ0 env U env U:=λ_ _ ρ _ _ _ hE hH hL=>⟨ρ,hL,hH,hE⟩
def Gs (S:VSpecs):List DSeg->Env->Heap->(Env->Heap->Prop)->Prop
 |[],env,U,K=>K env U
 |.one o::rest,env,U,K=>S2 S [o] env U λenv U=>Gs S rest env U K
 |.alts l::rest,env,U,K=>∀ ops∈l,ZI S ops env [U] U [] λbh σ1=>∃ aP σ2,DropE U bh σ1 aP σ2/\Gs S rest aP σ2 K
def Pn (live:List Nat) (env:Env):List Value:=live.map λi=>env.getD i poison
def W5:List Nat->List Value->Env->Env
 |i::l,v::vs,env=>W5 l vs (env.set i v)
 |_,_,env=>env
def Z3p (W:(Exit->Env->Heap->Prop)->Env->Heap->Prop) (Q:Exit->Env->Heap->Prop) (env:Env) (U:Heap):Prop :=
 ∃ (live:List Nat) (I:Nat->List Value->Heap->Prop) (n0:Nat),I n0 (Pn live env) U /\
  ∀ n vs U',I n vs U'->W (λe ae aE=>match e with
   |.normal=>∃ n',n'<n/\I n' (Pn live ae) aE
   |e=>Q e ae aE) (W5 live vs (List.replicate env.length poison)) U'
def Z5a (R:Env->Heap->Prop) (Q:Exit->Env->Heap->Prop):Exit->Env->Heap->Prop
 |.normal,env,U=>R env U
 |e,env,U=>Q e env U
def O5 (id:Nat) (Q:Exit->Env->Heap->Prop):Exit->Env->Heap->Prop
 |.exit gH,env,U=>if gH=id then Q .normal env U else Q (.exit gH) env U
 |e,env,U=>Q e env U
def Tq:Env->List Nat->List Value->Env
 |env,p::ps,v::vs=>Tq (env.set p v) ps vs
 |env,_,_=>env
def Q9w (env:Env) (r:Loop) (i:Nat) (K:Value->Heap->Prop):Exit->Env->Heap->Prop:=λe _ U =>
 U.get i=some (.obj (.lp env r .busy none) true)/\match e with
  |.normal=>K (.bool true) (U.upd i (.obj (.lp env r .ready none) true))
  |.ret=>K (.bool false) (U.upd i (.obj (.lp env r .done (some .ret)) true))
  |.exit id=>K (.bool false) (U.upd i (.obj (.lp env r .done (some (.exit id))) true))
  |_=>False
def Ik (A B:(Exit->Env->Heap->Prop)->Env->Heap->Prop) (ps:List Nat) (env:Env) (r:Loop) (i:Nat):SG:=λargs U K =>
 U.get i=some (.obj (.lp env r .ready none) true)/\args.length=ps.length /\
  A (Z5a (λbh σ1=>σ1.get i=some (.obj (.lp env r .ready none) true)/\B (Q9w env r i K) bh (σ1.upd i (.obj (.lp env r .busy none) true))) (λ_ _ _=>False)) (Tq env ps args) U
def Q5f (Q:Exit->Env->Heap->Prop) (env:Env) (i:Nat):Value->Heap->Prop:=λ_ U =>
 match U.get i with
 |some (.obj (.lp _ _ st pend) true)=>st≠.busy/\match pend with
  |none=>Q .normal env (U.kill i)
  |some .ret=>Q .ret env (U.kill i)
  |some (.exit id)=>Q (.exit id) env (U.kill i)
  |some _=>False
 |_=>False
def Z5i (U:Heap):Option Nat->Prop
 |none=>True
 |some i=>∃ env r st pend,U.get i=some (.obj (.lp env r st pend) true)
def ED (S:VSpecs) (ro:Option Nat) (A B:Option Nat->(Exit->Env->Heap->Prop)->Env->Heap->Prop) (g:Value) (ps:List Nat) (Q:Exit->Env->Heap->Prop) (env:Env) (U:Heap):Prop :=
 match g with
 |.func (.func f) first cap=>match S.it f with
  |some T=>Z5i U ro/\∀ r:Loop,T U.n (Ik (A (some U.n)) (B (some U.n)) ps env r U.n) (first.toList++[.func (.yield U.n) #[] #[]]++cap.toList) (U.push (.obj (.lp env r .ready none) true)) (Q5f Q env U.n)
  |none=>False
 |_=>False
def vwp (S:VSpecs):VCode->Option Nat->(Exit->Env->Heap->Prop)->Env->Heap->Prop
 |.skip,_,Q,env,U=>Q .normal env U
 |.region ops,_,Q,env,U=>S2 S ops env U λenv U=>Q .normal env U
 |.regionD aQ,_,Q,env,U=>Gs S aQ env U λenv U=>Q .normal env U
 |.seq a b,ro,Q,env,U=>vwp S a ro (Z5a (vwp S b ro Q) Q) env U
 |.cond c a b,ro,Q,env,U=>Q1z (Q4 env c) (vwp S a ro Q env U) (vwp S b ro Q env U)
 |.block id b,ro,Q,env,U=>vwp S b ro (O5 id Q) env U
 |.loop b,ro,Q,env,U=>Z3p (vwp S b ro) Q env U
 |.rangeF g ps a b,ro,Q,env,U=>ED S ro (vwp S a) (vwp S b) (Q4 env g) ps Q env U
 |.exit id,_,Q,env,U=>Q (.exit id) env U
 |.ret,_,Q,env,U=>Q .ret env U
 |.bad,_,_,_,_=>False
inductive VResult where
 |tmp (t:Nat)
 |cell (a:Nat) (agg:Bool) (size:Nat)
def JQ (P:Program):ResultVar->Option VResult
 |.tmp t=>some (.tmp t)
 |.cell a t =>
  match P.info? t,P.underlying t with
  |some i,some d=>some (.cell a (Nk d) i.size)
  |_,_=>none
def UE (P:Program) (rs:List ResultVar):Option (List VResult):=rs.mapM (JQ P)
def JI (env:Env) (U:Heap):VResult->Option Value
 |.tmp t=>some (env.getD t undef)
 |.cell a agg size=>(Q7 (.load agg size (.tmp a)) (Q4 env) U).map (·.1)
def J6 (env:Env) (U:Heap) (rs:List VResult):Option Value :=
 match rs with
 |[r]=>JI env U r
 |rs=>(rs.mapM (JI env U)).map λvs=>.tuple vs.toArray
def Z10 (rs:List VResult) (R:Value->Heap->Prop):Exit->Env->Heap->Prop
 |.normal,env,U|.ret,env,U=>QV (J6 env U rs) λv=>R v U
 |_,_,_=>False
theorem XR (b:Nat):∀ (vs:List Value) (o:Nat) (w:World) (k:Nat),k≠b->(w.setCells b o vs).heap[k]?=w.heap[k]?
 |[],_,_,_,_=>rfl
 |v::r,o,w,k,h=>by
  rw[World.setCells,XR b r (o+1) _ k h]
  grind [heap_setCell_other]
theorem WN (b:Nat):∀ (vs:List Value) (o:Nat) (w:World),(w.setCells b o vs).heap.size=w.heap.size
 |[],_,_=>rfl
 |v::r,o,w=>by rw[World.setCells,WN b r];exact World.size_setCell w _ _
theorem Dc (b:Nat):∀ (vs:List Value) (o:Nat) (w:World),(w.setCells b o vs).os=w.os/\(w.setCells b o vs).tape=w.tape/\(w.setCells b o vs).output=w.output
 |[],_,_=>⟨rfl,rfl,rfl⟩
 |v::r,o,w=>by rw[World.setCells];exact Dc b r (o+1) _
theorem VM (b:Nat):∀ (vs:List Value) (o:Nat) (w:World) (C:Array Value) (e:TypeId) (f:Nat×Nat),w.heap[b]?=some (.cells C e f) ->
  ∃ C',(w.setCells b o vs).heap[b]?=some (.cells C' e f)/\C'.size=C.size
 |[],_,_,C,_,_,h=>⟨C,h,rfl⟩
 |v::r,o,w,C,e,f,h=>by
  have h1:(w.setCell ⟨b,o,none⟩ v).heap[b]?=some (.cells (C.setIfInBounds o v) e f):=by simp only[World.setCell,Array.getElem?_modify,zz,h];simp
  obtain⟨C',h2,h3⟩:=VM b r (o+1) _ _ e f h1;exact⟨C',by rw[World.setCells];exact h2,by rw[h3];simp⟩
theorem Yc (vs:List Value):∀ (c:List Value) (o:Nat),(XG c o vs).length=c.length:=by
 induction vs with
 |nil=>intro c o;rfl
 |cons v r ih=>intro c o;rw[XG,ih];simp
theorem Vq (vs:List Value):∀ (c:List Value) (o k:Nat),(k<o\/o+vs.length<=k)->(XG c o vs)[k]?=c[k]?:=by
 induction vs with
 |nil=>intro c o k _;rfl
 |cons v r ih =>intro c o k h;rw[XG,ih _ _ _ (by simp at h;omega),List.getElem?_set_ne (by simp at h;omega)]
theorem A4 (vs:List Value):∀ (c:List Value) (o k:Nat),o+vs.length<=c.length->k<vs.length->(XG c o vs)[o+k]?=vs[k]?:=by
 induction vs with
 |nil=>intro c o k _ h;simp at h
 |cons v r ih =>
  intro c o k h hk;simp at h hk;cases k with
  |zero=>rw[XG,Vq _ _ _ _ (by left;omega),zY,List.getElem?_set_self (by omega)];rfl
  |succ k =>rw[XG,show o+(k+1)=o+1+k by omega,ih _ _ _ (by simp;omega) (by omega)];simp
theorem BRel.q0r {ρ:Plc}{n:Nat}{p:Pl}{w:World}{c:List Value}{esz:El}{wr tight:Bool}(h:BRel ρ n p w (.cells c esz wr tight)) (k:Nat) (hk:k<p.ext):(w.cell? ⟨p.blk,p.shift+k,none⟩).isSome=true:=by
 obtain⟨_,_,_,⟨C,e,f,h1,h2⟩,_⟩:=h;have h3:p.shift+k<C.size:=by omega
 simp[World.cell?,h1,h3]
theorem BRel.other {ρ ρ':Plc}{n n':Nat}{q:Pl}{w w':World}{b:Blk}(hn:n<=n') (hρ:∀ i,i<n->∀ p,ρ' i=some p->ρ i=some p) (B:Nat) (C:Array Value) (e:TypeId) (f:Nat×Nat) (hB:w.heap[B]?=some (.cells C e f))
  (aB:0<q.ext->B≠q.blk) (hC:∃ C' f',w'.heap[B]?=some (.cells C' e f')/\C.size<=C'.size) (ho:∀ k,k≠B->k<w.heap.size->w'.heap[k]?=w.heap[k]?) (hq:q.blk<w.heap.size) (h:BRel ρ n q w b):BRel ρ' n' q w' b:=by
 by_cases hk:q.blk=B
 .have h0:q.ext=0:=by
   omega
  cases b with
  |cells c esz wr tight =>
   obtain⟨h1,h2,h3,⟨C0,e0,f0,h4,iw⟩,h5,h6⟩:=h;have hc:c=[]:=xc.1 (by omega);obtain⟨C',f',mq,oz⟩:=hC;have sB:C0=C/\e0=e:=by simp_all
   obtain⟨rfl,rfl⟩:=sB;refine⟨h1,h2,by omega,(by grind),λk v hv=>by simp[hc] at hv,(by simp_all)⟩
  |obj o wr=>have:=h.1;omega
 .exact h.mono hn hρ (ho _ hk hq)
theorem HRel0.store {ρ:Plc}{U:Heap}{w:World}(h:HRel0 ρ U w) {i:Nat}{p:Pl}{c:List Value}{esz:El}{tight:Bool}(hp:ρ i=some p) (hb:U.get i=some (.cells c esz true tight))
  {o:Nat}{vs cs:List Value}(hv:LRel ρ U.n vs cs) (ho:o+vs.length<=c.length) :
  HRel0 ρ (U.upd i (.cells (XG c o vs) esz true tight)) (w.setCells p.blk (p.shift+o) cs)/\Ext ρ U w ρ (U.upd i (.cells (XG c o vs) esz true tight)) (w.setCells p.blk (p.shift+o) cs):=by
 have hi:=U.lt hb;obtain⟨p',a9,hB⟩:=h.live i _ hb;obtain rfl:p=p':=osj (hp.symm.trans a9);obtain⟨h1,h2,h3,⟨C,e,f,h4,iw⟩,h5,h6⟩:=hB;obtain⟨C',mq,oz⟩:=VM p.blk cs (p.shift+o) w C e f h4;have cf:vs.length=cs.length:=hv.1;refine⟨⟨λj b hj=>?_,λj hj=>?_,λj q hq=>by rw[WN];exact h.lt j q hq,λj k q r b cM hq hr cm hw hx=>?_⟩,?_⟩
 .by_cases aK:j=i
  .subst aK;rw[Heap.q0c _ _ hi] at hj;obtain rfl:=osj hj;refine⟨p,hp,h1,h2,by rw[Yc];exact h3,⟨C',e,f,mq,by omega,iw.2⟩,λk v hk=>?_,(by grind [World.frozen?_setCells])⟩;have cB:k<c.length:=by grind [List.getElem?_eq_some_iff,Yc]
   by_cases bC:k<o\/o+vs.length<=k
   .rw[Vq _ _ _ _ bC] at hk;obtain⟨u,hu,cC⟩:=h5 k v hk;exact⟨u,by grind [World.cell?_setCells_out],cC⟩
   .have oA:k=o+(k-o):=by omega
    rw[oA,A4 _ _ _ _ ho (by omega)] at hk;obtain⟨u,hu,cC⟩:=hv.get hk;have oB:k-o<cs.length:=(zt.1 hu).1;refine⟨u,?_,cC⟩;have:=World.cell?_setCells_in p.blk cs (p.shift+o) w (λj hj=>by
     rw[zC];exact BRel.q0r (ρ:=ρ) (n:=U.n) ⟨h1,h2,h3,⟨C,e,f,h4,iw⟩,h5,h6⟩ _ (by omega)) (k-o) oB
    grind
  .rw[Heap.q0b _ _ aK] at hj;obtain⟨q,hq,eN⟩:=h.live j b hj;refine⟨q,hq,eN.other (by exact zd _) (λ_ _ _ h=>h) p.blk C e f h4 (λhx=>h.sep i j p q _ (Ne.symm aK) hp hq hb rfl hx) ⟨C',f,mq,by omega⟩ (by grind [XR]) (h.lt j q hq)⟩
 .by_cases aK:j=i
  .grind [Heap.q0c]
  .rw[Heap.q0b _ _ aK] at hj;exact h.dead j hj
 .by_cases aK:j=i
  .subst aK;exact h.sep j k q r _ cM hq hr hb rfl hx
  .rw[Heap.q0b _ _ aK] at cm;exact h.sep j k q r b cM hq hr cm hw hx
 .obtain⟨e1,e2,e3⟩:=Dc p.blk cs (p.shift+o) w;refine⟨e1,e2,e3,by rw[WN];exact zd _,λB hB hW=>XR _ _ _ _ _ (λe=>hW ⟨i,p,_,hp,hb,rfl,e.symm⟩),?_,zd _,λ_ _ _ h=>h⟩;rintro B _ ⟨j,q,b,hq,bS,hw,rfl⟩;by_cases aK:j=i
  .subst aK;exact⟨j,q,_,hq,hb,rfl,rfl⟩
  .rw[Heap.q0b _ _ aK] at bS;exact⟨j,q,b,hq,bS,hw,rfl⟩
theorem HRel0.onto {ρ:Plc}{U:Heap}{w:World}(h:HRel0 ρ U w) {i:Nat}{p:Pl}{c:List Value}{esz:El}(hp:ρ i=some p) (hb:U.get i=some (.cells c esz true false))
  (o':Nat) {aW vs cs:List Value}(hold:∀ k v,aW[k]?=some v->∃ u,w.cell? ⟨p.blk,p.shift+o'+k,none⟩=some u/\VRel ρ U.n v u) (hv:LRel ρ U.n vs cs) (ho:o'+aW.length+vs.length<=p.ext) :
  ∃ ρ',ρ' U.n=some ⟨p.blk,p.shift+o',p.ext-o',esz,false⟩/\HRel0 ρ' ((U.kill i).push (.cells (aW++vs) esz true false)) (w.setCells p.blk (p.shift+o'+aW.length) cs) /\
   Ext ρ U w ρ' ((U.kill i).push (.cells (aW++vs) esz true false)) (w.setCells p.blk (p.shift+o'+aW.length) cs):=by
 have hi:=U.lt hb;obtain⟨p',a9,hB⟩:=h.live i _ hb;obtain rfl:p=p':=osj (hp.symm.trans a9);have dk:=hB;obtain⟨h1,h2,h3,⟨C,e,f,h4,iw⟩,h5,h6⟩:=hB;obtain⟨C',mq,oz⟩:=VM p.blk cs (p.shift+o'+aW.length) w C e f h4;have cf:vs.length=cs.length:=hv.1;let P':Pl:=⟨p.blk,p.shift+o',p.ext-o',esz,false⟩;let ρ':Plc:=(ρ.put i none).put U.n (some P');have gI:ρ' U.n=some P':=by simp[ρ',Plc.put]
 have gf:ρ' i=none:=by simp only[ρ',Plc.put];rw[z0 (by omega)];simp
 have fl:∀ j,j≠U.n->j≠i->ρ' j=ρ j:=λj h1 h2=>by simp[ρ',Plc.put,h1,h2]
 have aU:∀ j,j<U.n->∀ q,ρ' j=some q->ρ j=some q:=(by grind);refine⟨ρ',gI,⟨λj b hj=>?_,λj hj=>?_,λj q hq=>?_,λj k q r b cM hq hr cm hw hx=>?_⟩,?_⟩
 .by_cases aM:j=U.n
  .subst aM;have iz:((U.kill i).push (.cells (aW++vs) esz true false)).get U.n=some (.cells (aW++vs) esz true false):=Heap.q0a (U.kill i) _;rw[iz] at hj;obtain rfl:=osj hj;refine⟨P',gI,rfl,rfl,by simp[P'];omega,(by grind),λk v hk=>?_,λ_=>⟨(λh=>by cases h),λk hk=>?_⟩⟩
   .by_cases bC:k<aW.length
    .rw[xr bC] at hk;obtain⟨u,hu,cC⟩:=hold k v hk;exact⟨u,by grind [World.cell?_setCells_out],cC.mono (by simp) aU⟩
    .rw[xy (by omega)] at hk;obtain⟨u,hu,cC⟩:=hv.get hk;have oB:k-aW.length<cs.length:=(zt.1 hu).1;refine⟨u,?_,cC.mono (by simp) aU⟩;have:=World.cell?_setCells_in p.blk cs (p.shift+o'+aW.length) w (λj hj=>by
      rw[zC,zC];exact dk.q0r _ (by omega)) (k-aW.length) oB
     grind
   grind [World.frozen?_setCells]
  .have dF:(U.kill i).get j=some b:=by rw[<-hj];exact(Heap.q0e (U.kill i) _ aM).symm
   by_cases aK:j=i
   .grind [Heap.q0f]
   .rw[Heap.q0d _ aK] at dF;obtain⟨q,hq,eN⟩:=h.live j b dF;exact⟨q,by rw[fl j aM aK];exact hq,eN.other (by simp) aU p.blk C e f h4 (λhx=>h.sep i j p q _ (Ne.symm aK) hp hq hb rfl hx) ⟨C',f,mq,by omega⟩ (by grind [XR]) (h.lt j q hq)⟩
 .by_cases aM:j=U.n
  .subst aM;have iz:((U.kill i).push (.cells (aW++vs) esz true false)).get U.n=some (.cells (aW++vs) esz true false):=Heap.q0a (U.kill i) _;rw[iz] at hj;cases hj
  .have dF:(U.kill i).get j=none:=by rw[<-hj];exact(Heap.q0e (U.kill i) _ aM).symm
   by_cases aK:j=i
   .subst aK;exact gf
   .rw[Heap.q0d _ aK] at dF;rw[fl j aM aK];exact h.dead j dF
 .rw[WN];by_cases aM:j=U.n
  .grind
  .by_cases aK:j=i
   .subst aK;rw[gf] at hq;cases hq
   .rw[fl j aM aK] at hq;exact h.lt j q hq
 .by_cases aM:j=U.n
  .subst aM;rw[gI] at hq;obtain rfl:=osj hq;by_cases kj:k=i
   .subst kj;rw[gf] at hr;cases hr
   .rw[fl k (Ne.symm cM) kj] at hr;exact h.sep i k p r _ (Ne.symm kj) hp hr hb rfl hx
  .have a_:(U.kill i).get j=some b:=by rw[<-cm];exact(Heap.q0e (U.kill i) _ aM).symm
   by_cases aK:j=i
   .subst aK;rw[gf] at hq;cases hq
   rw[Heap.q0d _ aK] at a_;rw[fl j aM aK] at hq;by_cases iN:k=U.n
   .subst iN;rw[gI] at hr;obtain rfl:=osj hr;have rn:0<p.ext:=by simp[P'] at hx;omega
    exact h.sep j i q p b aK hq hp a_ hw rn
   .by_cases kj:k=i
    .subst kj;rw[gf] at hr;cases hr
    .rw[fl k iN kj] at hr;exact h.sep j k q r b cM hq hr a_ hw hx
 .obtain⟨e1,e2,e3⟩:=Dc p.blk cs (p.shift+o'+aW.length) w;refine⟨e1,e2,e3,by rw[WN];exact zd _,λB hB hW=>XR _ _ _ _ _ (λe=>hW ⟨i,p,_,hp,hb,rfl,e.symm⟩),?_,by simp,aU⟩;rintro B _ ⟨j,q,b,hq,bS,hw,rfl⟩;by_cases aM:j=U.n
  .subst aM;rw[gI] at hq;obtain rfl:=osj hq;exact⟨i,p,_,hp,hb,rfl,rfl⟩
  .have a_:(U.kill i).get j=some b:=by rw[<-bS];exact(Heap.q0e (U.kill i) _ aM).symm
   by_cases aK:j=i
   .subst aK;rw[gf] at hq;cases hq
   rw[Heap.q0d _ aK] at a_;rw[fl j aM aK] at hq;exact⟨j,q,b,hq,a_,hw,rfl⟩
section
variable {ρ:Plc}{U:Heap}{w:World}
theorem HRel.store (h:HRel ρ U w) {i:Nat}{p:Pl}{c:List Value}{esz:El}{tight:Bool}(hp:ρ i=some p) (hb:U.get i=some (.cells c esz true tight))
  {o:Nat}{vs cs:List Value}(hv:LRel ρ U.n vs cs) (ho:o+vs.length<=c.length) :
  HRel ρ (U.upd i (.cells (XG c o vs) esz true tight)) (w.setCells p.blk (p.shift+o) cs)/\Ext ρ U w ρ (U.upd i (.cells (XG c o vs) esz true tight)) (w.setCells p.blk (p.shift+o) cs) :=
 let ⟨h2,h3⟩:=h.core.store hp hb hv ho
 ⟨h.ext h2 h3,h3⟩
theorem HRel.onto (h:HRel ρ U w) {i:Nat}{p:Pl}{c:List Value}{esz:El}(hp:ρ i=some p) (hb:U.get i=some (.cells c esz true false))
  (o':Nat) {aW vs cs:List Value}(hold:∀ k v,aW[k]?=some v->∃ u,w.cell? ⟨p.blk,p.shift+o'+k,none⟩=some u/\VRel ρ U.n v u) (hv:LRel ρ U.n vs cs) (ho:o'+aW.length+vs.length<=p.ext) :
  ∃ ρ',ρ' U.n=some ⟨p.blk,p.shift+o',p.ext-o',esz,false⟩/\HRel ρ' ((U.kill i).push (.cells (aW++vs) esz true false)) (w.setCells p.blk (p.shift+o'+aW.length) cs) /\
   Ext ρ U w ρ' ((U.kill i).push (.cells (aW++vs) esz true false)) (w.setCells p.blk (p.shift+o'+aW.length) cs) :=
 let ⟨ρ',h1,h2,h3⟩:=h.core.onto hp hb o' hold hv ho
 ⟨ρ',h1,h.ext h2 h3,h3⟩
end
end Go.V
namespace Go.V
open Go
structure Like (ρ:Plc) (w w':World):Prop where
 size:w.heap.size<=w'.heap.size
 blk:∀ i p,ρ i=some p->w'.heap[p.blk]?=w.heap[p.blk]?
 tab:∀ g cs,Q4a g=some cs->w'.heap[g]?=w.heap[g]?
theorem Like.refl (ρ:Plc) (w:World):Like ρ w w:=⟨zd _,λ_ _ _=>rfl,λ_ _ _=>rfl⟩
section inv
variable {ρ:Plc}{n:Nat}{c:Value}
theorem VRel.q0g {k:IntKind}{x:Int}(h:VRel ρ n (.int k x) c):c=.int k x:=by cases h;rfl
theorem VRel.q1d {b:Bool}(h:VRel ρ n (.bool b) c):c=.bool b:=by cases h;rfl
theorem VRel.q0o {s:ByteArray}(h:VRel ρ n (.string s) c):c=.string s:=by cases h;rfl
theorem VRel.q1k {l k:Nat}(h:VRel ρ n (.slice none l k) c):l=0/\k=0/\c=.slice none 0 0:=by cases h;exact⟨rfl,rfl,rfl⟩
theorem VRel.q0w {i o:Nat}{p:Pl}(hp:ρ i=some p) (h:VRel ρ n (.pointer (some ⟨i,o,none⟩)) c):(none:Option Nat)=none/\i<n/\c=.pointer (some ⟨p.blk,p.shift+o,none⟩):=by
 cases h with
 |ptr _ _ a hi h=>exact⟨rfl,hi,by rw[h p hp]⟩
theorem VRel.q1l {cs:Array Value}(h:VRel ρ n (.agg cs) c):∃ ds:Array Value,c=.agg ds/\LRel ρ n cs.toList ds.toList:=by
 cases h with
 |agg _ ds hc h=>exact⟨ds,rfl,LRel.of_array hc h⟩
theorem VRel.q1j {cs:Array Value}(h:VRel ρ n (.tuple cs) c):∃ ds:Array Value,c=.tuple ds/\LRel ρ n cs.toList ds.toList:=by
 cases h with
 |tuple _ ds hc h=>exact⟨ds,rfl,LRel.of_array hc h⟩
end inv
theorem Wv {ρ:Plc}{n:Nat}{v:Value}(h:Z4 v=true):VRel ρ n v v:=by unfold Z4 at h;split at h<;>first|constructor|cases h
theorem Xw {ρ:Plc}{n:Nat}{l:List Value}(h:l.all Z4=true):LRel ρ n l l:=by
 refine⟨rfl,λi v c hv hc=>?_⟩
 grind [osj,Wv,List.all_eq_true,List.mem_of_getElem?]
theorem VX {ρ:Plc}{n:Nat}{v:Value}(h:VV v=true):VRel ρ n v v:=by
 unfold VV at h;split at h
 .rename_i cs;have:=VRel.q1m (Xw (ρ:=ρ) (n:=n) h);simpa using this
 .rename_i cs;have:=VRel.q0i (Xw (ρ:=ρ) (n:=n) h);simpa using this
 .exact Wv h
theorem JO {ρ:Plc}{n:Nat}:VRel ρ n undef undef:=VX rfl
theorem Wt {ρ:Plc}{n:Nat}{env:Env}{a:Act}(h:LRel ρ n env a.tmps.toList) {x:Operand}(hx:Xv x=true):VRel ρ n (Q4 env x) (a.eval x):=by
 cases x with
 |tmp t =>
  simp only[Q4,Act.eval];have e:List.length env=a.tmps.size:=by have:=h.1;omega
  rcases zm t (List.length env) with ht|ht
  .have ph:t<a.tmps.size:=by rw[<-e];exact ht
   have:=h.2 t env[t] a.tmps[t] (z9 ht) (by simp[ph]);simp_all
  .grind [Nat.not_lt,List.getElem?_eq_none,JO]
 |const v=>exact VX hx
 |global g=>exact .glob g 0 0
 |func f=>exact .func _ #[] #[] #[] #[] rfl rfl (λi h1=>by simp at h1) (λi h1=>by simp at h1)
theorem TC {ρ:Plc}{w w':World}(hl:Like ρ w w') {i:Nat}{p:Pl}(hp:ρ i=some p) (o:Nat):w'.cell? ⟨p.blk,o,none⟩=w.cell? ⟨p.blk,o,none⟩ :=
 World.cell?_of_block (a:=⟨p.blk,o,none⟩) (hl.blk i p hp)
section
variable {P:Program}{ρ:Plc}{U:Heap}{w:World}
theorem Up {t:TypeId}{d:TypeDesc}(h:P.underlying t=some d) (w:World):(isAgg t).run P w=.ok (Nk d) w:=by cases d<;>simp[isAgg,run_underlying h,Nk]
theorem Qc {t:TypeId}{i:TypeInfo}(h:P.info? t=some i) (w:World):(sizeOf t).run P w=.ok i.size w:=by simp[sizeOf,run_typeInfo w h]
theorem XX (b o n:Nat):(⟨b,o,none⟩:Addr).add n=⟨b,o+n,none⟩:=by unfold Addr.add;split<;>simp_all
theorem O6 (hH:HRel ρ U w) {t:TypeId}{ti:TypeInfo}{d:TypeDesc}(h1:P.info? t=some ti) (h2:P.underlying t=some d) {i o:Nat}{c:List Value}{esz:El}{wr tight:Bool}{v x:Value}
  (hb:U.get i=some (.cells c esz wr tight)) (hv:Wn (Nk d) ti.size c o=some v) (hx:VRel ρ U.n (.pointer (some ⟨i,o,none⟩)) x) :
  ∃ u,VRel ρ U.n v u/\∀ w',Like ρ w w'->(Instr.loadAt t x).run P w'=.ok u w':=by
 obtain⟨p,hp,_,_,_,_,h5,_⟩:=hH.live i _ hb;obtain⟨_,_,rfl⟩:=hx.q0w hp;unfold Wn at hv;cases eE:Nk d with
 |false =>
  simp[eE] at hv;obtain⟨u,hu,cC⟩:=h5 o v hv;refine⟨u,cC,λw' hl=>?_⟩;have:w'.cell? ⟨p.blk,p.shift+o,none⟩=some u:=by rw[TC hl hp];exact hu
  simp[Instr.loadAt,Instr.sureAddr,loadVar,Up h2,eE,this]
 |true =>
  simp only[eE,zz] at hv;split at hv
  .rename_i hlen;simp at hv;subst hv;have hex:∃ us:List Value,us.length=ti.size/\∀ k,k<ti.size->∃ u,us[k]?=some u/\w.cell? ⟨p.blk,p.shift+o+k,none⟩=some u/\∀ v,c[o+k]?=some v->VRel ρ U.n v u:=by
    refine⟨(List.range ti.size).map λk=>(w.cell? ⟨p.blk,p.shift+o+k,none⟩).getD undef,by simp,λk hk=>?_⟩;obtain⟨u,hu,cC⟩:=h5 (o+k) _ (z9 (by omega))
    grind
   obtain⟨us,sC,ef⟩:=hex;refine⟨.agg us.toArray,VRel.q1m ⟨by simp;omega,λk v u hk hu=>?_⟩,λw' hl=>?_⟩
   .grind
   .have cR:∀ j v,us[j]?=some v->w'.cell? ((⟨p.blk,p.shift+o,none⟩:Addr).add j)=some v:=λj v hj=>by
     have cq:j<ti.size:=by grind
     obtain⟨u',de,c_,_⟩:=ef j cq;rw[hj] at de;obtain rfl:=osj de;rw[XX,TC hl hp];exact c_
    have:=run_loadCells_list (P:=P) w' ⟨p.blk,p.shift+o,none⟩ us cR;rw[sC] at this;simp[Instr.loadAt,Instr.sureAddr,loadVar,Up h2,eE,Qc h1,this]
  .cases hv
theorem Eu (hH:HRel ρ U w) {t:TypeId}{ti:TypeInfo}{d:TypeDesc}(h1:P.info? t=some ti) (h2:P.underlying t=some d) {g o s:Nat}{c:List Value}{v x:Value}
  (hb:Q4a g=some c) (aU:c.all Z4=true) (hv:Wn (Nk d) ti.size c o=some v) (hx:VRel ρ U.n (.pointer (some ⟨g,o,some s⟩)) x) :
  ∃ u,VRel ρ U.n v u/\∀ w',Like ρ w w'->(Instr.loadAt t x).run P w'=.ok u w':=by
 obtain⟨⟨e,f,hw⟩,_⟩:=hH.tab g c hb;obtain rfl:x=.pointer (some ⟨g,o,none⟩):=by cases hx;rfl
 have bD:∀ w',Like ρ w w'->∀ k,w'.cell? ⟨g,k,none⟩=c[k]?:=λw' hl k=>by have:=hl.tab g c hb;simp[World.cell?,this,hw]
 unfold Wn at hv;cases eE:Nk d with
 |false =>
  simp[eE] at hv;refine⟨v,Wv (by grind),λw' hl=>?_⟩;have:w'.cell? ⟨g,o,none⟩=some v:=by rw[bD w' hl];exact hv
  simp[Instr.loadAt,Instr.sureAddr,loadVar,Up h2,eE,this]
 |true =>
  simp only[eE,zz] at hv;split at hv
  .rename_i hlen;simp at hv;subst hv;have hall:((c.drop o).take ti.size).all Z4=true:=(by grind);refine⟨_,VRel.q1m (Xw hall),λw' hl=>?_⟩;have cR:∀ j v,((c.drop o).take ti.size)[j]?=some v->w'.cell? ((⟨g,o,none⟩:Addr).add j)=some v:=(by grind [XX]);have:=run_loadCells_list (P:=P) w' ⟨g,o,none⟩ _ cR;have bW:((c.drop o).take ti.size).length=ti.size:=by grind
   rw[bW] at this;simp[Instr.loadAt,Instr.sureAddr,loadVar,Up h2,eE,Qc h1,this]
  .cases hv
theorem Iw {t:TypeId}{ti:TypeInfo}{d:TypeDesc}(h1:P.info? t=some ti) (h2:P.underlying t=some d) {cs ds:Array Value}{o:Nat}{v:Value}{n:Nat}
  (hv:Wn (Nk d) ti.size cs.toList o=some v) (hl:LRel ρ n cs.toList ds.toList):∃ u,VRel ρ n v u/\∀ w',(part t ds o).run P w'=.ok u w':=by
 unfold Wn at hv;cases eE:Nk d with
 |false =>
  simp only[eE,zw,if_false] at hv;obtain⟨u,hu,cC⟩:=hl.get hv;refine⟨u,cC,λw'=>?_⟩;have:ds[o]?=some u:=by simpa using hu
  simp[part,Up h2,eE,this]
 |true =>
  simp only[eE,zz] at hv;split at hv
  .rename_i hlen;simp at hv;subst hv;refine⟨.agg (ds.extract o (o+ti.size)),?_,λw'=>by simp[part,Up h2,eE,Qc h1]⟩;have:LRel ρ n ((cs.toList.drop o).take ti.size) ((ds.toList.drop o).take ti.size):=by
    refine⟨by have:=hl.1;simp at this |-;omega,λk v u hk hu=>?_⟩;rw[xA] at hk hu;split at hk
    .rename_i cB;rw[z6 cB,zX] at hu;rw[zX] at hk;exact hl.2 _ v u hk hu
    .cases hk
   have h3:=VRel.q1m this;have h4:((ds.toList.drop o).take ti.size).toArray=ds.extract o (o+ti.size):=by
    grind
   rwa [h4] at h3
  .cases hv
end
end Go.V
namespace Go.V
open Go
theorem HC {ρ:Plc}{n:Nat}{v c:Value}{vs:List Value}(h:KP v=some vs) (hv:VRel ρ n v c):LRel ρ n vs c.cells.toList:=by
 unfold KP at h;split at h
 .obtain⟨ds,rfl,hl⟩:=hv.q1l;simp at h;subst h;exact hl
 .cases h
 .cases h
 .rename_i h1 h2 h3;simp at h;subst h;have hc:c.cells.toList=[c]:=by
   cases hv<;>first|rfl|(exact absurd rfl (h1 _))|(exact absurd rfl (h2 _))|(exact absurd rfl (h3 _))
  rw[hc];exact LRel.cons hv (LRel.nil _ _)
theorem O_ (off:Nat):∀ (vs:List Value) (k:Nat) (cells:Array Value),
  (((vs.zipIdx k).foldl (λ(cs:Array Value) (p:Value×Nat)=>cs.setIfInBounds (off+p.2) p.1) cells)).toList=XG cells.toList (off+k) vs:=by
 intro vs;induction vs with
 |nil=>intro k cells;rfl
 |cons v r ih =>intro k cells;simp only[List.zipIdx_cons,wj];rw[ih,XG];simp[zC]
theorem Q5t {ρ:Plc}{n:Nat}:∀ (vs us c d:List Value) (o:Nat),LRel ρ n c d->LRel ρ n vs us->LRel ρ n (XG c o vs) (XG d o us):=by
 intro vs;induction vs with
 |nil=>intro us c d o hc hv;cases us with
  |nil=>exact hc
  |cons _ _=>have:=hv.1;simp at this
 |cons v r ih =>
  intro us c d o hc hv;cases us with
  |nil=>have:=hv.1;simp at this
  |cons u us =>rw[XG,XG];have h0:VRel ρ n v u:=hv.2 0 v u rfl rfl;have hr:LRel ρ n r us:=⟨by have:=hv.1;simpa using this,λi a b ha hb=>hv.2 (i+1) a b (by simpa using ha) (by simpa using hb)⟩;exact ih us _ _ _ (hc.set o h0) hr
theorem CY {ρ:Plc}{n:Nat}(place:Nat->Option (Nat×Nat)):∀ (l:List (Nat×Nat×Value)) (l':List (Nat×Value)) (c c':List Value) (cells:Array Value),
  l.length=l'.length->(∀ (k:Nat) (a:Nat×Nat×Value) (b:Nat×Value),l[k]?=some a->l'[k]?=some b->place b.1=some (a.1,a.2.1)/\VRel ρ n a.2.2 b.2) ->
  M9 c l=some c'->LRel ρ n c cells.toList->∃ bt,Instr.fill place cells l'=some bt/\LRel ρ n c' bt.toList:=by
 intro l;induction l with
 |nil =>
  intro l' c c' cells hl _ hf hc;cases l' with
  |nil=>simp[M9] at hf;subst hf;exact⟨cells,rfl,hc⟩
  |cons _ _=>simp at hl
 |cons a r ih =>
  intro l' c c' cells hl hk hf hc;cases l' with
  |nil=>simp at hl
  |cons b r' =>
   obtain⟨o,s,v⟩:=a;obtain⟨j,u⟩:=b;obtain⟨hp,hv⟩:=hk 0 _ _ rfl rfl;simp only at hp hv;simp only[M9] at hf;split at hf
   .rename_i vs b8;split at hf
    .rename_i af;obtain⟨hs,hle⟩:=af;have dS:=HC b8 hv;have az:u.cells.size=s:=by have:=dS.1;simp at this;omega
     have hlen:cells.size=c.length:=by have:=hc.1;simp at this;omega
     obtain⟨bt,h1,h2⟩:=ih r' (XG c o vs) c' (u.cells.zipIdx.foldl (λcs (c,j)=>cs.setIfInBounds (o+j) c) cells) (by simpa using hl)
      (λk a b ha hb=>hk (k+1) a b (by simpa using ha) (by simpa using hb)) hf (by
       have:=O_ o u.cells.toList 0 cells;rw[<-Array.foldl_toList,Array.toList_zipIdx];rw[show (o+0)=o from rfl] at this;refine Eq.subst (motive:=λx=>LRel ρ n (XG c o vs) x) this.symm ?_;exact Q5t _ _ _ _ _ hc dS)
     refine⟨bt,?_,h2⟩;simp only[Instr.fill,hp];simp_all
    .cases hf
   .cases hf
theorem CL {ρ:Plc}{n:Nat}{env:Env}{ev:Operand->Value}(hE:∀ x,Xv x=true->VRel ρ n (Q4 env x) (ev x)) {l:List Operand}(h:l.all Xv=true):LRel ρ n (l.map (Q4 env)) (l.map ev):=by
 refine⟨by simp,λi v c hv hc=>?_⟩
 grind
theorem Q0 {P:Program}{t:TypeId}{d:TypeDesc}(h:P.underlying t=some d) (w:World):(underlying t).run P w=.ok d w:=run_underlying h w
def AI (P:Program) (ρ:Plc) (U:Heap) (w:World) (v:Value) (s:Sem Next):Prop :=
 ∃ c,VRel ρ U.n v c/\∀ w',Like ρ w w'->s.run P w'=.ok (.value c) w'
theorem Wx {α β:Type}(f:α->Option β):∀ (l:List α) (r:List β),l.mapM f=some r->r.length=l.length/\∀ (i:Nat) (a:α),l[i]?=some a->∃ b,r[i]?=some b/\f a=some b:=by
 intro l;induction l with
 |nil=>intro r h;simp at h;subst h;exact⟨rfl,λi a h=>by simp at h⟩
 |cons a l ih =>
  intro r h;rw[xg] at h;cases hf:f a with
  |none=>simp[hf] at h
  |some b =>
   cases hm:l.mapM f with
   |none=>simp[hf,hm] at h
   |some r' =>
    simp[hf,hm] at h;subst h;obtain⟨h1,h2⟩:=ih r' hm;refine⟨by simp[h1],λi x hx=>?_⟩;cases i with
    |zero=>simp at hx;subst hx;exact⟨b,rfl,hf⟩
    |succ i=>simp at hx;simpa using h2 i x hx
theorem Q4o {P:Program}{α β:Type}(g:α->Sem β) (f:α->β) (w:World):∀ (l:List α),(∀ a∈l,(g a).run P w=.ok (f a) w)->(l.mapM g).run P w=.ok (l.map f) w:=by
 intro l;induction l with
 |nil=>intro _;rfl
 |cons a l ih =>intro h;rw[xg];simp[h a (by simp),ih (λb hb=>h b (by simp[hb]))]
theorem Yg {P:Program}{t:TypeId}{z:List Value}(h:zeroOf P t=some z):∃ i zv,P.info? t=some i/\i.zero=some zv/\zv.cells.toList=z/\z.length=i.size/\z.all Z4=true:=by
 unfold zeroOf at h;cases hi:P.info? t with
 |none=>simp[hi] at h
 |some i =>
  cases hz:i.zero with
  |none=>simp[hi,hz] at h
  |some zv =>simp[hi,hz] at h;obtain⟨h1,h2⟩:=h;subst h2;exact(by grind)
theorem Zl {P:Program}{t:TypeId}{i:TypeInfo}{zv:Value}(h:P.info? t=some i) (hz:i.zero=some zv) (w:World):(zeroValue t).run P w=.ok zv w:=by simp[zeroValue,run_typeInfo w h,hz]
section
variable {P:Program}{ρ:Plc}{U U':Heap}{w:World}{ev:Operand->Value}{env:Env}{v:Value}
theorem Qm {s:Sem Next}{v c:Value}(h:∀ w',s.run P w'=.ok (.value c) w') (hc:VRel ρ U.n v c):AI P ρ U w v s:=⟨c,hc,λw' _=>h w'⟩
theorem Mr (op:BinOp) (t:TypeId) (x y:Operand) (yt:TypeId) (ty:TypeId) (pos:String) (after:Array Edge) (dst:Option Tmp) (g:Option (Nat×Bool)) {v c a b:Value}(hx:ev x=a) (hy:ev y=b)
  (rp:(∃ k n k' n',a=.int k n/\b=.int k' n')\/(∃ s s',a=.string s/\b=.string s')\/(∃ s s',a=.bool s/\b=.bool s'))
  (h:∀ w',(binOp op t a b).run P w'=.ok c w') (hc:VRel ρ U.n v c):AI P ρ U w v (execOp ev ⟨dst,.binOp op t x y yt,ty,pos,after,g⟩):=by
 refine Qm (c:=c) (λw'=>?_) hc;have he:∀ w',(eqGuard op t x y a b).run P w'=.ok () w':=λw'=>by rcases rp with⟨k,n,k',n',rfl,rfl⟩|⟨s,s',rfl,rfl⟩|⟨s,s',rfl,rfl⟩<;>(unfold eqGuard;cases op<;>simp)
 simp only[execOp,hx,hy];simp[he,h]
theorem PL {t:TypeId}(h:P.underlying t=some .bool) (a b:Bool) (d:Nat) (w:World):(Op.equalIn (d+1) t (.bool a) (.bool b)).run P w=.ok (a==b) w:=by simp only[Op.equalIn,zx,Q0 h,zh,xn]
theorem SF {t:TypeId}(h:P.underlying t=some .bool) (a b:Bool) (w:World):(Op.equal t (.bool a) (.bool b)).run P w=.ok (a==b) w :=
 PL h a b 9999 w
theorem VRel.q1i {n:Nat}{i o:Nat}{c:Value}(h:VRel ρ n (.pointer (some ⟨i,o,none⟩)) c):∃ a:Addr,c=.pointer (some a)/\i<n/\∀ p,ρ i=some p->a=⟨p.blk,p.shift+o,none⟩:=by
 cases h with
 |ptr _ _ a hi h=>exact⟨a,rfl,hi,h⟩
theorem VRel.q1c {n:Nat}{i o len cap:Nat}{c:Value}(h:VRel ρ n (.slice (some ⟨i,o,none⟩) len cap) c):∃ (a:Addr) (ao:Nat),c=.slice (some a) len ao/\i<n /\
  ∀ p,ρ i=some p->cap<=ao/\(p.tight=true->ao=cap)/\(ao=0/\len=0\/∃ o',a=⟨p.blk,p.shift+o',none⟩/\o'+ao*p.esz.sz<=p.ext/\(o'=o\/(len=0/\cap=0))):=by
 cases h with
 |sl _ _ _ _ a ao hi h=>exact⟨a,ao,rfl,hi,h⟩
theorem VRel.q2h {n:Nat}{i o len cap:Nat}{c:Value}(h:VRel ρ n (.slice (some ⟨i,o,some 0⟩) len cap) c):∃ a:Addr,c=.slice (some a) len cap/\i<n/\(∀ p,ρ i=some p->a=⟨p.blk,p.shift+o,none⟩/\o+cap*p.esz.sz<=p.ext)/\VRel ρ n (.slice (some ⟨i,o,none⟩) len cap) c:=by
 cases h with
 |slx _ _ _ _ a hi h=>exact⟨a,rfl,hi,h,.sl _ _ _ _ _ _ hi (by simp_all)⟩
theorem VRel.q1t {n:Nat}{a:Option Addr}{len cap:Nat}{c:Value}(h:VRel ρ n (.slice a len cap) c):∃ a' ao,c=.slice a' len ao:=by
 cases h with
 |sl _ _ _ _ a ao hi h=>exact⟨_,ao,rfl⟩
 |slx _ _ _ _ a hi h=>exact⟨_,_,rfl⟩
 |nilSl=>exact⟨_,_,rfl⟩
theorem Yb {op:Option Operand}{d l:Nat}(hE:∀ x,Xv x=true->VRel ρ U.n (Q4 env x) (ev x)) (ak:∀ x,op=some x->Xv x=true) (h:Jg (Q4 env) op d=some l) :
  (op=none/\l=d)\/∃ x k i,op=some x/\ev x=.int k i/\0<=i/\l=i.toNat:=by
 cases op with
 |none=>simp[Jg] at h;exact .inl ⟨rfl,h.symm⟩
 |some x =>
  have hr:=hE x (ak x rfl);simp only[Jg] at h;split at h
  .rename_i k i heq;rw[heq] at hr;split at h
   .rename_i hi;simp at h;exact .inr ⟨x,k,i,rfl,hr.q0g,hi,h.symm⟩
   .cases h
  .cases h
theorem Zj (k:IntKind) (i:Int) (y:Nat) (code:BoundsCode) (h:0<=i) (h':i.toNat<=y) (w:World):(Instr.sliceBound (.int k i) y code).run P w=.ok i.toNat w:=by
 have:i<=y:=by omega
 simp[Instr.sliceBound,asIntOf,h,this]
theorem Kv {lo hi:Option Operand}{isSlice:Bool}{n cap l h:Nat}(pj:(lo=none/\l=0)\/∃ x k i,lo=some x/\ev x=.int k i/\0<=i/\l=i.toNat)
  (kn:(hi=none/\h=n)\/∃ x k i,hi=some x/\ev x=.int k i/\0<=i/\h=i.toNat) (h1:l<=h) (h2:h<=cap) (w:World) :
  (Instr.sliceBounds isSlice n cap (lo.map ev) (hi.map ev) none).run P w=.ok (l,h,cap) w:=by
 rcases pj with⟨rfl,rfl⟩|⟨x,k,i,rfl,hx,oC,rfl⟩<;>rcases kn with⟨rfl,rfl⟩|⟨y,k',i',rfl,hy,fb,rfl⟩
 .simp[Instr.sliceBounds]
 .simp[Instr.sliceBounds,hy,Zj k' i' _ _ fb h2]
 .simp[Instr.sliceBounds,hx,Zj k i _ _ oC h1]
 .simp[Instr.sliceBounds,hx,hy,Zj k i _ _ oC h1,Zj k' i' _ _ fb h2]
set_option maxHeartbeats 1000000 in
theorem FO {o:Oper}{vo:VOp}(hc:Us P o.op = some vo) (hq:vo.quiet = true) (hH:HRel ρ U w) (hE:∀ x, Xv x = true -> VRel ρ U.n (Q4 env x) (ev x))
    (h:Q7 vo (Q4 env) U = some (v, U')):U' = U /\ AI P ρ U w v (execOp ev o):=by
  obtain ⟨dst, op, ty, pos, after, guard⟩:=o;simp only at hc;unfold Us at hc;split at hc
  . cases hc
  rename_i ak;simp only [xk, z_] at ak;cases op <;> simp only [Op.operands] at ak hc
  case move x =>
    have hx:=hE x (by simpa using ak);simp at hc; subst hc;simp [Q7] at h;obtain ⟨rfl, rfl⟩:=h;exact ⟨rfl, Qm (λw' => by simp [execOp]) hx⟩
  case assign x =>
    have hx:=hE x (by simpa using ak);simp at hc; subst hc;simp [Q7] at h;obtain ⟨rfl, rfl⟩:=h;exact ⟨rfl, Qm (λw' => by simp [execOp]) hx⟩
  case pick c a b =>
    simp at ak;have hx:=hE c ak.1;have ha:=hE a ak.2.1;have hb:=hE b ak.2.2;simp at hc; subst hc;simp only [Q7] at h;split at h
    . rename_i t heq
      rw [heq] at hx;simp at h;obtain ⟨h1, rfl⟩:=h;refine ⟨rfl, Qm (c:=if t then ev a else ev b) (λw' => by simp [execOp, hx.q1d, asBool]) ?_⟩;rw [<- h1]; split <;> assumption
    . cases h
  case binOp iO t x y yt =>
    simp at ak;have hx:=hE x ak.1;have hy:=hE y ak.2;split at hc
    .
      cases iO <;> simp at hc <;> subst hc <;> simp only [Q7] at h <;> split at h <;> first
        | (cases h; done)
        | (rename_i k a k' b h1 h2
           rw [h1] at hx; rw [h2] at hy;have ex:=hx.q0g;have ey:=hy.q0g;split at h
           . rename_i af
             simp at h; obtain ⟨rfl, rfl⟩:=h;refine ⟨rfl, ?_⟩
             first
              | refine Mr _ t x y yt ty pos after dst guard ex ey (.inl ⟨_, _, _, _, rfl, rfl⟩) (λw' => ?_) (VRel.int _ _)
              | refine Mr _ t x y yt ty pos after dst guard ex ey (.inl ⟨_, _, _, _, rfl, rfl⟩) (λw' => ?_) (VRel.bool _)
             first
              | (obtain rfl:=af; simp [binOp, Op.intArith, P4]; done)
              | (obtain ⟨rfl, pn⟩:=af; simp [binOp, Op.intDiv, Q9i, pn]; done)
              | (obtain rfl:=af; simp [binOp, Op.intBits, QM]; done)
              | (obtain rfl:=af; simp [binOp, Op.intCmp, Z1n]; done)
              | (simp [binOp, Op.shift, P8, Int.not_lt.2 af, Nat.min_def]; done)
           . cases h)
    .
      simp at hc; subst hc;simp only [Q7] at h;split at h
      . rename_i a b h1 h2
        rw [h1] at hx; rw [h2] at hy;have ex:=hx.q0o;have ey:=hy.q0o
        cases iO <;> simp only at h <;> first
          | (cases h; done)
          | (split at h
             . rename_i aI
               simp at h; obtain ⟨rfl, rfl⟩:=h;refine ⟨rfl, Mr _ t x y yt ty pos after dst guard ex ey (.inr (.inl ⟨_, _, rfl, rfl⟩)) (c:=.string (a ++ b)) (λw' => ?_) (VRel.string _)⟩;have:¬ (((a.size + b.size:Nat):Int) > IntKind.i64.max):=by
                 have:IntKind.i64.max = 9223372036854775807:=by decide
                 omega
               simp only [binOp, Op.stringOp, z0 this]; rfl
             . cases h)
          | (simp at h; obtain ⟨rfl, rfl⟩:=h
             exact ⟨rfl, Mr _ t x y yt ty pos after dst guard ex ey (.inr (.inl ⟨_, _, rfl, rfl⟩)) (λw' => by simp [binOp, Op.stringOp, ByteArray.toList_eq]) (VRel.bool _)⟩)
      . cases h
    .
      rename_i po
      cases iO <;> simp at hc <;> subst hc <;> simp only [Q7] at h <;> split at h <;> first
        | (cases h; done)
        | (rename_i a b h1 h2
           rw [h1] at hx; rw [h2] at hy;have ex:=hx.q1d;have ey:=hy.q1d;simp at h; obtain ⟨rfl, rfl⟩:=h;refine ⟨rfl, Mr _ t x y yt ty pos after dst guard ex ey (.inr (.inr ⟨_, _, rfl, rfl⟩)) (λw' => ?_) (VRel.bool _)⟩;simp [binOp, SF po])
    . cases hc
  case unOp vi t x =>
    have hx:=hE x (by simpa using ak);simp at hc; subst hc;simp only [Q7] at h
    split at h <;> first
      | (cases h; done)
      | (rename_i h1; rw [h1] at hx; simp at h; obtain ⟨rfl, rfl⟩:=h
         refine ⟨rfl, ?_⟩
         first
          | (have e:=hx.q1d; refine Qm (λw' => ?_) (VRel.bool _); simp [execOp, e, Op.unary]; done)
          | (have e:=hx.q0g; refine Qm (λw' => ?_) (VRel.int _ _); simp [execOp, e, Op.unary, Op.intArith]; done)
          | (have e:=hx.q0g; refine Qm (λw' => ?_) (VRel.int _ _); simp [execOp, e, Op.unary, Op.intBits, QM]; done))
  case convert s d x =>
    have hx:=hE x (by simpa using ak);split at hc
    . rename_i k0 k hs hd
      simp at hc; subst hc;simp only [Q7] at h;split at h
      . rename_i h1; rw [h1] at hx; simp at h; obtain ⟨rfl, rfl⟩:=h
        exact ⟨rfl, Qm (λw' => by simp [execOp, hx.q0g, convert, Q0 hs, Q0 hd, Conv.intToInt]) (VRel.int _ _)⟩
      . cases h
    . rename_i hs hd
      simp at hc; subst hc;simp only [Q7] at h;split at h
      . rename_i h1; rw [h1] at hx; simp at h; obtain ⟨rfl, rfl⟩:=h
        exact ⟨rfl, Qm (λw' => by simp [execOp, hx.q0o, convert, Q0 hs, Q0 hd]) (VRel.string _)⟩
      . cases h
    . cases hc
  case alloc t =>
    cases hz:zeroOf P t <;> simp [hz] at hc;subst hc; cases hq
  case box t x => simp at hc; subst hc; cases hq
  case buildSlice t len parts =>
    split at hc
    . rename_i e _
      cases hz:zeroOf P e with
      | none => simp [hz] at hc
      | some z =>
        simp only [hz, zE, xl] at hc;split at hc
        . cases hc
        . simp at hc; subst hc; cases hq
    . cases hc
  case store t a x =>
    cases hi:P.info? t <;> simp [hi] at hc;subst hc; cases hq
  case makeSlice t l c =>
    split at hc
    . rename_i e _
      cases hi:P.info? e with
      | none => simp [hi] at hc
      | some ei =>
        cases hz:zeroOf P e with
        | none => simp [hi, hz] at hc
        | some z =>
          simp only [hi, hz, zE, xl] at hc;split at hc
          . cases hc
          . simp at hc; subst hc; cases hq
    . cases hc
  case load t a =>
    have ha:=hE a (by simpa using ak);cases hi:P.info? t with
    | none => simp [hi] at hc
    | some ti =>
      cases hu:P.underlying t with
      | none => simp [hi, hu] at hc
      | some d =>
        simp [hi, hu] at hc; subst hc;simp only [Q7] at h;split at h
        . rename_i g o s h1
          rw [h1] at ha;split at h
          . rename_i c hb
            split at h
            . rename_i hall
              split at h
              . rename_i v0 hv
                simp at h; obtain ⟨rfl, rfl⟩:=h;obtain ⟨u, cC, hr⟩:=Eu hH hi hu hb hall hv ha;exact ⟨rfl, u, cC, λw' hl => by simp [execOp, hr w' hl]⟩
              . cases h
            . cases h
          . cases h
        . rename_i i o h1
          rw [h1] at ha;split at h
          . rename_i c esz wr tight hb
            split at h
            . rename_i v0 hv
              simp at h; obtain ⟨rfl, rfl⟩:=h;obtain ⟨u, cC, hr⟩:=O6 hH hi hu hb hv ha;exact ⟨rfl, u, cC, λw' hl => by simp [execOp, hr w' hl]⟩
            . cases h
          . cases h
        . cases h
  case fieldAddr t a f =>
    have ha:=hE a (by simpa using ak);cases hf:Ho P t f with
    | none => simp [hf] at hc
    | some fd =>
      cases hi:P.info? fd.type with
      | none => simp [hf, hi] at hc
      | some fi =>
        simp only [hf, hi, zE, xl] at hc;split at hc
        . cases hc
        . rename_i aI
          simp at hc; subst hc;simp only [Q7] at h;split at h
          . rename_i i o h1
            rw [h1] at ha;simp at h; obtain ⟨rfl, rfl⟩:=h;unfold Ho at hf;split at hf
            . rename_i fs hu
              simp at aI;obtain ⟨ad, heq, aO, aU⟩:=ha.q1i;cases hρ:ρ i with
              | none =>refine ⟨rfl, .pointer (some (ad.add fd.offset)), .ptr _ _ _ aO (by simp_all), λw' _ => ?_⟩;simp [execOp, heq, Instr.fieldAt, Q0 hu, hf, Instr.sureAddr, fieldPlace, Qc hi, aI]
              | some p =>obtain rfl:=aU p hρ;refine ⟨rfl, .pointer (some ⟨p.blk, p.shift + (o + fd.offset), none⟩), .ptr _ _ _ aO (by simp_all), λw' _ => ?_⟩;simp [execOp, heq, Instr.fieldAt, Q0 hu, hf, Instr.sureAddr, fieldPlace, Qc hi, aI, XX, zC]
            . cases hf
          . cases h
  case field t x f =>
    have hx:=hE x (by simpa using ak);cases hf:Ho P t f with
    | none => simp [hf] at hc
    | some fd =>
      cases hi:P.info? fd.type with
      | none => simp [hf, hi] at hc
      | some fi =>
        cases hu:P.underlying fd.type with
        | none => simp [hf, hi, hu] at hc
        | some d =>
          simp [hf, hi, hu] at hc; subst hc;simp only [Q7] at h;split at h
          . rename_i cs h1
            rw [h1] at hx;obtain ⟨ds, hds, hl⟩:=hx.q1l;split at h
            . rename_i v0 hv
              simp at h; obtain ⟨rfl, rfl⟩:=h;obtain ⟨u, cC, hr⟩:=Iw hi hu hv hl;unfold Ho at hf;split at hf
              . rename_i fs pq
                exact ⟨rfl, u, cC, λw' _ => by simp [execOp, hds, Instr.field, Q0 pq, hf, asAgg, hr]⟩
              . cases hf
            . cases h
          . cases h
  case makeFunc fn first cap =>
    rw [Array.toList_append, List.all_append, z8] at ak;cases fn <;> simp at hc;rename_i f;subst hc;simp only [Q7] at h;simp at h; obtain ⟨rfl, rfl⟩:=h;have h1:=CL hE (l:=first.toList) ak.1;have h2:=CL hE (l:=cap.toList) ak.2;refine ⟨rfl, Qm (c:=.func (.func f) (first.map ev) (cap.map ev)) (λw' => by simp [execOp, Instr.makeFunc]) ?_⟩;refine .func _ _ _ _ _ (by simp) (by simp) (λi h3 h4 => ?_) (λi h3 h4 => ?_)
    . simp_all
    simp_all
  case build t parts =>
    cases hz:zeroOf P t with
    | none => simp [hz] at hc
    | some z =>
      obtain ⟨ti, zv, hi, dG, fN, _, iA⟩:=Yg hz;have aU:LRel ρ U.n z zv.cells.toList:=by rw [fN]; exact Xw iA
      have ku:∀ q ∈ parts.toList, Xv q.2 = true:=(by grind);simp only [hz, zE, xl] at hc;split at hc
      . rename_i fs hu
        cases jy:fs.toList.mapM (λf => (P.info? f.type).map λi => (f.offset, i.size)) with
        | none => simp [jy] at hc
        | some places =>
          cases dI:parts.toList.mapM (λq => (places[q.1]?).map λos => (os.1, os.2, q.2)) with
          | none => simp [jy, dI] at hc
          | some ps =>
            simp [jy, dI] at hc; subst hc;simp only [Q7] at h;split at h
            . rename_i cs dT
              simp at h; obtain ⟨rfl, rfl⟩:=h;obtain ⟨ek, gx⟩:=Wx _ _ _ jy;obtain ⟨bW, cU⟩:=Wx _ _ _ dI
              obtain ⟨bt, lX, jz⟩:=CY (ρ:=ρ) (n:=U.n) (λ(i:Nat) => places[i]?) _ ((parts.map λq => (q.1, ev q.2)).toList) z cs zv.cells (by simp [bW])
                (by grind [Array.toList_map, Option.some.injEq, List.mem_of_getElem?]) dT aU
              refine ⟨rfl, .agg bt, by have:=VRel.q1m jz; simpa using this, λw' _ => ?_⟩;have aA:(fs.mapM λ(f:Field) => do pure (f.offset, <- sizeOf f.type)).run P w' = .ok places.toArray w':=by
                rw [Array.mapM_eq_mapM_toList];have oD:∀ f ∈ fs.toList, ((do pure (f.offset, <- sizeOf f.type):Sem (Nat × Nat))).run P w' = .ok (f.offset, ((P.info? f.type).map (·.size)).getD 0) w':=λf hf => by
                  obtain ⟨k, hk⟩:=List.getElem?_of_mem hf;obtain ⟨b, hb, cm⟩:=gx k f hk;cases iP:P.info? f.type with
                  | none => simp [iP] at cm
                  | some fi => simp [Qc iP]
                have:=Q4o (P:=P) _ _ w' fs.toList oD;simp only [Sem.run_map, this, zh];congr 2;apply zS;intro k;rw [xw];cases hk:fs.toList[k]? with
                | none =>
                  have:places.length <= k:=by simp_all
                  simp [zH this]
                | some f =>
                  obtain ⟨b, hb, cm⟩:=gx k f hk;cases iP:P.info? f.type with
                  | none => simp [iP] at cm
                  | some fi => simp [iP] at cm |-; rw [hb, <- cm]
              have gg:(λ(i:Nat) => places.toArray[i]?) = (λ(i:Nat) => places[i]?):=by funext i; simp
              simp only [execOp];simp only [Instr.build, zx, Zl hi dG, zh, Q0 hu, aA];simp_all
            . cases h
      . rename_i n e hu
        cases cg:P.info? e with
        | none => simp [cg] at hc
        | some ei =>
          simp [cg] at hc; subst hc;simp only [Q7] at h;split at h
          . rename_i cs dT
            simp at h; obtain ⟨rfl, rfl⟩:=h
            obtain ⟨bt, lX, jz⟩:=CY (ρ:=ρ) (n:=U.n) (λi => some (i * ei.size, ei.size)) _ ((parts.map λq => (q.1, ev q.2)).toList) z cs zv.cells (by simp)
              (by grind) dT aU
            refine ⟨rfl, .agg bt, by have:=VRel.q1m jz; simpa using this, λw' _ => ?_⟩;simp only [execOp];simp only [Instr.build, zx, Zl hi dG, zh, Q0 hu, Qc cg, lX];rfl
          . cases h
      . cases hc
  case index t x i =>
    simp at ak;have hx:=hE x ak.1;have hi:=hE i ak.2;split at hc
    . rename_i hu
      simp at hc; subst hc;simp only [Q7] at h;split at h
      . rename_i s k n h1 h2
        rw [h1] at hx; rw [h2] at hi;split at h
        . rename_i hn
          split at h
          . rename_i b hb
            simp at h; obtain ⟨rfl, rfl⟩:=h;have cm:s[n.toNat]? = some b:=by rw [<- hb]; simp [getElem?_def]; split <;> rfl
            refine ⟨rfl, Qm (λw' => ?_) (VRel.int _ _)⟩;simp [execOp, hx.q0o, hi.q0g, Instr.index, asIntOf, Q0 hu, hn, cm]
          . cases h
        . cases h
      . cases h
    . rename_i len e hu
      cases cg:P.info? e with
      | none => simp [cg] at hc
      | some ei =>
        cases iQ:P.underlying e with
        | none => simp [cg, iQ] at hc
        | some d =>
          simp [cg, iQ] at hc; subst hc;simp only [Q7] at h;split at h
          . rename_i cs k n h1 h2
            rw [h1] at hx; rw [h2] at hi;obtain ⟨ds, hds, hl⟩:=hx.q1l;split at h
            . rename_i hn
              split at h
              . rename_i v0 hv
                simp at h; obtain ⟨rfl, rfl⟩:=h;obtain ⟨u, cC, hr⟩:=Iw cg iQ hv hl;refine ⟨rfl, u, cC, λw' _ => ?_⟩;simp [execOp, hds, hi.q0g, Instr.index, asIntOf, Q0 hu, hn, Qc cg, hr]
              . cases h
            . cases h
          . cases h
    . cases hc
  case indexAddr t x i =>
    simp at ak;have hx:=hE x ak.1;have hi:=hE i ak.2;split at hc
    . rename_i e hu
      cases cg:P.info? e with
      | none => simp [cg] at hc
      | some ei =>
        simp [cg] at hc; subst hc;simp only [Q7] at h;split at h
        . rename_i b o n cap k j h1 h2
          rw [h1] at hx; rw [h2] at hi;split at h
          . rename_i hj
            simp at h; obtain ⟨rfl, rfl⟩:=h;obtain ⟨a, ao, bc, aO, aU⟩:=hx.q1c;refine ⟨rfl, .pointer (some (a.add (j.toNat * ei.size))), .ptr _ _ _ aO (λp hp => ?_), λw' _ => ?_⟩
            . grind [XX, Nat.add_assoc]
            . simp [execOp, bc, hi.q0g, Instr.indexAt, asIntOf, Q0 hu, hj, Qc cg]
          . cases h
        . cases h
    . rename_i len e hu
      cases cg:P.info? e with
      | none => simp [cg] at hc
      | some ei =>
        simp [cg] at hc; subst hc;simp only [Q7] at h;split at h
        . rename_i g o s k j h1 h2
          rw [h1] at hx; rw [h2] at hi;split at h
          . rename_i hj
            simp at h; obtain ⟨rfl, rfl⟩:=h;have bc:ev x = .pointer (some ⟨g, o, none⟩):=by generalize ev x = c at hx; cases hx; rfl
            refine ⟨rfl, .pointer (some ((⟨g, o, none⟩:Addr).add (j.toNat * ei.size))), by rw [XX]; exact .glob _ _ _, λw' _ => ?_⟩;simp [execOp, bc, hi.q0g, Instr.indexAt, Instr.sureAddr, asIntOf, Q0 hu, hj, Qc cg]
          . cases h
        . rename_i b o k j h1 h2
          rw [h1] at hx; rw [h2] at hi;split at h
          . rename_i hj
            simp at h; obtain ⟨rfl, rfl⟩:=h;obtain ⟨a, bc, aO, aU⟩:=hx.q1i;refine ⟨rfl, .pointer (some (a.add (j.toNat * ei.size))), .ptr _ _ _ aO (λp hp => ?_), λw' _ => ?_⟩
            . grind [XX, Nat.add_assoc]
            . simp [execOp, bc, hi.q0g, Instr.indexAt, Instr.sureAddr, asIntOf, Q0 hu, hj, Qc cg]
          . cases h
        . cases h
    . cases hc
  case slice t x lo hi mx =>
    have ky:Xv x = true:=by simp at ak; exact ak.1
    have fO:∀ y, lo = some y -> Xv y = true:=(by simp_all);have fP:∀ y, hi = some y -> Xv y = true:=λy hy => by subst hy; cases lo <;> simp at ak <;> first | exact ak.2.1 | exact ak.2.2.1 | exact ak.2.2 | exact ak.2
    have hx:=hE x ky;split at hc
    . rename_i e hu
      cases cg:P.info? e with
      | none => simp [cg] at hc
      | some ei =>
        simp [cg] at hc; subst hc;cases mx with
        | some m => simp [VOp.quiet] at hq
        | none =>
          simp only [Q7] at h;split at h
          . rename_i a n cap h1
            rw [h1] at hx;split at h
            . rename_i l hh hl kn _
              have gJ:=Yb hE fO hl;have lY:=Yb hE fP kn;unfold WU at h;split at h
              . rename_i heq
                simp at heq; obtain ⟨rfl, rfl, rfl⟩:=heq;obtain ⟨_, _, bc⟩:=hx.q1k;split at h
                . rename_i af
                  obtain ⟨rfl, rfl, _⟩:=af;simp at h; obtain ⟨rfl, rfl⟩:=h;refine ⟨rfl, Qm (λw' => ?_) VRel.nilSl⟩;have:=Kv (P:=P) (isSlice:=true) (cap:=0) gJ lY (zd _) (zd _) w';simp [execOp, bc, Instr.sliceAt, Instr.slice, Q0 hu, this, Qc cg]
                . cases h
              . rename_i i o n' iR heq
                simp at heq; obtain ⟨rfl, rfl, rfl⟩:=heq;simp only at h;split at h
                . rename_i c esz wr tight hb
                  split at h
                  . rename_i af
                    obtain ⟨mr, pr, sD⟩:=af;simp at h; obtain ⟨rfl, rfl⟩:=h;obtain ⟨ad, ao, bc, aO, aU⟩:=hx.q1c;obtain ⟨p, hp, hB⟩:=hH.live i _ hb;have eF:=(aU p hp).1;have bT:=λw' => Kv (P:=P) (isSlice:=true) (cap:=ao) gJ lY pr (x5 sD eF) w';obtain ⟨-, oE, ⟨lZ, jA⟩ | ⟨o', rfl, dJ, ho⟩⟩:=aU p hp
                    . have bj:ao = l:=by omega
                      refine ⟨rfl, .slice (some ad) (hh - l) (ao - l), .sl _ _ _ _ _ _ aO (λq hq => ⟨by omega, λ_ => by omega, .inl ⟨by omega, by omega⟩⟩), λw' _ => ?_⟩;simp only [execOp, bc, Instr.sliceAt, zx, Q0 hu, zh, Instr.slice, Option.map_none, bT, Qc cg];simp [bj]
                    have dK:p.esz.sz = ei.size:=by rw [hB.1]; exact mr
                    rw [dK] at dJ;refine ⟨rfl, .slice (some (if ao = l then ⟨p.blk, p.shift + o', none⟩ else ⟨p.blk, p.shift + (o' + l * ei.size), none⟩)) (hh - l) (ao - l), .sl _ _ _ _ _ _ aO (λq hq => ?_), λw' _ => ?_⟩
                    . obtain rfl:p = q:=osj (hp.symm.trans hq)
                      refine ⟨by omega, λht => by have:=oE ht; omega, .inr ?_⟩;rw [dK];by_cases cf:ao = l
                      . refine ⟨o', by rw [z6 cf], by rw [cf, wu]; omega, .inr (by omega)⟩
                      . refine ⟨o' + l * ei.size, by rw [z0 cf], ?_, ?_⟩
                        . have:ao = l + (ao - l):=by omega
                          rw [this, zO] at dJ;omega
                        . rcases ho with rfl | ⟨h0, vj⟩
                          . exact .inl rfl
                          . exact .inr (by omega)
                    . simp only [execOp, bc, Instr.sliceAt, zx, Q0 hu, zh, Instr.slice, Option.map_none, bT, Qc cg]
                      by_cases cf:ao = l
                      . simp [cf]
                      . simp [cf, XX, zC]
                  . cases h
                . cases h
              . cases h
            . simp_all
            . cases h
          . cases h
    . rename_i hu
      split at hc
      . rename_i px
        cases mx with
        | some m => simp at px
        | none =>
          simp at hc; subst hc;simp only [Q7] at h;split at h
          . rename_i s h1
            rw [h1] at hx;split at h
            . rename_i l hh hl kn
              have gJ:=Yb hE fO hl;have lY:=Yb hE fP kn;split at h
              . rename_i af
                simp at h; obtain ⟨rfl, rfl⟩:=h;refine ⟨rfl, Qm (λw' => ?_) (VRel.string _)⟩;have:=Kv (P:=P) (isSlice:=false) (cap:=s.size) gJ lY af.1 af.2 w';simp [execOp, hx.q0o, Instr.sliceAt, Instr.slice, Q0 hu, this]
              . cases h
            . cases h
          . cases h
      . cases hc
    . cases hc
  case makeInterface t x =>
    have hx:=hE x (by simpa using ak);cases hu:P.underlying t with
    | none => simp [hu] at hc
    | some d =>
      have iS:∀ ms, d ≠ .interface ms:=λms e => by subst e; simp [hu] at hc
      have c_:vo = .iface t x:=by simp_all
      subst c_;simp only [Q7] at h;split at h
      . cases h
      . simp at h; obtain ⟨rfl, rfl⟩:=h
        refine ⟨rfl, Qm (λw' => ?_) (VRel.iface t _ _ hx)⟩;have:(Instr.makeInterface t (ev x)).run P w' = .ok (.iface t (ev x)) w':=by cases d <;> first | (exact absurd rfl (iS _)) | simp [Instr.makeInterface, Q0 hu]
        simp [execOp, this]
  case extract x i =>
    have hx:=hE x (by simpa using ak);simp at hc; subst hc;simp only [Q7] at h;split at h
    . rename_i vs h1
      rw [h1] at hx;obtain ⟨ds, hds, hl⟩:=hx.q1j;split at h
      . rename_i v0 hv
        simp at h; obtain ⟨rfl, rfl⟩:=h;obtain ⟨u, hu, cC⟩:=hl.get hv;have de:ds[i]? = some u:=by simpa using hu
        exact ⟨rfl, u, cC, λw' _ => by simp [execOp, hds, Instr.extract, de]⟩
      . cases h
    . cases h
  case nilCheck x =>
    have hx:=hE x (by simpa using ak);simp at hc; subst hc;simp only [Q7] at h;split at h
    . rename_i a h1
      rw [h1] at hx;simp at h; obtain ⟨rfl, rfl⟩:=h;have:∃ a', ev x = .pointer (some a'):=by generalize ev x = c at hx;cases hx <;> exact ⟨_, rfl⟩
      obtain ⟨a', jB⟩:=this;exact ⟨rfl, ev x, hx, λw' _ => by simp [execOp, jB]⟩
    . rename_i f first cap h1
      rw [h1] at hx;simp at h; obtain ⟨rfl, rfl⟩:=h;have:∃ g' c', ev x = .func (.func f) g' c':=by generalize ev x = c at hx;cases hx; exact ⟨_, _, rfl⟩
      obtain ⟨g', c', jB⟩:=this;exact ⟨rfl, ev x, hx, λw' _ => by simp [execOp, jB]⟩
    . cases h
  case call c =>
    split at hc
    . simp at hc; subst hc; simp [Q7] at h
    . simp at hc; subst hc; simp [Q7] at h
    . rename_i aG
      split at hc
      . rename_i t x ht aq
        have cD:c.args = #[x]:=by apply Array.ext'; simpa using aq
        have hx:=hE x (by simp [Call.operands, aG, cD] at ak; exact ak);split at hc
        . rename_i hu
          simp at hc; subst hc;simp only [Q7] at h;split at h
          . rename_i s h1
            rw [h1] at hx; simp at h; obtain ⟨rfl, rfl⟩:=h;refine ⟨rfl, Qm (λw' => ?_) (VRel.int _ _)⟩;simp [execOp, resolve, aG, cD, invoke, builtin, Builtin.len_, ht, hx.q0o, Q0 hu, goInt]
          . cases h
        . rename_i e hu
          simp at hc; subst hc;simp only [Q7] at h;split at h
          . rename_i a n cap h1
            rw [h1] at hx; simp at h; obtain ⟨rfl, rfl⟩:=h;obtain ⟨a', ao, bc⟩:=hx.q1t;refine ⟨rfl, Qm (λw' => ?_) (VRel.int _ _)⟩;simp [execOp, resolve, aG, cD, invoke, builtin, Builtin.len_, ht, bc, Q0 hu, goInt]
          . cases h
        . cases hc
      . cases hc
    . rename_i aG
      split at hc
      . rename_i t u s x ht hu aq
        split at hc
        . rename_i e f _ _
          cases hi:P.info? e with
          | none => simp [hi] at hc
          | some ei =>
            cases hz:zeroOf P e with
            | none => simp [hi, hz] at hc
            | some z =>
              simp only [hi, hz, zE, xl] at hc;split at hc
              . cases hc
              . simp at hc; subst hc; cases hq
        . cases hc
      . cases hc
    . rename_i aG
      split at hc
      . rename_i x y aq
        have cD:c.args = #[x, y]:=by apply Array.ext'; simpa using aq
        simp [Call.operands, aG, cD] at ak;have hx:=hE x ak.1;have hy:=hE y ak.2;simp at hc; subst hc;simp only [Q7] at h;split at h
        . rename_i k a k' b h1 h2
          rw [h1] at hx; rw [h2] at hy;split at h
          . simp at h; obtain ⟨rfl, rfl⟩:=h
            refine ⟨rfl, Qm (λw' => ?_) (VRel.int _ _)⟩;simp [execOp, resolve, aG, cD, invoke, builtin, Builtin.max_, Builtin.max2, hx.q0g, hy.q0g]
          . cases h
        . cases h
      . rename_i x y z aq
        have cD:c.args = #[x, y, z]:=by apply Array.ext'; simpa using aq
        simp [Call.operands, aG, cD] at ak;have hx:=hE x ak.1;have hy:=hE y ak.2.1;have hz:=hE z ak.2.2;simp at hc; subst hc;simp only [Q7] at h;split at h
        . rename_i k a k2 b k3 c' k4 d h1 h2 h3 h4
          rw [h1] at hx; rw [h2] at hy; rw [h3] at hz;split at h
          . rename_i hk; obtain ⟨rfl, rfl, rfl⟩:=hk
            simp at h; obtain ⟨rfl, rfl⟩:=h;refine ⟨rfl, Qm (λw' => ?_) (VRel.int _ _)⟩;have sE:=(Value.int.inj (h3.symm.trans h4)).2;subst sE;simp only [Q2k];simp [execOp, resolve, aG, cD, invoke, builtin, Builtin.max_, Builtin.max2, hx.q0g, hy.q0g, hz.q0g, Q0y]
          . cases h
        . cases h
      . rename_i x y z w aq
        have cD:c.args = #[x, y, z, w]:=by apply Array.ext'; simpa using aq
        simp [Call.operands, aG, cD] at ak;have hx:=hE x ak.1;have hy:=hE y ak.2.1;have hz:=hE z ak.2.2.1;have hw:=hE w ak.2.2.2;simp at hc; subst hc;simp only [Q7] at h;split at h
        . rename_i k a k2 b k3 c' k4 d h1 h2 h3 h4
          rw [h1] at hx; rw [h2] at hy; rw [h3] at hz; rw [h4] at hw;split at h
          . rename_i hk; obtain ⟨rfl, rfl, rfl⟩:=hk
            simp at h; obtain ⟨rfl, rfl⟩:=h;refine ⟨rfl, Qm (λw' => ?_) (VRel.int _ _)⟩;simp [execOp, resolve, aG, cD, invoke, builtin, Builtin.max_, Builtin.max2, hx.q0g, hy.q0g, hz.q0g, hw.q0g, Q0y]
          . cases h
        . cases h
      . cases hc
    . rename_i aG
      split at hc
      . rename_i x y aq
        have cD:c.args = #[x, y]:=by apply Array.ext'; simpa using aq
        simp [Call.operands, aG, cD] at ak;have hx:=hE x ak.1;have hy:=hE y ak.2;simp at hc; subst hc;simp only [Q7] at h;split at h
        . rename_i k a k' b h1 h2
          rw [h1] at hx; rw [h2] at hy;split at h
          . simp at h; obtain ⟨rfl, rfl⟩:=h
            refine ⟨rfl, Qm (λw' => ?_) (VRel.int _ _)⟩;simp [execOp, resolve, aG, cD, invoke, builtin, Builtin.min_, Builtin.min2, hx.q0g, hy.q0g]
          . cases h
        . cases h
      . cases hc
    . cases hc
  all_goals (first | (cases hc; done) | (split at hc <;> cases hc; done))
end
end Go.V
namespace Go.V
open Go
section
variable {P:Program}{ρ:Plc}{U U':Heap}{w:World}{ev:Operand->Value}{env:Env}{v:Value}
def Ax (P:Program) (ρ:Plc) (U:Heap) (w:World) (v:Value) (U':Heap) (s:Sem Next):Prop :=
 ∃ c w' ρ',(s.run P w=.ok (.value c) w'\/(s.run P w=.ok .skip w'/\c=undef))/\VRel ρ' U'.n v c/\HRel ρ' U' w'/\Ext ρ U w ρ' U' w'
theorem F3 (z:List Value) (hz:z≠[]):∀ n,(List.range (n*z.length)).map (λi=>z[i % z.length]!)=(List.replicate n z).flatten:=by
 intro n;have bp:0<z.length:=xh.2 hz;induction n with
 |zero=>simp
 |succ n ih =>
  rw[xE,List.flatten_cons,<-ih,Nat.succ_mul,xX,List.range_add,xH,wq];congr 1
  .apply zS
   grind [Nat.mod_eq_of_lt]
  .apply xp;intro i _;simp
theorem U6 (n:Nat) (z:List Value):PW n z=(List.replicate n z).flatten:=by
 unfold PW;split
 .simp_all
 .rfl
theorem Hz (zero:Array Value) (z:List Value) (h:zero.toList=z) (hz:z≠[]) (n:Nat):((Array.range (n*z.length)).map (λi=>zero[i % zero.size]!)).toList=PW n z:=by
 rw[U6,<-F3 z hz n];subst h;simp
 grind
theorem Tv (n:Nat) (z:List Value):(PW n z).length=n*z.length:=by rw[U6];simp_all
theorem Ou (n:Nat) (z:List Value) (h:z.all cellOk=true):(PW n z).all cellOk=true:=by
 grind [U6,List.all_eq_true,List.mem_flatten]
theorem HF (n:Nat) (z:List Value) (h:z.all Z4=true):(PW n z).all Z4=true:=by rw[U6,List.all_flatten];simp[List.all_replicate,h]
theorem Pr {lo:Option Operand}{yh ym:Operand}{n cap l h m:Nat}{kh km:IntKind}{ih im:Int}(pj:(lo=none/\l=0)\/∃ x k i,lo=some x/\ev x=.int k i/\0<=i/\l=i.toNat)
  (iT:ev yh=.int kh ih) (oF:0<=ih) (hh:h=ih.toNat) (iU:ev ym=.int km im) (oG:0<=im) (hm:m=im.toNat) (h1:l<=h) (h2:h<=m) (h3:m<=cap) (w:World) :
  (Instr.sliceBounds true n cap (lo.map ev) ((some yh).map ev) ((some ym).map ev)).run P w=.ok (l,h,m) w:=by
 subst hh;subst hm;rcases pj with⟨rfl,rfl⟩|⟨x,k,i,rfl,hx,oC,rfl⟩
 .simp[Instr.sliceBounds,iT,iU,Zj km im _ _ oG h3,Zj kh ih _ _ oF h2]
 .simp[Instr.sliceBounds,hx,iT,iU,Zj km im _ _ oG h3,Zj kh ih _ _ oF h2,Zj k i _ _ oC h1]
theorem Eh (hH:HRel ρ U w) {c:List Value}{C:Array Value}{esz:El}(hc:LRel ρ U.n c C.toList) {s:Sem Next}
  (hs:s.run P w=.ok (.value (.pointer (some ⟨w.heap.size,0,none⟩))) (w.alloc (.cells C esz.ty))) :
  Ax P ρ U w (.pointer (some ⟨U.n,0,none⟩)) (U.push (.cells c esz true true)) s:=by
 have hl:c.length=C.size:=by have:=hc.1;simpa using this
 obtain⟨ρ',h1,h2,h3⟩:=hH.alloc c C esz.ty esz true rfl (by
  grind [Array.length_toList,List.take_length]) (by omega)
 refine⟨_,_,ρ',.inl hs,.ptr _ _ _ (by simp) (λp hp=>?_),h2,h3⟩;simp_all
theorem TB (hH:HRel ρ U w) {c:List Value}{C:Array Value}{esz:El}{n cap:Nat}(hc:LRel ρ U.n c C.toList) (hn:cap*esz.sz<=C.size) {s:Sem Next}
  (hs:s.run P w=.ok (.value (.slice (some ⟨w.heap.size,0,none⟩) n cap)) (w.alloc (.cells C esz.ty))) :
  Ax P ρ U w (.slice (some ⟨U.n,0,none⟩) n cap) (U.push (.cells c esz true true)) s:=by
 have hl:c.length=C.size:=by have:=hc.1;simpa using this
 obtain⟨ρ',h1,h2,h3⟩:=hH.alloc c C esz.ty esz true rfl (by
  grind [Array.length_toList,List.take_length]) (by omega)
 refine⟨_,_,ρ',.inl hs,.sl _ _ _ _ _ _ (by simp) (λp hp=>?_),h2,h3⟩;simp_all
theorem Lt (hH:HRel ρ U w) {esz n cap:Nat}{a:Option Addr}{xs:List Value}{c:Value}(h:U.sl esz (.slice a n cap)=some xs) (hv:VRel ρ U.n (.slice a n cap) c) :
  xs.length=n*esz/\∃ us:List Value,LRel ρ U.n xs us/\(∃ a' ao,c=.slice a' n ao)/\∀ w',Like ρ w w'->(Builtin.firstCells esz n c).run P w'=.ok us.toArray w':=by
 unfold Heap.sl at h;split at h
 .rename_i heq;simp at heq;obtain⟨rfl,rfl,rfl⟩:=heq;simp at h;subst h;obtain⟨_,_,rfl⟩:=hv.q1k;exact⟨by simp,[],LRel.nil _ _,⟨_,_,rfl⟩,λw' _=>by simp[Builtin.firstCells]⟩
 .rename_i i o n' iR heq;simp at heq;obtain⟨rfl,rfl,rfl⟩:=heq;split at h
  .rename_i c0 e wr tight hb;split at h
   .rename_i af;obtain⟨mr,hlen⟩:=af;simp at h;obtain⟨p,hp,_,_,_,_,h5,_⟩:=hH.live i _ hb;obtain⟨ad,ao,rfl,aO,aU⟩:=hv.q1c;have fp:xs.length=n*esz:=by rw[<-h];simp;omega
    obtain⟨_,_,⟨_,jA⟩|⟨o',rfl,_,ho⟩⟩:=aU p hp
    .subst jA;rw[Nat.zero_mul] at fp;obtain rfl:=xc.1 fp;refine⟨by simp,[],.nil _ _,⟨_,_,rfl⟩,λw' hl=>?_⟩;have:=run_loadCells_list (P:=P) w' ad [] (λj v hj=>by simp at hj);simp only[List.length_nil] at this;simp[Builtin.firstCells,this]
    refine⟨fp,?_⟩;have jC:n*esz=0\/o'=o:=by
     grind
    have hex:∀ k,k<n*esz->∃ u,w.cell? ⟨p.blk,p.shift+o'+k,none⟩=some u/\∀ v,xs[k]?=some v->VRel ρ U.n v u:=λk hk=>by
     have mu:o'=o:=jC.resolve_left (by omega);subst mu;obtain⟨u,hu,cC⟩:=h5 (o'+k) _ (z9 (by omega))
     grind
    let us:List Value:=(List.range (n*esz)).map λk=>(w.cell? ⟨p.blk,p.shift+o'+k,none⟩).getD undef;have mw:us.length=n*esz:=by simp[us]
    have ef:∀ k,k<n*esz->∀ u,w.cell? ⟨p.blk,p.shift+o'+k,none⟩=some u->us[k]?=some u:=λk hk u hu=>by simp[us,hk,hu]
    refine⟨us,⟨by omega,λk v u hk hu=>?_⟩,⟨_,_,rfl⟩,λw' hl=>?_⟩
    .grind
    .have cR:∀ j v,us[j]?=some v->w'.cell? ((⟨p.blk,p.shift+o',none⟩:Addr).add j)=some v:=λj v hj=>by
      have cq:j<n*esz:=by grind
      obtain⟨u',de,_⟩:=hex j cq;rw[ef j cq u' de] at hj;obtain rfl:=osj hj;rw[XX,TC hl hp];exact de
     have:=run_loadCells_list (P:=P) w' ⟨p.blk,p.shift+o',none⟩ us cR;rw[mw] at this;simp[Builtin.firstCells,this]
   .cases h
  .cases h
 .cases h
theorem Q0e (fq aW:Nat) (h:aW<fq):Builtin.nextslicecap fq aW<=2*fq:=by
 unfold Builtin.nextslicecap;split
 .omega
 .split
  .omega
  .have key:∀ r c,c<=2*fq->256<=fq->Builtin.growBy fq r c<=2*fq:=by
    intro r;induction r with
    |zero=>intro c hc _;exact hc
    |succ r ih =>
     intro c hc h2;unfold Builtin.growBy;split
     .exact hc
     .exact ih _ (by omega) h2
   exact key 4 aW (by omega) (by omega)
theorem Q0u {n:Nat}{v c:Value}(h:cellOk v=true) (hv:VRel ρ n v c):c.oneCell'=true:=by cases hv<;>first|rfl|(simp[cellOk,poison] at h)
theorem KB {n:Nat}{vs cs:List Value}(h:vs.all cellOk=true) (hv:LRel ρ n vs cs):∀ c∈cs,c.oneCell'=true:=by
 intro c hc;obtain⟨k,hk⟩:=List.getElem?_of_mem hc;have cB:k<vs.length:=by have:=(zt.1 hk).1;have:=hv.1;omega
 exact Q0u (by simp_all) (hv.2 k _ _ (z9 cB) hk)
theorem Xg {t u e f:TypeId}{ei:TypeInfo}(ht:P.underlying t=some (.slice e)) (hu:P.underlying u=some (.slice f)) (hi:P.info? e=some ei) (ty:TypeId) (base:Option Addr) (n cap m:Nat) (x:Value) (us:List Value)
  (hx:∃ a' ao,x=.slice a' m ao) (fc:(Builtin.firstCells ei.size m x).run P w=.ok us.toArray w) (aV:n+m<=cap) (w':World)
  (aY:(match base with|some a=>storeCells (a.add (n*ei.size)) us|none=>pure ()).run P w=.ok () w') :
  (Builtin.append_ #[t,u] ty #[.slice base n cap,x]).run P w=.ok (.slice base (n+m) cap) w':=by
 obtain⟨a',ao,rfl⟩:=hx;unfold Builtin.append_;cases base with
 |none =>simp at aY;subst aY;simp[Q0 ht,Q0 hu,Qc hi,Builtin.lenOf,aV,fc]
 |some a =>simp at aY;simp[Q0 ht,Q0 hu,Qc hi,Builtin.lenOf,aV,fc,aY]
theorem XO {t u e f:TypeId}{ei:TypeInfo}{zv:Value}(ht:P.underlying t=some (.slice e)) (hu:P.underlying u=some (.slice f)) (hi:P.info? e=some ei) (hz:ei.zero=some zv) (hb:ei.bytes≠0) (ty:TypeId) (base:Option Addr) (n cap m:Nat) (x:Value) (us os:List Value)
  (hx:∃ a' ao,x=.slice a' m ao) (fc:(Builtin.firstCells ei.size m x).run P w.drew=.ok us.toArray w.drew) (gK:(Builtin.firstCells ei.size n (.slice base n cap)).run P w.drew=.ok os.toArray w.drew)
  (aV:¬ n+m<=cap) (aI:(n+m)*ei.bytes<=2 ^ 46) :
  ∃ aX,n+m<=aX/\(Builtin.append_ #[t,u] ty #[.slice base n cap,x]).run P w =
   .ok (.slice (some ⟨w.heap.size,0,none⟩) (n+m) aX) (w.drew.alloc (.cells ((os++us).toArray++Builtin.zeroCells zv.cells (aX-(n+m))) e)):=by
 obtain⟨a',ao,rfl⟩:=hx;refine⟨(Question.appendCap (n+m) cap e).cut (w.tape w.drawn (.appendCap (n+m) cap e)),by simp[Question.cut],?_⟩;have h1:¬ (2 ^ 48<Builtin.nextslicecap (n+m) cap*ei.bytes):=by have:=Q0e (n+m) cap (by omega);have h2:Builtin.nextslicecap (n+m) cap*ei.bytes<=2*(n+m)*ei.bytes:=zu _ this;rw[Nat.mul_assoc] at h2;omega
 have oH:∀ w:World,(typeInfo e).run P w=.ok ei w:=λw=>run_typeInfo w hi;have dG:∀ w:World,(zeroValue e).run P w=.ok zv w:=λw=>Zl hi hz w;unfold Builtin.append_;simp[Q0 ht,Q0 hu,Qc hi,Builtin.lenOf,aV,oH,hb,h1,Question.forced,gK,fc,dG,newRow];congr 2;apply Array.ext';simp
theorem We (_hH:HRel ρ U w) (_hE:Ext ρ U w ρ U w) {σ1:Heap}{ρ1:Plc}(iB:HRel ρ1 σ1 w) (fe:Ext ρ U w ρ1 σ1 w) (fQ:σ1.n=U.n) {aW xs os us:List Value}{zs:Array Value}{esz:El}{n aX:Nat}
  (ho:LRel ρ U.n aW os) (hx:LRel ρ U.n xs us) (hlen:aW.length+xs.length=n*esz.sz) (eo:zs.size=(aX-n)*esz.sz) (gh:n<=aX) {s:Sem Next}
  (hs:s.run P w=.ok (.value (.slice (some ⟨w.heap.size,0,none⟩) n aX)) (w.drew.alloc (.cells ((os++us).toArray++zs) esz.ty))) :
  Ax P ρ U w (.slice (some ⟨U.n,0,none⟩) n n) (σ1.push (.cells (aW++xs) esz true false)) s:=by
 have hl:(aW++xs).length=(os++us).length:=by simp[ho.1,hx.1]
 have aF:LRel ρ1 σ1.n (aW++xs) (((os++us).toArray++zs).toList.take (aW++xs).length):=by
  have h1:((os++us).toArray++zs).toList.take (aW++xs).length=os++us:=by
   grind
  rw[h1];exact(ho.append hx).mono fe.n fe.pl
 have aI:((os++us).toArray++zs).size=n*esz.sz+(aX-n)*esz.sz:=by simp_all
 have cf:(aW++xs).length<=((os++us).toArray++zs).size:=by rw[aI,zL];omega
 obtain⟨ρ',h1,h2,h3⟩:=(iB.drew).alloc (aW++xs) ((os++us).toArray++zs) esz.ty esz false rfl aF cf;have hh:w.drew.heap.size=w.heap.size:=rfl;rw[fQ] at h1;refine⟨_,_,ρ',.inl hs,.sl _ _ _ _ _ _ (by simp[fQ]) (λp hp=>?_),h2,(fe.trans (Ext.drew ρ1 σ1 w)).trans h3⟩;rw[h1] at hp;obtain rfl:=osj hp;refine⟨gh,⟨λh=>(by cases h),.inr ⟨0,rfl,?_,Or.inl rfl⟩⟩⟩;show 0+aX*esz.sz<=((os++us).toArray++zs).size;rw[aI,<-zO];simp_all
theorem Eg (hH:HRel ρ U w) {t u e f:TypeId}{ei:TypeInfo}{zv:Value}{z:List Value}(ht:P.underlying t=some (.slice e)) (hu:P.underlying u=some (.slice f)) (hi:P.info? e=some ei) (hz:ei.zero=some zv) (fN:zv.cells.toList=z) (eo:z.length=ei.size) (hb:ei.bytes≠0) (ty:TypeId)
  {s:Value}{a:Option Addr}{m kz:Nat}{xs:List Value}{cs cx:Value}(hs:VRel ρ U.n s cs) (hx:VRel ρ U.n (.slice a m kz) cx) (bq:U.sl z.length (.slice a m kz)=some xs) (ak:xs.all cellOk=true)
  (h:YT ⟨z.length,e⟩ ei.bytes U s m xs=some (v,U')) {py:Sem Next}(aT:∀ r w',(Builtin.append_ #[t,u] ty #[cs,cx]).run P w=.ok r w'->py.run P w=.ok (.value r) w'):Ax P ρ U w v U' py:=by
 obtain⟨fp,us,eO,dL,fc⟩:=Lt (P:=P) hH bq hx;rw[eo] at fc fp;have hL:=Like.refl ρ w;have iV:Like ρ w w.drew:=⟨zd _,λ_ _ _=>rfl,λ_ _ _=>rfl⟩;have mw:us.length=m*ei.size:=by have:=eO.1;omega
 have hzero:∀ k,(Builtin.zeroCells zv.cells k).size=k*z.length:=(by grind [size_zeroCells]);unfold YT at h;split at h
 .
  obtain⟨_,_,rfl⟩:=hs.q1k;split at h
  .rename_i eG;subst eG;simp at h;obtain⟨rfl,rfl⟩:=h;have:us=[]:=xc.1 (by omega);subst this;have hr:=Xg (w:=w) ht hu hi ty none 0 0 0 cx [] dL (fc w hL) (zd _) w rfl;exact⟨_,w,ρ,.inl (aT _ _ hr),VRel.nilSl,hH,Ext.refl _ _ _⟩
  .rename_i eG;split at h
   .rename_i aI;simp at h;obtain⟨rfl,rfl⟩:=h;obtain⟨aX,gh,hr⟩:=XO (w:=w) ht hu hi hz hb ty none 0 0 m cx us [] dL (fc _ iV) (by simp[Builtin.firstCells]) (by omega) (by simpa using aI);simp only[xi,xN] at hr gh;have:=We (P:=P) hH (Ext.refl _ _ _) hH (Ext.refl _ _ _) rfl (LRel.nil ρ U.n) eO (by simp;rw[fp,<-eo]) (esz:=⟨z.length,e⟩) (n:=m) (hzero (aX-m)) gh (s:=py) (by simpa using aT _ _ hr);simpa using this
   .cases h
 .
  rename_i i o n cap;obtain⟨ad,ao,rfl,aO,aU⟩:=hs.q1c;split at h
  .rename_i c e' wr tight aC;obtain⟨p,hp,hB⟩:=hH.live i _ aC;obtain⟨eF,oE,⟨lZ,jA⟩|⟨o',rfl,dJ,gL⟩⟩:=aU p hp
   .
    obtain rfl:cap=0:=by omega
    subst lZ jA;split at h
    .rename_i af;obtain⟨rfl,jD,ft⟩:=af;dsimp only at ft h;split at h
     .rename_i eG;subst eG;simp at h;obtain⟨rfl,rfl⟩:=h;have:us=[]:=xc.1 (by omega);subst this;have hr:=Xg (w:=w) ht hu hi ty (some ad) 0 0 0 cx [] dL (fc w hL) (zd _) w rfl;exact⟨_,w,ρ,.inl (aT _ _ hr),hs,hH,Ext.refl _ _ _⟩
     .rename_i eG;split at h
      .omega
      .split at h
       .rename_i aI;have fR:U.sl z.length (.slice (some ⟨i,o,none⟩) 0 0)=some ((c.drop o).take (0*z.length)):=by
         have:o<=c.length:=by omega
         simp[Heap.sl,aC,this]
        obtain⟨_,os,iW,_,gK⟩:=Lt (P:=P) hH fR hs;rw[eo] at gK;have hlen:((c.drop o).take (0*z.length)).length+xs.length=(0+m)*z.length:=by rw[fp,eo];simp
        obtain⟨aX,gh,hr⟩:=XO (w:=w) ht hu hi hz hb ty (some ad) 0 0 m cx us os dL (fc _ iV) (gK _ iV) (by omega) aI;split at h
        .grind [Prod.mk.inj,osj,We,Ext.refl]
        .split at h
         .obtain⟨rfl,rfl⟩:=Prod.mk.inj (osj h);obtain⟨bg,au⟩:=hH.kill i;exact We hH (Ext.refl _ _ _) bg au rfl iW eO hlen (hzero _) gh (aT _ _ hr)
         .cases h
       .cases h
    .cases h
   have dK:p.esz=e':=hB.1;split at h
   .rename_i af;obtain⟨rfl,jD,ft⟩:=af;rw[dK] at dJ;dsimp only at dJ ft h;split at h
    .
     rename_i eG;subst eG;simp at h;obtain⟨rfl,rfl⟩:=h;have:us=[]:=xc.1 (by omega);subst this;have hr:=Xg (w:=w) ht hu hi ty (some ⟨p.blk,p.shift+o',none⟩) n ao 0 cx [] dL (fc w hL) (by omega) w rfl;exact⟨_,w,ρ,.inl (aT _ _ hr),hs,hH,Ext.refl _ _ _⟩
    .rename_i eG;split at h
     .
      rename_i aV;split at h
      .rename_i hw;obtain⟨rfl,eP⟩:=hw;simp at h;obtain⟨rfl,rfl⟩:=h;have jC:o'=o:=by
        omega
       subst jC;have hmul:(n+m)*z.length=n*z.length+m*z.length:=zO _ _ _;have sF:m*ei.size=m*z.length:=by rw[eo]
       obtain⟨h2,h3⟩:=hH.store hp aC eO (o:=o'+n*z.length) (by omega)
       have aY:=run_storeCells_cells (P:=P) p.blk (p.shift+o'+n*z.length) us 0 w
        (λj hj=>by rw[zY,zC,zC];exact hB.q0r _ (by have:=hB.2.2.1;omega))
        (λj hj=>by rw[zY,zC,zC];exact(hB.2.2.2.2.2 rfl).2 _ (by have:=hB.2.2.1;omega))
        (KB ak eO)
       have hr:=Xg (w:=w) ht hu hi ty (some ⟨p.blk,p.shift+o',none⟩) n ao m cx us dL (fc w hL) (by omega) _ (by
        simp only[XX,<-eo];exact aY)
       refine⟨_,_,ρ,.inl (aT _ _ hr),.sl _ _ _ _ _ _ aO (λq hq=>?_),by rw[zY,zC];exact h2,by grind⟩;simp_all
      .cases h
     .rename_i aV;split at h
      .rename_i aI;have hold:∀ k v,((c.drop o).take (n*z.length))[k]?=some v->∃ u,w.cell? ⟨p.blk,p.shift+o'+k,none⟩=some u/\VRel ρ U.n v u:=λk v hk=>by
        rw[xA] at hk;split at hk
        .rename_i cB;rw[zX] at hk;have jC:o'=o:=by
          grind
         subst jC;obtain⟨u,hu,cC⟩:=hB.2.2.2.2.1 _ v hk
         grind
        .cases hk
       have dU:((c.drop o).take (n*z.length)).length=n*z.length:=by simp;omega
       have fR:U.sl z.length (.slice (some ⟨i,o,none⟩) n cap)=some ((c.drop o).take (n*z.length)):=by simp[Heap.sl,aC,ft]
       obtain⟨_,os,iW,_,gK⟩:=Lt (P:=P) hH fR hs;rw[eo] at gK;have hlen:((c.drop o).take (n*z.length)).length+xs.length=(n+m)*z.length:=by rw[dU,fp,zO,eo]
       split at h
       .
        rename_i fv;simp at h;obtain⟨rfl,rfl⟩:=h;have pA:ao=cap:=oE (by rw[hB.2.1];exact fv);subst pA;obtain⟨aX,gh,hr⟩:=XO (w:=w) ht hu hi hz hb ty (some ⟨p.blk,p.shift+o',none⟩) n ao m cx us os dL (fc _ iV) (gK _ iV) aV aI
        grind [We,Ext.refl]
       .rename_i fv;have sG:tight=false:=by simpa using fv
        subst sG;split at h
        .rename_i fM;subst fM;simp at h;obtain⟨rfl,rfl⟩:=h;by_cases fw:n+m<=ao
         .
          have hmul:ao*z.length=(n+m)*z.length+(ao-(n+m))*z.length:=by rw[<-zO];congr 1;omega
          have rr:(n+m)*z.length=n*z.length+m*z.length:=zO _ _ _;have sF:m*ei.size=m*z.length:=by rw[eo]
          obtain⟨ρ',h1,h2,h3⟩:=hH.onto hp aC o' hold eO (by rw[dU];omega)
          have aY:=run_storeCells_cells (P:=P) p.blk (p.shift+o'+n*z.length) us 0 w
           (λj hj=>by rw[zY,zC,zC];exact hB.q0r _ (by omega))
           (λj hj=>by rw[zY,zC,zC];exact(hB.2.2.2.2.2 rfl).2 _ (by omega))
           (KB ak eO)
          have hr:=Xg (w:=w) ht hu hi ty (some ⟨p.blk,p.shift+o',none⟩) n ao m cx us dL (fc w hL) fw _ (by
           simp only[XX,<-eo];exact aY)
          refine⟨_,_,ρ',.inl (aT _ _ hr),.sl _ _ _ _ _ _ (by simp) (λq hq=>?_),by rw[zY];rw[dU] at h2;exact h2,by rw[zY];rw[dU] at h3;exact h3⟩;rw[h1] at hq;obtain rfl:=osj hq;refine⟨fw,⟨λh=>(by cases h),.inr ⟨0,rfl,?_,Or.inl rfl⟩⟩⟩
          grind
         .obtain⟨aX,gh,hr⟩:=XO (w:=w) ht hu hi hz hb ty (some ⟨p.blk,p.shift+o',none⟩) n ao m cx us os dL (fc _ iV) (gK _ iV) fw aI;obtain⟨bg,au⟩:=hH.kill i;exact We hH (Ext.refl _ _ _) bg au rfl iW eO hlen (hzero _) gh (aT _ _ hr)
        .cases h
      .cases h
   .cases h
  .cases h
 .
  rename_i i o n cap;obtain⟨ad,rfl,aO,aU,cS⟩:=hs.q2h;split at h
  .rename_i c e' wr tight aC;obtain⟨p,hp,hB⟩:=hH.live i _ aC;obtain⟨rfl,dJ⟩:=aU p hp;have dK:p.esz=e':=hB.1;split at h
   .rename_i af;obtain⟨rfl,jD,ft,eG,aI⟩:=af;rw[dK] at dJ;dsimp only at dJ ft h;simp at h;obtain⟨rfl,rfl⟩:=h;have dU:((c.drop o).take (n*z.length)).length=n*z.length:=by simp;omega
    have fR:U.sl z.length (.slice (some ⟨i,o,none⟩) n cap)=some ((c.drop o).take (n*z.length)):=by simp[Heap.sl,aC,ft]
    obtain⟨_,os,iW,_,gK⟩:=Lt (P:=P) hH fR cS;rw[eo] at gK;have hlen:((c.drop o).take (n*z.length)).length+xs.length=(n+m)*z.length:=by rw[dU,fp,zO,eo]
    obtain⟨aX,gh,hr⟩:=XO (w:=w) ht hu hi hz hb ty (some ⟨p.blk,p.shift+o,none⟩) n cap m cx us os dL (fc _ iV) (gK _ iV) (by omega) aI
    grind [We,Ext.refl]
   .cases h
  .cases h
 .cases h
set_option maxHeartbeats 1000000 in
theorem Ok {o:Oper}{vo:VOp}(hc:Us P o.op=some vo) (hq:vo.quiet=false) (hH:HRel ρ U w) (hE:∀ x,Xv x=true->VRel ρ U.n (Q4 env x) (ev x))
  (h:Q7 vo (Q4 env) U=some (v,U')):Ax P ρ U w v U' (execOp ev o):=by
 obtain⟨dst,op,ty,pos,after,guard⟩:=o;simp only at hc;unfold Us at hc;split at hc
 .cases hc
 rename_i ak;simp only[xk,z_] at ak;cases op<;>simp only[Op.operands] at ak hc
 case alloc t =>
  cases hz:zeroOf P t with
  |none=>simp[hz] at hc
  |some z =>simp[hz] at hc;subst hc;obtain⟨ti,zv,hi,dG,fN,_,iA⟩:=Yg hz;simp[Q7] at h;obtain⟨rfl,rfl⟩:=h;refine Eh hH (C:=zv.cells) (esz:=⟨z.length,t⟩) (by rw[fN];exact Xw iA) ?_;simp[execOp,Instr.alloc,Zl hi dG,newVar,newRow]
 case box t x =>
  have hx:=hE x (by simpa using ak);simp at hc;subst hc;simp only[Q7] at h;split at h
  .rename_i vs b8;simp at h;obtain⟨rfl,rfl⟩:=h;refine Eh hH (C:=(ev x).cells) (esz:=⟨vs.length,t⟩) (HC b8 hx) ?_;simp[execOp,Instr.box,newVar,newRow]
  .cases h
 case buildSlice t len parts =>
  split at hc
  .rename_i e hu;cases hz:zeroOf P e with
   |none=>simp[hz] at hc
   |some z =>
    obtain⟨ti,zv,hi,dG,fN,eo,iA⟩:=Yg hz;simp only[hz,zE,xl] at hc;split at hc
    .cases hc
    .rename_i af;simp at af;obtain⟨gy,hlen⟩:=af;simp at hc;subst hc;simp only[Q7] at h;split at h
     .rename_i cs dT;simp at h;obtain⟨rfl,rfl⟩:=h;have ku:∀ q∈parts.toList,Xv q.2=true:=(by grind);have kA:=Hz zv.cells z fN gy len
      obtain⟨bt,lX,jz⟩:=CY (ρ:=ρ) (n:=U.n) (λi=>some (i*z.length,z.length)) _ ((parts.map λq=>(q.1,ev q.2)).toList) (PW len z) cs ((Array.range (len*z.length)).map (λi=>zv.cells[i % zv.cells.size]!)) (by simp)
       (by grind) dT (by rw[kA];exact Xw (HF _ _ iA))
      have cf:cs.length=len*z.length:=by
       have h1:∀ (l:List (Nat×Nat×Value)) (c c':List Value),M9 c l=some c'->c'.length=c.length:=by
        intro l;induction l with
        |nil=>intro c c' h;simp[M9] at h;rw[h]
        |cons a r ih =>
         intro c c' h;obtain⟨o1,s1,v1⟩:=a;simp only[M9] at h;split at h
         .grind [Yc]
         .cases h
       rw[h1 _ _ _ dT,Tv]
      refine TB hH (C:=bt) (esz:=⟨z.length,e⟩) jz (by have:=jz.1;simp_all) ?_;have hle:¬ (len*ti.size > 2 ^ 24):=by
       grind
      have pB:Instr.fill (λi=>some (i*ti.size,ti.size)) ((Array.range (len*ti.size)).map (λi=>zv.cells[i % zv.cells.size]!)) (parts.map λq=>(q.1,ev q.2)).toList=some bt:=by rw[<-eo];exact lX
      by_cases bj:len*ti.size=0
      .have jE:∀ f:Nat->Value,(Array.range 0).map f=#[]:=λf=>by simp
       simp only[execOp];simp only[Instr.buildSlice,zx,Q0 hu,zh,Qc hi,bj,zz,xn];rw[bj,jE] at pB;simp only[jE,pB];simp[newRow]
      .simp only[execOp];simp only[Instr.buildSlice,zx,Q0 hu,zh,Qc hi,z0 hle,z0 bj,Zl hi dG,xn,pB];simp[newRow]
     .cases h
  .cases hc
 case store t a x =>
  simp at ak;have ha:=hE a ak.1;have hx:=hE x ak.2;cases hi:P.info? t with
  |none=>simp[hi] at hc
  |some ti =>
   simp[hi] at hc;subst hc;simp only[Q7] at h;split at h
   .rename_i i o vs h1 b8;rw[h1] at ha;split at h
    .rename_i c e wr tight hb;split at h
     .rename_i af;obtain⟨rfl,mz,iX,gM⟩:=af;simp at h;obtain⟨rfl,rfl⟩:=h;obtain⟨p,hp,hB⟩:=hH.live i _ hb;obtain⟨_,aO,sH⟩:=ha.q0w hp;have hl:=HC b8 hx;have az:(ev x).cells.size=ti.size:=by have:=hl.1;simp at this;omega
      obtain⟨h2,h3⟩:=hH.store hp hb hl (o:=o) (by omega);refine⟨undef,_,ρ,.inr ⟨?_,rfl⟩,JO,h2,h3⟩
      have hr:=run_storeCells_cells (P:=P) p.blk (p.shift+o) (ev x).cells.toList 0 w
       (λj hj=>by rw[zY,zC];exact hB.q0r _ (by have:=hB.2.2.1;simp at hj;omega))
       (λj hj=>by rw[zY,zC];exact(hB.2.2.2.2.2 rfl).2 _ (by have:=hB.2.2.1;simp at hj;omega))
       (KB gM hl)
      simp only[execOp];simp only[Instr.storeAt,sH,Instr.sureAddr,zx,xn,zh,storeVar,Qc hi];simp_all
     .cases h
    .cases h
   .cases h
 case makeSlice t l c =>
  simp at ak;have hl:=hE l ak.1;have eF:=hE c ak.2;split at hc
  .rename_i e hu;cases hi:P.info? e with
   |none=>simp[hi] at hc
   |some ei =>
    cases hz:zeroOf P e with
    |none=>simp[hi,hz] at hc
    |some z =>
     obtain⟨ti,zv,cW,dG,fN,eo,iA⟩:=Yg hz;obtain rfl:ei=ti:=osj (hi.symm.trans cW);simp only[hi,hz,zE,xl] at hc;split at hc
     .cases hc
     .rename_i gy;simp at gy;simp at hc;subst hc;simp only[Q7] at h;split at h
      .rename_i k a k' b h1 h2;rw[h1] at hl;rw[h2] at eF;split at h
       .rename_i af;obtain⟨vl,rp,mA,a_⟩:=af;simp at h;obtain⟨rfl,rfl⟩:=h;have kA:=Hz zv.cells z fN gy b.toNat;have vn:(2:Int) ^ 46=70368744177664:=by decide
        have vp:(2:Int) ^ 48=281474976710656:=by decide
        have eH:IntKind.i64.wrap a=a:=IntWalk.i64_in _ (by omega);have sI:IntKind.i64.wrap b=b:=IntWalk.i64_in _ (by omega);refine TB hH (C:=(Array.range (b.toNat*z.length)).map (λi=>zv.cells[i % zv.cells.size]!)) (esz:=⟨z.length,e⟩) (by rw[kA];exact Xw (HF _ _ iA)) (by simp) ?_;have sJ:((ei.bytes:Int)*b > 2 ^ 48)=False:=by
         grind
        have pC:(b<0)=False:=by rw[eq_iff_iff,iff_false];omega
        have mB:(a<0)=False:=by rw[eq_iff_iff,iff_false];omega
        have oI:(a > b)=False:=by rw[eq_iff_iff,iff_false];omega
        simp only[execOp];simp only[Instr.makeSlice,zx,Q0 hu,zh,hl.q0g,eF.q0g,asInt,asIntOf,xn,run_typeInfo w hi,eH,sI,sJ,pC,mB,oI];simp only[decide_false,xZ,Bool.false_or,zw,if_false,run_askRoom,zx,zh,Qc hi];rw[<-eo];by_cases bj:b.toNat*z.length=0
        .have jE:∀ f:Nat->Value,(Array.range 0).map f=#[]:=λf=>by simp
         simp only[bj,zz,jE];simp[newRow]
        .simp only[bj,if_false,Zl hi dG,zx,xn,zh];simp[newRow]
       .cases h
      .cases h
  .cases hc
 case slice t x lo hi mx =>
  have ky:Xv x=true:=by simp at ak;exact ak.1
  have fO:∀ y,lo=some y->Xv y=true:=(by simp_all);have fP:∀ y,hi=some y->Xv y=true:=(by simp_all);have pD:∀ y,mx=some y->Xv y=true:=(by simp_all);have hx:=hE x ky;split at hc
  .rename_i e hu;cases cg:P.info? e with
   |none=>simp[cg] at hc
   |some ei =>
    simp[cg] at hc;subst hc;cases mx with
    |none=>simp[VOp.quiet] at hq
    |some mo =>
     simp only[Q7] at h;split at h
     .rename_i a n cap h1;rw[h1] at hx;split at h
      .simp_all
      .rename_i l hh vq hl kn sK;split at h
       .rename_i m ho hm;have gJ:=Yb hE fO hl;have lY:=Yb hE fP kn;have sL:=Yb hE pD hm;obtain⟨ym,km,im,sM,iU,oG,kB⟩:=sL.resolve_left (λhh=>by cases hh.1);obtain rfl:=osj sM;obtain⟨yh,kh,ih,sN,iT,oF,pE⟩:=lY.resolve_left (λhh=>by cases hh.1);obtain rfl:=osj sN;have iC:=λ(ao:Nat) (h1:l<=hh) (h2:hh<=m) (h3:m<=ao) w'=>Pr (P:=P) (n:=n) (cap:=ao) gJ iT oF pE iU oG kB h1 h2 h3 w';unfold WU at h;split at h
        .rename_i heq;simp at heq;obtain⟨rfl,rfl,rfl⟩:=heq;obtain⟨_,_,bc⟩:=hx.q1k;split at h
         .rename_i af;obtain⟨rfl,rfl,eG⟩:=af;simp at eG;simp at h;obtain⟨rfl,rfl⟩:=h;subst eG;refine⟨.slice none 0 0,w,ρ,.inl ?_,VRel.nilSl,hH,Ext.refl _ _ _⟩;have:=iC 0 (zd _) (zd _) (zd _) w;simp only[wi] at this;simp[execOp,bc,Instr.sliceAt,Instr.slice,Q0 hu,this,Qc cg]
         .cases h
        .rename_i i o n' iR heq;simp at heq;obtain⟨rfl,rfl,rfl⟩:=heq;simp only at h;split at h
         .rename_i c esz wr tight hb;split at h
          .rename_i af;obtain⟨mr,pr,sO,dV⟩:=af;obtain⟨ad,ao,bc,aO,aU⟩:=hx.q1c;obtain⟨p,hp,hB⟩:=hH.live i _ hb;have eF:=(aU p hp).1;have bT:=iC ao pr sO (x5 dV eF) w;simp only[wi] at bT;obtain⟨-,oE,⟨lZ,jA⟩|⟨o',rfl,dJ,gL⟩⟩:=aU p hp
           .split at h
            .rename_i fS;subst fS;simp at h;obtain⟨rfl,rfl⟩:=h;have pF:hh=m:=by omega
             subst pF;have gg:∀ j,j<U.n->∀ q,(ρ.put U.n (some ⟨p.blk,p.shift,0,esz,true⟩)) j=some q->ρ j=some q:=λj hj q hq=>by unfold Plc.put at hq;rwa [z0 (by omega)] at hq
             have a7:∀ j,j≠U.n->(ρ.put U.n (some ⟨p.blk,p.shift,0,esz,true⟩)) j=ρ j:=λj hj=>by simp[Plc.put,hj]
             have eQ:(ρ.put U.n (some ⟨p.blk,p.shift,0,esz,true⟩)) U.n=some ⟨p.blk,p.shift,0,esz,true⟩:=by simp[Plc.put]
             have fM:∀ B,Wr (ρ.put U.n (some ⟨p.blk,p.shift,0,esz,true⟩)) (U.push (.cells [] esz false true)) B->Wr ρ U B:=by
              rintro B ⟨j,q,b,hq,bS,hw,rfl⟩;by_cases aM:j=U.n
              .subst aM;rw[Heap.q0a] at bS;obtain rfl:=osj bS;cases hw
              .rw[Heap.q0e _ _ aM] at bS;rw[a7 j aM] at hq;exact⟨j,q,b,hq,bS,hw,rfl⟩
             refine⟨.slice (some ad) 0 0,w,ρ.put U.n (some ⟨p.blk,p.shift,0,esz,true⟩),.inl ?_,.sl _ _ _ _ _ _ (by simp) (λq hq=>?_),⟨⟨?_,?_,?_,?_⟩,λg cs hg=>⟨(hH.tab g cs hg).1,λhw=>(hH.tab g cs hg).2 (fM g hw)⟩⟩,
              ⟨rfl,rfl,rfl,zd _,λ_ _ _=>rfl,λB _=>fM B,by simp,gg⟩⟩
             .simp[execOp,bc,Instr.sliceAt,Instr.slice,Q0 hu,bT,Qc cg]
             .omega
             .intro j b hj;by_cases aM:j=U.n
              .subst aM;rw[Heap.q0a] at hj;obtain rfl:=osj hj;obtain⟨C,e0,f0,hC,oz⟩:=hB.2.2.2.1;refine⟨_,eQ,rfl,rfl,zd _,⟨C,e0,f0,hC,?_⟩,λk v hk=>by simp at hk,λhw=>by cases hw⟩
               grind
              .rw[Heap.q0e _ _ aM] at hj;obtain⟨q,hq,eN⟩:=hH.live j b hj;exact⟨q,by rw[a7 j aM];exact hq,eN.mono (by simp) gg rfl⟩
             .intro j hj;by_cases aM:j=U.n
              .grind [Heap.q0a]
              .rw[Heap.q0e _ _ aM] at hj;rw[a7 j aM];exact hH.dead j hj
             .intro j q hq;by_cases aM:j=U.n
              .subst aM;rw[eQ] at hq;obtain rfl:=osj hq;exact hH.lt i p hp
              .rw[a7 j aM] at hq;exact hH.lt j q hq
             .intro j k q r b cM hq hr bS hw pG;by_cases aM:j=U.n
              .subst aM;rw[Heap.q0a] at bS;obtain rfl:=osj bS;cases hw
              .rw[Heap.q0e _ _ aM] at bS;rw[a7 j aM] at hq;by_cases iN:k=U.n
               .grind
               .rw[a7 k iN] at hr;exact hH.sep j k q r b cM hq hr bS hw pG
            .omega
           have dK:p.esz.sz=ei.size:=by rw[hB.1];exact mr
           rw[dK] at dJ;split at h
           .rename_i fS;subst fS;simp at h;obtain⟨rfl,rfl⟩:=h;have pF:hh=m:=by omega
            subst pF;have gg:∀ j,j<U.n->∀ q,(ρ.put U.n (some ⟨p.blk,p.shift+o',0,esz,true⟩)) j=some q->ρ j=some q:=λj hj q hq=>by unfold Plc.put at hq;rwa [z0 (by omega)] at hq
            have a7:∀ j,j≠U.n->(ρ.put U.n (some ⟨p.blk,p.shift+o',0,esz,true⟩)) j=ρ j:=λj hj=>by simp[Plc.put,hj]
            have eQ:(ρ.put U.n (some ⟨p.blk,p.shift+o',0,esz,true⟩)) U.n=some ⟨p.blk,p.shift+o',0,esz,true⟩:=by simp[Plc.put]
            have fM:∀ B,Wr (ρ.put U.n (some ⟨p.blk,p.shift+o',0,esz,true⟩)) (U.push (.cells [] esz false true)) B->Wr ρ U B:=by
             rintro B ⟨j,q,b,hq,bS,hw,rfl⟩;by_cases aM:j=U.n
             .subst aM;rw[Heap.q0a] at bS;obtain rfl:=osj bS;cases hw
             .rw[Heap.q0e _ _ aM] at bS;rw[a7 j aM] at hq;exact⟨j,q,b,hq,bS,hw,rfl⟩
            refine⟨.slice (some ⟨p.blk,p.shift+o',none⟩) 0 0,w,ρ.put U.n (some ⟨p.blk,p.shift+o',0,esz,true⟩),.inl ?_,.sl _ _ _ _ _ _ (by simp) (λq hq=>?_),⟨⟨?_,?_,?_,?_⟩,λg cs hg=>⟨(hH.tab g cs hg).1,λhw=>(hH.tab g cs hg).2 (fM g hw)⟩⟩,
             ⟨rfl,rfl,rfl,zd _,λ_ _ _=>rfl,λB _=>fM B,by simp,gg⟩⟩
            .simp[execOp,bc,Instr.sliceAt,Instr.slice,Q0 hu,bT,Qc cg]
            .omega
            .intro j b hj;by_cases aM:j=U.n
             .subst aM;rw[Heap.q0a] at hj;obtain rfl:=osj hj;obtain⟨C,e0,f0,hC,oz⟩:=hB.2.2.2.1;refine⟨_,eQ,rfl,rfl,zd _,⟨C,e0,f0,hC,?_⟩,λk v hk=>by simp at hk,λhw=>by cases hw⟩
              grind
             .rw[Heap.q0e _ _ aM] at hj;obtain⟨q,hq,eN⟩:=hH.live j b hj;exact⟨q,by rw[a7 j aM];exact hq,eN.mono (by simp) gg rfl⟩
            .intro j hj;by_cases aM:j=U.n
             .grind [Heap.q0a]
             .rw[Heap.q0e _ _ aM] at hj;rw[a7 j aM];exact hH.dead j hj
            .intro j q hq;by_cases aM:j=U.n
             .subst aM;rw[eQ] at hq;obtain rfl:=osj hq;exact hH.lt i p hp
             .rw[a7 j aM] at hq;exact hH.lt j q hq
            .intro j k q r b cM hq hr bS hw pG;by_cases aM:j=U.n
             .subst aM;rw[Heap.q0a] at bS;obtain rfl:=osj bS;cases hw
             .rw[Heap.q0e _ _ aM] at bS;rw[a7 j aM] at hq;by_cases iN:k=U.n
              .grind
              .rw[a7 k iN] at hr;exact hH.sep j k q r b cM hq hr bS hw pG
           rename_i fS;split at h
           .rename_i sP;obtain⟨_,rfl⟩:=sP;simp at h;obtain⟨rfl,rfl⟩:=h;have jC:o'=o:=by
             grind
            subst jC;refine⟨.slice (some ⟨p.blk,p.shift+(o'+l*ei.size),none⟩) (hh-l) (hh-l),w,ρ,.inl ?_,.slx _ _ _ _ _ aO (λq hq=>?_),hH,Ext.refl _ _ _⟩
            .simp[execOp,bc,Instr.sliceAt,Instr.slice,Q0 hu,bT,Qc cg,fS,XX,zC]
            .obtain rfl:p=q:=osj (hp.symm.trans hq);refine⟨rfl,?_⟩;rw[dK];have:ao=l+((hh-l)+(ao-hh)):=by omega
             grind [Nat.add_mul]
           .simp at h;obtain⟨rfl,rfl⟩:=h;refine⟨.slice (some ⟨p.blk,p.shift+(o'+l*ei.size),none⟩) (hh-l) (m-l),w,ρ,.inl ?_,.sl _ _ _ _ _ _ aO (λq hq=>?_),hH,Ext.refl _ _ _⟩
            .simp[execOp,bc,Instr.sliceAt,Instr.slice,Q0 hu,bT,Qc cg,fS,XX,zC]
            .obtain rfl:p=q:=osj (hp.symm.trans hq);refine⟨zd _,λ_=>rfl,.inr ⟨o'+l*ei.size,rfl,?_,?_⟩⟩
             .rw[dK];have:ao=l+((m-l)+(ao-m)):=by omega
              grind [Nat.add_mul]
             omega
          .cases h
         .cases h
        .cases h
       .cases h
      .cases h
     .cases h
  .rename_i hu;split at hc
   .rename_i px;cases mx with
    |some m=>simp at px
    |none=>simp at hc;subst hc;simp[VOp.quiet] at hq
   .cases hc
  .cases hc
 case call c =>
  split at hc
  .simp at hc;subst hc;simp[VOp.quiet] at hq
  .simp at hc;subst hc;simp[VOp.quiet] at hq
  .split at hc
   .split at hc
    .simp at hc;subst hc;simp[VOp.quiet] at hq
    .simp at hc;subst hc;simp[VOp.quiet] at hq
    .cases hc
   .cases hc
  .rename_i aG;split at hc
   .rename_i t u s x ht pq aq;split at hc
    .rename_i e f hu l4;cases hi:P.info? e with
     |none=>simp[hi] at hc
     |some ei =>
      cases hz:zeroOf P e with
      |none=>simp[hi,hz] at hc
      |some z =>
       obtain⟨ti,zv,cW,dG,fN,eo,iA⟩:=Yg hz;obtain rfl:ei=ti:=osj (hi.symm.trans cW);simp only[hi,hz,zE,xl] at hc;split at hc
       .cases hc
       .rename_i af;simp at af;obtain⟨gy,sQ⟩:=af;simp at hc;subst hc;have cD:c.args=#[s,x]:=by apply Array.ext';simpa using aq
        simp[Call.operands,aG,cD] at ak;have hs:=hE s ak.1;have hx:=hE x ak.2;have mC:(Builtin.append_ c.argTypes ty #[ev s,ev x])=(Builtin.append_ #[t,u] ty #[ev s,ev x]):=by unfold Builtin.append_;simp[ht,pq]
        have aT:∀ r w',(Builtin.append_ #[t,u] ty #[ev s,ev x]).run P w=.ok r w'->(execOp ev {dst:=dst,op:=.call c,type:=ty,pos:=pos,after:=after,guard:=guard}).run P w=.ok (.value r) w':=λr w' hr=>by simp[execOp,resolve,aG,cD,invoke,builtin,mC,hr]
        simp only[Q7] at h;split at h
        .rename_i xs a m kz bq mD;rw[mD] at hx;split at h
         .rename_i mE;rw[mD] at bq;exact Eg hH hu l4 hi dG fN eo sQ ty hs hx bq mE h aT
         .cases h
        .cases h
    .cases hc
   .cases hc
  .split at hc
   .simp at hc;subst hc;simp[VOp.quiet] at hq
   .simp at hc;subst hc;simp[VOp.quiet] at hq
   .simp at hc;subst hc;simp[VOp.quiet] at hq
   .cases hc
  .split at hc
   .simp at hc;subst hc;simp[VOp.quiet] at hq
   .cases hc
  .cases hc
 case move x=>simp at hc;subst hc;simp[VOp.quiet] at hq
 case assign x=>simp at hc;subst hc;simp[VOp.quiet] at hq
 case pick c a b=>simp at hc;subst hc;simp[VOp.quiet] at hq
 case unOp=>simp at hc;subst hc;simp[VOp.quiet] at hq
 case extract=>simp at hc;subst hc;simp[VOp.quiet] at hq
 case nilCheck=>simp at hc;subst hc;simp[VOp.quiet] at hq
 all_goals
  repeat' first
   |(cases hc;done)
   |(simp at hc;subst hc;simp[VOp.quiet] at hq;done)
   |split at hc
 all_goals simp only[zE,zV,reduceCtorEq,and_false,exists_false] at hc
 all_goals first
  |(obtain⟨_,_,rfl⟩:=hc;simp[VOp.quiet] at hq;done)
  |(obtain⟨_,_,hc⟩:=hc;simp at hc;subst hc;simp[VOp.quiet] at hq;done)
  |(obtain⟨_,_,_,_,hc⟩:=hc;simp at hc;subst hc;simp[VOp.quiet] at hq;done)
  |(obtain⟨_,_,_,_,_,_,hc⟩:=hc;simp at hc;subst hc;simp[VOp.quiet] at hq;done)
  |(obtain⟨d,_,hc⟩:=hc;cases d<;>simp at hc<;>subst hc<;>simp[VOp.quiet] at hq;done)
  |(obtain⟨_,_,_,_,hc⟩:=hc;split at hc<;>simp at hc;subst hc;simp[VOp.quiet] at hq;done)
end
end Go.V
namespace Go.V
open Go
section
variable {P:Program}{ρ:Plc}{U U':Heap}{w:World}{ev:Operand->Value}{env:Env}{v:Value}
theorem VRel.q0p {n:Nat}{c:Value}(h:VRel ρ n (.pointer none) c):c=.pointer none:=by cases h;rfl
theorem VRel.q1f {n:Nat}{a:Addr}{c:Value}(h:VRel ρ n (.pointer (some a)) c):∃ b,c=.pointer (some b):=by cases h<;>exact⟨_,rfl⟩
theorem VRel.q0s {n:Nat}{c:Value}(h:VRel ρ n (.map none) c):c=.map none:=by cases h;rfl
theorem VRel.q1h {n:Nat}{m:Nat}{c:Value}(h:VRel ρ n (.map (some m)) c):∃ r,c=.map (some r)/\m<n/\∀ p,ρ m=some p->r=p.blk:=by
 cases h with
 |map _ r hi h=>exact⟨r,rfl,hi,h⟩
theorem VRel.q0z {n:Nat}{c:Value}(h:VRel ρ n .nilFunc c):c=.nilFunc:=by cases h;rfl
theorem VRel.q1n {n:Nat}{f:Fn}{a b:Array Value}{c:Value}(h:VRel ρ n (.func f a b) c):∃ g a' b',c=.func g a' b':=by cases h<;>exact⟨_,_,_,rfl⟩
theorem VRel.q1r {n:Nat}{a:Addr}{l k:Nat}{c:Value}(h:VRel ρ n (.slice (some a) l k) c):∃ b k',c=.slice (some b) l k':=by cases h<;>exact⟨_,_,rfl⟩
theorem VRel.q0y {n:Nat}{l k:Nat}{c:Value}(h:VRel ρ n (.slice none l k) c):c=.slice none 0 0:=by cases h;rfl
theorem O3 (neg:Bool) (t:TypeId) (x y:Operand) (yt:TypeId) (ty:TypeId) (pos:String) (after:Array Edge) (dst:Option Tmp) (g:Option (Nat×Bool)) {a b:Value}{r:Bool}(hx:ev x=a) (hy:ev y=b)
  (hg:∀ op w',(eqGuard op t x y a b).run P w'=.ok () w') (h:∀ w',(binOp (if neg then .neq else .eql) t a b).run P w'=.ok (.bool (if neg then !r else r)) w') :
  AI P ρ U w (.bool (if neg then !r else r)) (execOp ev ⟨dst,.binOp (if neg then .neq else .eql) t x y yt,ty,pos,after,g⟩):=by
 refine Qm (c:=.bool (if neg then !r else r)) (λw'=>?_) (.bool _);simp only[execOp,hx,hy];simp[hg,h]
theorem CS (op:BinOp) (t:TypeId) (x y:Operand) {a b:Value}(h:(∀ p q,¬ (a=.nilIface/\b=.nilIface)/\¬ (a=.agg p/\b=.agg q))) (w':World):(eqGuard op t x y a b).run P w'=.ok () w':=by
 have key:∀ op,op=.eql\/op=.neq->(eqGuard op t x y a b).run P w'=.ok () w':=by
  intro op ho;unfold eqGuard;rcases ho with rfl|rfl
  all_goals
   simp only[wh,zw,if_false];split
   .simp_all
   .simp_all
   .rfl
 cases op<;>first|exact key _ (.inl rfl)|exact key _ (.inr rfl)|rfl
theorem Jv {t:TypeId}{a b:Value}{r:Bool}(h:∀ d w',(Op.equalIn (d+1) t a b).run P w'=.ok r w')
  (hb:∀ neg:Bool,binOp (if neg then .neq else .eql) t a b=(do let r <-Op.equal t a b;pure (.bool (if neg then !r else r)))) (neg:Bool) (w':World) :
  (binOp (if neg then .neq else .eql) t a b).run P w'=.ok (.bool (if neg then !r else r)) w':=by
 rw[hb,zx];have:(Op.equal t a b).run P w'=.ok r w':=h 9999 w';rw[this];rfl
theorem Q04 {kd:Nat}{t:TypeId}{a b c d:Value}{r:Bool}(hH:HRel ρ U w) (hk:(kd=0/\∃ e i,P.underlying t=some (.pointer e)/\P.info? e=some i)\/(kd=1/\∃ e,P.underlying t=some (.slice e)) \/
   (kd=2/\∃ k e,P.underlying t=some (.map k e))\/(kd=3/\∃ p q s,P.underlying t=some (.func p q s)))
  (ha:VRel ρ U.n a c) (hb:VRel ρ U.n b d) (h:Jw kd a b U=some r):(∀ (neg:Bool) w',(binOp (if neg then .neq else .eql) t c d).run P w'=.ok (.bool (if neg then !r else r)) w')/\(∀ p q,¬ (c=.nilIface/\d=.nilIface)/\¬ (c=.agg p/\d=.agg q)):=by
 unfold Jw at h;split at h
 .obtain rfl:=ha.q0p;obtain rfl:=hb.q0p;simp at h;subst h;rcases hk with⟨_,e,i,h1,h2⟩|⟨h0,_⟩|⟨h0,_⟩|⟨h0,_⟩<;>try (cases h0)
  exact⟨Jv (λd w'=>by simp[Op.equalIn,Q0 h1]) (λneg=>by cases neg<;>rfl),by simp⟩
 .obtain rfl:=ha.q0p;obtain⟨q,rfl⟩:=hb.q1f;simp at h;subst h;rcases hk with⟨_,e,i,h1,h2⟩|⟨h0,_⟩|⟨h0,_⟩|⟨h0,_⟩<;>try (cases h0)
  exact⟨Jv (λd w'=>by simp[Op.equalIn,Q0 h1]) (λneg=>by cases neg<;>rfl),by simp⟩
 .obtain⟨q,rfl⟩:=ha.q1f;obtain rfl:=hb.q0p;simp at h;subst h;rcases hk with⟨_,e,i,h1,h2⟩|⟨h0,_⟩|⟨h0,_⟩|⟨h0,_⟩<;>try (cases h0)
  exact⟨Jv (λd w'=>by simp[Op.equalIn,Q0 h1]) (λneg=>by cases neg<;>rfl),by simp⟩
 .rename_i i o j q;split at h
  .rename_i hc;obtain⟨rfl,rfl,hs⟩:=hc;simp at h;subst h;rcases hk with⟨_,e,i',h1,h2⟩|⟨h0,_⟩|⟨h0,_⟩|⟨h0,_⟩<;>try (cases h0)
   obtain⟨blk,aC⟩:=Option.isSome_iff_exists.1 hs;obtain⟨p,hp,_⟩:=hH.live _ _ aC;obtain⟨_,_,rfl⟩:=ha.q0w hp;obtain⟨_,_,rfl⟩:=hb.q0w hp;exact⟨Jv (λd w'=>by simp[Op.equalIn,Q0 h1,sizeOf,typeInfo,h2,run_sameAddr_same]) (λneg=>by cases neg<;>rfl),by simp⟩
  .cases h
 .obtain rfl:=ha.q0y;obtain rfl:=hb.q0y;simp at h;subst h;rcases hk with⟨h0,_⟩|⟨_,e,h1⟩|⟨h0,_⟩|⟨h0,_⟩<;>try (cases h0)
  exact⟨Jv (λd w'=>by simp[Op.equalIn,Q0 h1]) (λneg=>by cases neg<;>rfl),by simp⟩
 .obtain rfl:=ha.q0y;obtain⟨_,_,rfl⟩:=hb.q1r;simp at h;subst h;rcases hk with⟨h0,_⟩|⟨_,e,h1⟩|⟨h0,_⟩|⟨h0,_⟩<;>try (cases h0)
  exact⟨Jv (λd w'=>by simp[Op.equalIn,Q0 h1]) (λneg=>by cases neg<;>rfl),by simp⟩
 .obtain⟨_,_,rfl⟩:=ha.q1r;obtain rfl:=hb.q0y;simp at h;subst h;rcases hk with⟨h0,_⟩|⟨_,e,h1⟩|⟨h0,_⟩|⟨h0,_⟩<;>try (cases h0)
  exact⟨Jv (λd w'=>by simp[Op.equalIn,Q0 h1]) (λneg=>by cases neg<;>rfl),by simp⟩
 .obtain rfl:=ha.q0s;obtain rfl:=hb.q0s;simp at h;subst h;rcases hk with⟨h0,_⟩|⟨h0,_⟩|⟨_,k,e,h1⟩|⟨h0,_⟩<;>try (cases h0)
  exact⟨Jv (λd w'=>by simp[Op.equalIn,Q0 h1]) (λneg=>by cases neg<;>rfl),by simp⟩
 .obtain rfl:=ha.q0s;obtain⟨_,rfl,_⟩:=hb.q1h;simp at h;subst h;rcases hk with⟨h0,_⟩|⟨h0,_⟩|⟨_,k,e,h1⟩|⟨h0,_⟩<;>try (cases h0)
  exact⟨Jv (λd w'=>by simp[Op.equalIn,Q0 h1]) (λneg=>by cases neg<;>rfl),by simp⟩
 .obtain⟨_,rfl,_⟩:=ha.q1h;obtain rfl:=hb.q0s;simp at h;subst h;rcases hk with⟨h0,_⟩|⟨h0,_⟩|⟨_,k,e,h1⟩|⟨h0,_⟩<;>try (cases h0)
  exact⟨Jv (λd w'=>by simp[Op.equalIn,Q0 h1]) (λneg=>by cases neg<;>rfl),by simp⟩
 .obtain rfl:=ha.q0z;obtain rfl:=hb.q0z;simp at h;subst h;rcases hk with⟨h0,_⟩|⟨h0,_⟩|⟨h0,_⟩|⟨_,p,q,s,h1⟩<;>try (cases h0)
  exact⟨Jv (λd w'=>by simp[Op.equalIn,Q0 h1]) (λneg=>by cases neg<;>rfl),by simp⟩
 .obtain rfl:=ha.q0z;obtain⟨_,_,_,rfl⟩:=hb.q1n;simp at h;subst h;rcases hk with⟨h0,_⟩|⟨h0,_⟩|⟨h0,_⟩|⟨_,p,q,s,h1⟩<;>try (cases h0)
  exact⟨Jv (λd w'=>by simp[Op.equalIn,Q0 h1]) (λneg=>by cases neg<;>rfl),by simp⟩
 .obtain⟨_,_,_,rfl⟩:=ha.q1n;obtain rfl:=hb.q0z;simp at h;subst h;rcases hk with⟨h0,_⟩|⟨h0,_⟩|⟨h0,_⟩|⟨_,p,q,s,h1⟩<;>try (cases h0)
  exact⟨Jv (λd w'=>by simp[Op.equalIn,Q0 h1]) (λneg=>by cases neg<;>rfl),by simp⟩
 .cases h
def Z1r (ρ:Plc) (n:Nat) (e:MapEntry) (kv:Jp):Prop:=e.key=kv.1/\e.born=kv.2.2/\VRel ρ n kv.2.1 e.val
def LERel (ρ:Plc) (n:Nat) (E:List MapEntry) (es:List Jp):Prop:=E.length=es.length/\∀ (k:Nat) (e:MapEntry) (kv:Jp),E[k]?=some e->es[k]?=some kv->Z1r ρ n e kv
theorem LERel.cons_inv {n:Nat}{E:List MapEntry}{es:List Jp}{kv:Jp}(h:LERel ρ n E (kv::es)):∃ e E',E=e::E'/\Z1r ρ n e kv/\LERel ρ n E' es:=by
 cases E with
 |nil=>have:=h.1;simp at this
 |cons e E'=>exact⟨e,E',rfl,h.2 0 e kv rfl rfl,by have:=h.1;simpa using this,λk a b ha hb=>h.2 (k+1) a b (by simpa using ha) (by simpa using hb)⟩
theorem ORel.q0q {n:Nat}{es:List Jp}{clock:Nat}{O:Obj}:ORel ρ n (.map es clock) O<->∃ entries,O=.map entries clock/\LERel ρ n entries.toList es:=by
 constructor
 .rintro⟨entries,h1,h2,h3⟩;refine⟨entries,h1,by simpa using h2,λk e kv he dM=>?_⟩;obtain⟨e',h4,h5,h6,h7⟩:=h3 k kv dM;have:e=e':=by
   simp_all
  subst this;exact⟨h5,h6,h7⟩
 .rintro⟨entries,h1,h2,h3⟩;refine⟨entries,h1,by simpa using h2,λk kv dM=>?_⟩;have hk:k<es.length:=(zt.1 dM).1;have oA:k<entries.toList.length:=by omega
  obtain⟨h4,h5,h6⟩:=h3 k entries.toList[k] kv (z9 oA) dM;simp_all
theorem XT:∀ {s:List MK}{l:List Value},fits s l=true->l.length=s.length
 |[],[],_=>rfl
 |_::s,_::l,h=>by simp only[fits,z8] at h;simp[XT h.2]
 |[],_::_,h=>by cases h
 |_::_,[],h=>by cases h
theorem N9:∀ {s r:List MK}{l:List Value},fits (s++r) l=true->fits s (l.take s.length)=true/\fits r (l.drop s.length)=true
 |[],r,l,h=>by simpa [fits] using h
 |k::s,r,[],h=>by cases h
 |k::s,r,v::l,h=>by simp only[xu,fits,z8] at h;obtain⟨h1,h2⟩:=N9 h.2;simp only[zG,wg,wz,fits,z8];exact⟨⟨h.1,h1⟩,h2⟩
theorem Ma:∀ (n:Nat) (l m:List Value),l.length=m.length->Qn l m=(Qn (l.take n) (m.take n)&&Qn (l.drop n) (m.drop n))
 |0,l,m,_=>by simp[Qn]
 |n+1,[],[],_=>by simp[Qn]
 |n+1,a::l,b::m,h=>by simp only[Qn,wg,wz];rw[Ma n l m (by simpa using h),Bool.and_assoc]
 |n+1,[],_::_,h=>by simp at h
 |n+1,_::_,[],h=>by simp at h
def mkT (P:Program) (t:TypeId) (cs:List Value):Value:=match P.underlying t with
 |some (.struct _)=>.agg cs.toArray
 |some (.array _ _)=>.agg cs.toArray
 |_=>cs.headD undef
theorem Ga {m:Nat}{t:TypeId}{s:List MK}(hs:shp P m t=some s) (hc:P.cellsOf t=s.length) {xs:Array Value}{off:Nat}(hf:fits s ((xs.toList.drop off).take s.length)=true) (w:World) :
  (part t xs off).run P w=.ok (mkT P t ((xs.toList.drop off).take s.length)) w:=by
 cases m with
 |zero=>simp[shp] at hs
 |succ m =>
  simp only[shp] at hs;have plain:∀ kd,P.underlying t=some kd->(∀ n e,kd≠.array n e)->(∀ fs,kd≠.struct fs)->s.length=1->(part t xs off).run P w=.ok (mkT P t ((xs.toList.drop off).take s.length)) w:=λkd hu h1 h2 h3=>by
   have hl:=XT hf;rw[h3] at hl |-;have ai:off<xs.size:=by
    grind
   have e:(xs.toList.drop off).take 1=[xs[off]]:=by
    grind [List.drop_eq_getElem_cons]
   rw[e];have:mkT P t [xs[off]]=xs[off]:=by unfold mkT;simp_all
   rw[this];cases kd<;>first|(exact absurd rfl (h1 _ _))|(exact absurd rfl (h2 _))|simp[part,isAgg,run_underlying hu,xO ai]
  have agg:∀ kd,P.underlying t=some kd->((∃ n e,kd=.array n e)\/∃ fs,kd=.struct fs)->(part t xs off).run P w=.ok (mkT P t ((xs.toList.drop off).take s.length)) w:=λkd hu hk=>by
   obtain⟨i,hi⟩:=info_of_underlying hu;have hl:(xs.extract off (off+P.cellsOf t))=((xs.toList.drop off).take s.length).toArray:=by
    grind
   rcases hk with⟨n,e,rfl⟩|⟨fs,rfl⟩<;>simp[part,isAgg,run_underlying hu,run_sizeOf w hi,hl,mkT,hu]
  cases hu:P.underlying t with
  |none=>rw[hu] at hs;cases hs
  |some kd =>
   rw[hu] at hs;cases kd
   case bool=>grind
   case int q=>grind
   case string=>grind
   case array n e=>exact agg _ hu (.inl ⟨_,_,rfl⟩)
   case struct fs=>exact agg _ hu (.inr ⟨_,rfl⟩)
   all_goals cases hs
theorem Od {g:TypeId->Option (List MK)}{m d:Nat}(hg:g=shp P m) (ih:∀ t s,shp P m t=some s->∀ (w:World) (cs ds:List Value),fits s cs=true->fits s ds=true->(Op.equalIn (d+m) t (mkT P t cs) (mkT P t ds)).run P w=.ok (Qn cs ds) w) {xs ys:Array Value}(w:World) :
  ∀ (fs:List Field) (off:Nat) (ss:List MK),FY P g fs off=some ss->fits ss (xs.toList.drop off)=true->fits ss (ys.toList.drop off)=true->(Op.eqFields (d+m) xs ys fs).run P w=.ok (Qn (xs.toList.drop off) (ys.toList.drop off)) w
 |[],off,ss,h,h1,h2=>by simp only[FY,xq] at h;subst h;have e1:=XT h1;have e2:=XT h2;rw[List.eq_nil_of_length_eq_zero e1];simp[Op.eqFields,Qn]
 |f::r,off,ss,h,h1,h2=>by
  simp only[FY] at h;split at h
  .rename_i hn;obtain⟨hn,rfl⟩:=hn;split at h
   .rename_i s hs;split at h
    .rename_i hc;obtain⟨q,hq,rfl⟩:=zq.1 h;obtain⟨a1,a2⟩:=N9 h1;obtain⟨b1,b2⟩:=N9 h2;rw[List.drop_drop] at a2 b2;rw[hg] at hs;have p1:=Ga hs hc a1 w;have p2:=Ga hs hc b1 w;have p3:=ih f.type s hs w _ _ a1 b1;have hr:=Od hg ih w r (f.offset+s.length) q hq a2 b2;rw[Ma s.length _ _ (by rw[XT h1,XT h2]),List.drop_drop,List.drop_drop];simp only[Op.eqFields,hn,ne_eq,not_false_eq_true,zz,zx,p1,p2,p3,zh];cases hb:Qn (List.take s.length (List.drop f.offset xs.toList)) (List.take s.length (List.drop f.offset ys.toList)) with
     |false=>simp
     |true=>simpa using hr
    .cases h
   .cases h
  .cases h
theorem TN {m d:Nat}{e:TypeId}{s:List MK}(hs:shp P m e=some s) (hc:P.cellsOf e=s.length) (ih:∀ (w:World) (cs ds:List Value),fits s cs=true->fits s ds=true->(Op.equalIn (d+m) e (mkT P e cs) (mkT P e ds)).run P w=.ok (Qn cs ds) w) {xs ys:Array Value}(w:World) :
  ∀ (k i:Nat),fits (List.replicate k s).flatten (xs.toList.drop (i*s.length))=true->fits (List.replicate k s).flatten (ys.toList.drop (i*s.length))=true->(Op.eqItems (d+m) e (P.cellsOf e) xs ys (List.range' i k)).run P w=.ok (Qn (xs.toList.drop (i*s.length)) (ys.toList.drop (i*s.length))) w
 |0,i,h1,h2=>by have e1:=XT h1;have e2:=XT h2;simp only[List.replicate_zero,List.flatten_nil,List.length_nil] at e1 e2;rw[List.eq_nil_of_length_eq_zero e1];simp[Op.eqItems,Qn]
 |k+1,i,h1,h2=>by
  rw[xE,List.flatten_cons] at h1 h2;obtain⟨a1,a2⟩:=N9 h1;obtain⟨b1,b2⟩:=N9 h2;rw[List.drop_drop,<-Nat.succ_mul] at a2 b2;have p1:=Ga hs hc a1 w;have p2:=Ga hs hc b1 w;have p3:=ih w _ _ a1 b1;have hr:=TN hs hc ih w k (i+1) a2 b2;rw[Ma s.length _ _ (by rw[XT h1,XT h2]),List.drop_drop,List.drop_drop,<-Nat.succ_mul];rw[hc] at hr |-;simp only[List.range'_succ,Op.eqItems,zx,p1,p2,p3,zh];cases hb:Qn (List.take s.length (List.drop (i*s.length) xs.toList)) (List.take s.length (List.drop (i*s.length) ys.toList)) with
  |false=>simp
  |true=>simpa using hr
theorem N5 (d:Nat):∀ (m:Nat) (t:TypeId) (s:List MK),shp P m t=some s->∀ (w:World) (cs ds:List Value),fits s cs=true->fits s ds=true->(Op.equalIn (d+m) t (mkT P t cs) (mkT P t ds)).run P w=.ok (Qn cs ds) w
 |0,t,s,h=>by simp[shp] at h
 |m+1,t,s,h=>by
  intro w cs ds h1 h2;simp only[shp] at h;have one:∀ {k:MK}{cs:List Value},fits [k] cs=true->∃ a,cs=[a]/\OA k a=true:=λ{k cs} h=>by
   cases cs with
   |nil=>cases h
   |cons a l =>
    cases l with
    |nil=>exact⟨a,rfl,by simpa [fits] using h⟩
    |cons b l=>simp[fits] at h
  cases hu:P.underlying t with
  |none=>rw[hu] at h;cases h
  |some kd =>
   rw[hu] at h;cases kd
   case bool =>
    obtain rfl:=osj h;obtain⟨a,rfl,ha⟩:=one h1;obtain⟨b,rfl,hb⟩:=one h2;cases a<;>first|(cases ha;done)|skip
    cases b<;>first|(cases hb;done)|skip
    simp only[mkT,hu,List.headD_cons,Qn,KR,xU];exact run_equalIn_bool' w (d+m) t _ _ hu
   case int q =>
    obtain rfl:=osj h;obtain⟨a,rfl,ha⟩:=one h1;obtain⟨b,rfl,hb⟩:=one h2;cases a<;>first|(cases ha;done)|skip
    cases b<;>first|(cases hb;done)|skip
    simp only[OA,zr] at ha hb;subst ha;subst hb;simp only[mkT,hu,List.headD_cons,Qn,KR,xU]
    grind [run_equalIn_int]
   case string =>
    obtain rfl:=osj h;obtain⟨a,rfl,ha⟩:=one h1;obtain⟨b,rfl,hb⟩:=one h2;cases a<;>first|(cases ha;done)|skip
    cases b<;>first|(cases hb;done)|skip
    simp only[mkT,hu,List.headD_cons,Qn,KR,xU]
    grind [ByteArray.toList_eq,run_equalIn_string]
   case array n e =>
    simp only at h;split at h
    .rename_i s' aZ;split at h
     .rename_i hc;obtain rfl:=osj h;obtain⟨i,hi⟩:∃ i,P.info? e=some i:=by
       cases m with
       |zero=>simp[shp] at aZ
       |succ m =>
        simp only[shp] at aZ;cases iQ:P.underlying e with
        |none=>rw[iQ] at aZ;cases aZ
        |some _=>exact info_of_underlying iQ
      simp only[mkT,hu];rw[show d+(m+1)=(d+m)+1 from rfl,run_equalIn_array w (d+m) _ _ hu hi,List.range_eq_range'];have:=TN (d:=d) aZ hc (N5 d m e s' aZ) (xs:=cs.toArray) (ys:=ds.toArray) w n 0 (by simpa using h1) (by simpa using h2);simpa using this
     .cases h
    .cases h
   case struct fs =>
    simp only at h;split at h
    .cases h
    .rename_i aY;have oD:P.fieldsOf t=fs:=by simp[Program.fieldsOf,hu]
     simp only[mkT,hu];rw[show d+(m+1)=(d+m)+1 from rfl,run_equalIn_struct w (d+m) t _ _ (by rw[oD];exact hu) (by simpa using aY),oD];have:=Od (d:=d) rfl (N5 d m) (xs:=cs.toArray) (ys:=ds.toArray) w fs.toList 0 s h (by simpa using h1) (by simpa using h2);simpa using this
   all_goals cases h
theorem Tm {n:Nat}:∀ {s:List MK}{l m:List Value},fits s l=true->LRel ρ n l m->m=l
 |[],[],m,_,hr=>by have:=hr.1;grind
 |k::s,v::l,[],_,hr=>by have:=hr.1;simp at this
 |k::s,v::l,c::m,h,hr=>by
  simp only[fits,z8] at h;have h0:=hr.2 0 v c rfl rfl;have e:c=v:=by cases k<;>cases v<;>first|(cases h.1;done)|(cases h0;rfl)
  have kC:LRel ρ n l m:=⟨by have:=hr.1;simpa using this,λi a b ha hb=>hr.2 (i+1) a b (by simpa using ha) (by simpa using hb)⟩;rw[e,Tm h.2 kC]
 |[],_::_,_,h,_=>by cases h
 |_::_,[],_,h,_=>by cases h
def Q6n (P:Program) (t:TypeId):MK->TypeDesc->Prop
 |.int k,d=>d=.int k
 |.string,d=>d=.string
 |.bool,d=>d=.bool
 |.agg s,d=>shp P 8 t=some s/\((∃ fs,d=.struct fs)\/∃ n e,d=.array n e)
theorem M7 {t:TypeId}{mk:MK}(h:Ep P t=some mk):∃ d,P.underlying t=some d/\Q6n P t mk d:=by
 unfold Ep at h;split at h
 .rename_i k hk;simp at h;subst h;exact⟨_,hk,rfl⟩
 .rename_i hk;simp at h;subst h;exact⟨_,hk,rfl⟩
 .rename_i hk;simp at h;subst h;exact⟨_,hk,rfl⟩
 .rename_i fs hk;obtain⟨s,hs,rfl⟩:=zq.1 h;exact⟨_,hk,hs,.inl ⟨fs,rfl⟩⟩
 .rename_i n e hk;obtain⟨s,hs,rfl⟩:=zq.1 h;exact⟨_,hk,hs,.inr ⟨n,e,rfl⟩⟩
 .cases h
theorem Vp {n:Nat}{v c:Value}(h:Z4 v=true) (hv:VRel ρ n v c):c=v:=by cases hv<;>first|rfl|(simp[Z4,poison] at h)
theorem Rf {mk:MK}{k c:Value}{n:Nat}(h:Zm mk k=true) (hv:VRel ρ n k c):c=k:=by
 unfold Zm at h;split at h<;>first|(cases h;done)|(exact Vp rfl hv)|skip
 obtain⟨ds,rfl,hl⟩:=hv.q1l
 grind [Tm,Array.toList_inj]
def MK.plain:MK->Bool
 |.agg _=>false
 |_=>true
theorem Q0q {mk:MK}(hp:mk.plain=true) {t:TypeId}{d:TypeDesc}(hd:Q6n P t mk d) {a b:Value}(ha:Zm mk a=true) (hb:Zm mk b=true):Instr.sameNow d a b=some (Xz a b):=by
 cases mk
 case agg=>cases hp
 all_goals
  cases a<;>first|(cases ha;done)|skip
  cases b<;>first|(cases hb;done)|skip
  simp only[Q6n] at hd;subst hd
 .simp[Zm] at ha hb;subst ha;subst hb;simp[Instr.sameNow,Xz]
 .simp[Instr.sameNow,Xz,beq_toListBytes,ByteArray.toList_eq]
 .simp[Instr.sameNow,Xz]
theorem Lx:∀ {s:List MK}{l m:List Value},fits s l=true->fits s m=true->Qn l m=true->((m.zip l).all λp=>Instr.sameBits 9999 p.1 p.2)=true
 |[],[],[],_,_,_=>rfl
 |k::s,a::l,b::m,h1,h2,h3=>by
  simp only[fits,Qn,z8] at h1 h2 h3;simp only[List.zip_cons_cons,zQ,z8];refine⟨?_,Lx h1.2 h2.2 h3.2⟩;obtain⟨h1,_⟩:=h1;obtain⟨h2,_⟩:=h2;obtain⟨h3,_⟩:=h3;cases k<;>cases a<;>first|(cases h1;done)|(cases b<;>first|(cases h2;done)|skip)
  .simp only[OA,zr] at h1 h2;subst h1;subst h2;simp only[KR,zK] at h3;subst h3;simp[Instr.sameBits]
  .simp only[KR,zK] at h3;simp[Instr.sameBits,beq_toListBytes,ByteArray.toList_eq,h3]
  .simp only[KR,zK] at h3;subst h3;simp[Instr.sameBits]
 |[],_::_,_,h,_,_=>by cases h
 |[],[],_::_,_,h,_=>by cases h
 |_::_,[],_,h,_,_=>by cases h
 |_::_,_::_,[],_,h,_=>by cases h
theorem Dd {mk:MK}{a b:Value}(ha:Zm mk a=true) (hb:Zm mk b=true) (h:Xz a b=true):Instr.sameBits 10000 b a=true:=by
 cases mk
 case agg s =>
  cases a<;>first|(cases ha;done)|skip
  cases b<;>first|(cases hb;done)|skip
  rename_i x y;simp only[Zm] at ha hb;simp only[Xz] at h;simp only[Instr.sameBits,z8,zK];have h1:=XT ha;have h2:=XT hb
  grind [Lx]
 all_goals
  cases a<;>first|(cases ha;done)|skip
  cases b<;>first|(cases hb;done)|skip
 .simp[Zm] at ha hb;subst ha;subst hb;simp[Xz] at h;subst h;simp[Instr.sameBits]
 .simp[Xz] at h;simp[Instr.sameBits,beq_toListBytes,ByteArray.toList_eq,h]
 .simp[Xz] at h;simp[Instr.sameBits,h]
theorem K7 {t:TypeId}{d:TypeDesc}(hd:P.underlying t=some d) {a:Value}(hm:(∃ k,d=.int k)\/d=.string\/d=.bool) (e:Bool) (n:Nat) (w':World):(Instr.checkKey e (n+1) t a).run P w'=.ok () w':=by simp only[Instr.checkKey,zx,Q0 hd,zh];rcases hm with⟨k,rfl⟩|rfl|rfl<;>rfl
theorem Im {e:Bool}{g:TypeId->Option (List MK)}{m d:Nat}(hg:g=shp P m) (ih:∀ t s,shp P m t=some s->∀ (w:World) (cs:List Value),fits s cs=true->(Instr.checkKey e (d+m) t (mkT P t cs)).run P w=.ok () w) {xs:Array Value}(w:World) :
  ∀ (fs:List Field) (off:Nat) (ss:List MK),FY P g fs off=some ss->fits ss (xs.toList.drop off)=true->(forIn fs PUnit.unit λf (_:PUnit)=>(do
   if f.name≠"_" then Instr.checkKey e (d+m) f.type (<-part f.type xs f.offset)
   pure (ForInStep.yield PUnit.unit):Sem (ForInStep PUnit))).run P w=.ok PUnit.unit w
 |[],off,ss,h,h1=>by simp
 |f::r,off,ss,h,h1=>by
  simp only[FY] at h;split at h
  .rename_i hn;obtain⟨hn,rfl⟩:=hn;split at h
   .rename_i s hs;split at h
    .rename_i hc;obtain⟨q,hq,rfl⟩:=zq.1 h;obtain⟨a1,a2⟩:=N9 h1;rw[List.drop_drop] at a2;rw[hg] at hs;have p1:=Ga hs hc a1 w;have p3:=ih f.type s hs w _ a1;have hr:=Im hg ih w r (f.offset+s.length) q hq a2;simp_all
    .cases h
   .cases h
  .cases h
theorem Tt (e:Bool) (d:Nat):∀ (m:Nat) (t:TypeId) (s:List MK),shp P m t=some s->∀ (w:World) (cs:List Value),fits s cs=true->(Instr.checkKey e (d+m) t (mkT P t cs)).run P w=.ok () w
 |0,t,s,h=>by simp[shp] at h
 |m+1,t,s,h=>by
  intro w cs h1;simp only[shp] at h;cases hu:P.underlying t with
  |none=>rw[hu] at h;cases h
  |some kd =>
   rw[hu] at h;cases kd
   case bool=>grind [K7]
   case int q=>grind [K7]
   case string=>rw[show d+(m+1)=(d+m)+1 from rfl];exact K7 hu (by simp) e (d+m) w
   case array n el =>
    simp only at h;split at h
    .rename_i s' aZ;split at h
     .rename_i hc;obtain rfl:=osj h;obtain⟨i,hi⟩:∃ i,P.info? el=some i:=by
       cases m with
       |zero=>simp[shp] at aZ
       |succ m =>
        simp only[shp] at aZ;cases iQ:P.underlying el with
        |none=>rw[iQ] at aZ;cases aZ
        |some _=>exact info_of_underlying iQ
      simp only[mkT,hu];rw[show d+(m+1)=(d+m)+1 from rfl,Instr.checkKey];simp only[zx,run_underlying hu,zh];simp only[Std.Legacy.Range.forIn_eq_forIn_range',Std.Legacy.Range.size,Nat.sub_zero,Nat.add_one_sub_one,Nat.div_one]
      have key:∀ (k i:Nat),fits (List.replicate k s').flatten (cs.drop (i*s'.length))=true->(forIn (List.range' i k) PUnit.unit λi (_:PUnit)=>(do
        Instr.checkKey e (d+m) el (<-part el cs.toArray (i*(<-sizeOf el)))
        pure (ForInStep.yield PUnit.unit):Sem (ForInStep PUnit))).run P w=.ok PUnit.unit w:=by
       intro k;induction k with
       |zero=>intro i _;simp
       |succ k sR =>intro i hf;rw[xE,List.flatten_cons] at hf;obtain⟨a1,a2⟩:=N9 hf;rw[List.drop_drop,<-Nat.succ_mul] at a2;have p1:=Ga (xs:=cs.toArray) (off:=i*s'.length) aZ hc (by simpa using a1) w;have p2:=Tt e d m el s' aZ w _ a1;have hr:=sR (i+1) a2;simp only[List.range'_succ,List.forIn_cons,zx,run_sizeOf w hi,hc,zh,p1,p2,xn];exact hr
      simp_all
     .cases h
    .cases h
   case struct fs =>
    simp only at h;split at h
    .cases h
    .simp only[mkT,hu];rw[show d+(m+1)=(d+m)+1 from rfl,Instr.checkKey];simp only[zx,run_underlying hu,zh];rw[<-Array.forIn_toList];have:=Im (e:=e) (d:=d) rfl (Tt e d m) (xs:=cs.toArray) w fs.toList 0 s h (by simpa using h1);simp_all
   all_goals cases h
theorem FM {t:TypeId}{d:TypeDesc}(hd:P.underlying t=some d) (hk:(∃ fs,d=.struct fs)\/∃ n e,d=.array n e) (a:Array Value):mkT P t a.toList=.agg a:=by unfold mkT;rcases hk with⟨fs,rfl⟩|⟨n,e,rfl⟩<;>simp[hd]
theorem ZL {mk:MK}{t:TypeId}{d:TypeDesc}(hd:P.underlying t=some d) (hm:Q6n P t mk d) {a:Value}(ha:Zm mk a=true) (e:Bool) (w':World):(Instr.checkKey e 10000 t a).run P w'=.ok () w':=by
 cases mk
 case agg s =>
  cases a<;>first|(cases ha;done)|skip
  rename_i x;have:=Tt (P:=P) e 9992 8 t s hm.1 w' x.toList ha;rw[FM hd hm.2] at this;exact this
 all_goals (cases a<;>first|(cases ha;done)|(simp only[Q6n] at hm;subst hm;exact K7 hd (by simp) e 9999 w'))
theorem Q0j {mk:MK}(hp:mk.plain=true) {t:TypeId}{d:TypeDesc}(hd:Q6n P t mk d) {k:Value}(hk:Zm mk k=true) (nv:Value) (c:Nat) {n:Nat}:∀ (es:List Jp) (E:List MapEntry) (i:Nat),LERel ρ n E es->es.all (λe=>Zm mk e.1)=true ->
  (Qf k es=none/\Instr.findNow d k E i=some none/\Qt k nv c es=(es++[(k,nv,c)],c+1)) \/
  (∃ j e e',Qf k es=some e/\es[j]?=some e/\E[j]?=some e'/\Instr.findNow d k E i=some (some (i+j,e'.val))/\Xz k e.1=true/\Qt k nv c es=(es.set j (k,nv,e.2.2),c)):=by
 intro es;induction es with
 |nil =>
  intro E i hE _;have:E=[]:=by have:=hE.1;simpa using this
  subst this;exact .inl ⟨rfl,rfl,rfl⟩
 |cons kv es ih =>
  intro E i hE hall;obtain⟨e,E',rfl,he,bN⟩:=hE.cons_inv;simp only[zQ,z8] at hall;have hs:Instr.sameNow d k e.key=some (Xz k kv.1):=by rw[he.1];exact Q0q hp hd hk hall.1
  cases hq:Xz k kv.1 with
  |true =>refine .inr ⟨0,kv,e,by simp[Qf,hq],rfl,rfl,?_,hq,by simp[Qt,hq]⟩;simp[Instr.findNow,hs,hq]
  |false =>
   rcases ih E' (i+1) bN hall.2 with⟨h1,h2,h3⟩|⟨j,a,a',h1,h2,h3,h4,h5,h6⟩
   .refine .inl ⟨by simp[Qf,hq,h1],by simp[Instr.findNow,hs,hq,h2],by simp[Qt,hq,h3]⟩
   .refine .inr ⟨j+1,a,a',by simp[Qf,hq,h1],by simpa using h2,by simpa using h3,?_,h5,by simp[Qt,hq,h6]⟩;simp[Instr.findNow,hs,hq,h4];omega
theorem DG {t:TypeId}{d:TypeDesc}(hd:P.underlying t=some d) {k:Value}{E:List MapEntry}{r:Option (Nat×Value)}(h:Instr.findNow d k E 0=some r) (w':World):(Instr.findKey t k E).run P w'=.ok r w':=by simp[Instr.findKey,Q0 hd,h]
theorem Q08 {s:List MK}{t:TypeId}{d:TypeDesc}(hu:P.underlying t=some d) (hd:Q6n P t (.agg s) d) {k:Value}(hk:Zm (.agg s) k=true) (nv:Value) (c:Nat) {n:Nat}:∀ (es:List Jp) (E:List MapEntry) (i:Nat),LERel ρ n E es->es.all (λe=>Zm (.agg s) e.1)=true ->
  (Qf k es=none/\(∀ w',(Instr.findAsking t k E i).run P w'=.ok none w')/\Qt k nv c es=(es++[(k,nv,c)],c+1)) \/
  (∃ j e e',Qf k es=some e/\es[j]?=some e/\E[j]?=some e'/\(∀ w',(Instr.findAsking t k E i).run P w'=.ok (some (i+j,e'.val)) w')/\Xz k e.1=true/\Qt k nv c es=(es.set j (k,nv,e.2.2),c)):=by
 intro es;induction es with
 |nil =>
  intro E i hE _;have:E=[]:=by have:=hE.1;simpa using this
  subst this;exact .inl ⟨rfl,λw'=>by simp[Instr.findAsking],rfl⟩
 |cons kv es ih =>
  intro E i hE hall;obtain⟨e,E',rfl,he,bN⟩:=hE.cons_inv;simp only[zQ,z8] at hall;have hs:∀ w',(Op.equal t k e.key).run P w'=.ok (Xz k kv.1) w':=λw'=>by
   rw[he.1];have h1:=hall.1;cases k<;>first|(cases hk;done)|skip
   rename_i x;generalize dM:kv.1=y at h1 |-;cases y<;>first|(cases h1;done)|skip
   rename_i y;have:=N5 9992 8 t s hd.1 w' x.toList y.toList hk h1;rw[FM hu hd.2,FM hu hd.2] at this;exact this
  cases hq:Xz k kv.1 with
  |true =>refine .inr ⟨0,kv,e,by simp[Qf,hq],rfl,rfl,λw'=>?_,hq,by simp[Qt,hq]⟩;simp[Instr.findAsking,hs,hq]
  |false =>
   rcases ih E' (i+1) bN hall.2 with⟨h1,h2,h3⟩|⟨j,a,a',h1,h2,h3,h4,h5,h6⟩
   .refine .inl ⟨by simp[Qf,hq,h1],λw'=>by simp[Instr.findAsking,hs,hq,h2],by simp[Qt,hq,h3]⟩
   .refine .inr ⟨j+1,a,a',by simp[Qf,hq,h1],by simpa using h2,by simpa using h3,λw'=>?_,h5,by simp[Qt,hq,h6]⟩;simp[Instr.findAsking,hs,hq,h4];omega
theorem FI {t:TypeId}{s:List MK}{d:TypeDesc}(hd:Q6n P t (.agg s) d) {k:Value}{e:MapEntry}{E:List MapEntry}{i:Nat}:Instr.findNow d k (e::E) i=none:=by rcases hd.2 with⟨fs,rfl⟩|⟨n,el,rfl⟩<;>simp[Instr.findNow,Instr.sameNow]
theorem Kr {mk:MK}{t:TypeId}{d:TypeDesc}(hu:P.underlying t=some d) (hd:Q6n P t mk d) {k:Value}(hk:Zm mk k=true) (nv:Value) (c:Nat) {n:Nat}(es:List Jp) (E:List MapEntry) (hE:LERel ρ n E es) (hall:es.all (λe=>Zm mk e.1)=true) :
  (Qf k es=none/\(∀ w',(Instr.findKey t k E).run P w'=.ok none w')/\Qt k nv c es=(es++[(k,nv,c)],c+1)) \/
  (∃ j e e',Qf k es=some e/\es[j]?=some e/\E[j]?=some e'/\(∀ w',(Instr.findKey t k E).run P w'=.ok (some (0+j,e'.val)) w')/\Xz k e.1=true/\Qt k nv c es=(es.set j (k,nv,e.2.2),c)):=by
 cases hp:mk.plain with
 |true =>
  rcases Q0j hp hd hk nv c es E 0 hE hall with⟨h1,h2,h3⟩|⟨j,a,a',h1,h2,h3,h4,h5,h6⟩
  .grind [DG]
  .grind [DG]
 |false =>
  cases mk with
  |agg s =>
   have e1:∀ w',(Instr.findKey t k E).run P w'=(Instr.findAsking t k E 0).run P w':=λw'=>by
    cases E with
    |nil=>simp[Instr.findKey,Q0 hu,Instr.findNow,Instr.findAsking]
    |cons e E=>simp[Instr.findKey,Q0 hu,FI hd]
   rcases Q08 hu hd hk nv c es E 0 hE hall with⟨h1,h2,h3⟩|⟨j,a,a',h1,h2,h3,h4,h5,h6⟩
   .simp_all
   .grind
  |_=>cases hp
theorem XJ {m:Nat}{es:List Jp}{clock:Nat}{wr:Bool}(h:U.mapAt m=some (es,clock,wr)):U.get m=some (.obj (.map es clock) wr):=by
 unfold Heap.mapAt at h
 grind
theorem XM (hH:HRel ρ U w) {m:Nat}{es:List Jp}{clock:Nat}{wr:Bool}(h:U.mapAt m=some (es,clock,wr)) {c:Value}(hv:VRel ρ U.n (.map (some m)) c) :
  ∃ p entries,c=.map (some p.blk)/\ρ m=some p/\w.heap[p.blk]?=some (.map entries clock)/\LERel ρ U.n entries.toList es:=by
 obtain⟨p,hp,_,O,h1,h2⟩:=hH.live m _ (XJ h);obtain⟨entries,rfl,h3⟩:=ORel.q0q.1 h2;obtain⟨r,rfl,_,hr⟩:=hv.q1h
 grind
theorem QE {w':World}{r:Nat}{O:Obj}(h:w'.heap[r]?=some O) (hc:∀ c e f,O≠.cells c e f):(getObj r).run P w'=.ok O w':=by cases O<;>first|(exact absurd rfl (hc _ _ _))|simp[getObj,Sem.run,h]
theorem QX {w':World}{r:Nat}{O O':Obj}(h:w'.heap[r]?=some O) (hc:∀ c e f,O≠.cells c e f):(setObj r O').run P w'=.ok () (RX w' r O'):=by cases O<;>first|(exact absurd rfl (hc _ _ _))|simp[setObj,Sem.run,h,RX]
theorem LH {xs:List Value}{s:ByteArray}(h:P0 xs=some s):∃ ns:List Int,xs=ns.map (Value.int .u8)/\s=⟨(ns.map λn=>n.toNat.toUInt8).toArray⟩:=by
 unfold P0 at h;rw[zq] at h;obtain⟨bs,h1,rfl⟩:=h;have key:∀ (xs:List Value) (bs:List UInt8),xs.mapM I1=some bs->∃ ns:List Int,xs=ns.map (Value.int .u8)/\bs=ns.map λn=>n.toNat.toUInt8:=by
  intro xs;induction xs with
  |nil=>intro bs h;simp at h;subst h;exact⟨[],rfl,rfl⟩
  |cons x xs ih =>
   intro bs h;rw[xg] at h;cases hx:I1 x with
   |none=>simp[hx] at h
   |some b =>
    cases hm:xs.mapM I1 with
    |none=>simp[hx,hm] at h
    |some vt =>
     simp[hx,hm] at h;obtain⟨ns,h1,h2⟩:=ih _ hm;unfold I1 at hx;split at hx
     .rename_i n;simp at hx;exact⟨n::ns,by simp[h1],by rw[<-h,h2,<-hx];rfl⟩
     .cases hx
 simp_all
theorem Q6i {n:Nat}{ns:List Int}{us:List Value}(h:LRel ρ n (ns.map (Value.int .u8)) us):us=ns.map (Value.int .u8):=by
 apply zS;intro i;cases hi:(ns.map (Value.int .u8))[i]? with
 |none =>have h1:(ns.map (Value.int .u8)).length<=i:=List.getElem?_eq_none_iff.1 hi;exact List.getElem?_eq_none_iff.2 (by rw[<-h.1];exact h1)
 |some v =>
  obtain⟨c,hc,hv⟩:=h.get hi;rw[hc];rw[xw] at hi;cases hn:ns[i]? with
  |none=>rw[hn] at hi;cases hi
  |some x=>rw[hn] at hi;obtain rfl:=osj hi;rw[hv.q0g]
theorem OI (ns:List Int):∀ (acc:ByteArray),ns.foldl (λr n=>r.push (UInt8.ofNat n.toNat)) acc=⟨acc.data++(ns.map λn=>n.toNat.toUInt8).toArray⟩:=by
 induction ns with
 |nil=>intro acc;simp
 |cons n ns ih =>intro acc;rw[wj,ih];apply ByteArray.ext;simp[ByteArray.push]
theorem Q4m {n:Nat}(b:Nat):∀ (es:List Jp) (E:List MapEntry),LERel ρ n E es->∀ e,es.find? (λe=>e.2.2==b)=some e->∃ e',E.find? (λx=>x.born==b)=some e'/\Z1r ρ n e' e:=by
 intro es;induction es with
 |nil=>intro E _ e h;simp at h
 |cons kv es ih =>
  intro E hE e h;obtain⟨x,E',rfl,hx,bN⟩:=hE.cons_inv;cases hb:kv.2.2==b with
  |true =>simp only[List.find?_cons,hb] at h;obtain rfl:=osj h;exact⟨x,by simp only[List.find?_cons,hx.2.1,hb],hx⟩
  |false =>simp only[List.find?_cons,hb] at h;obtain⟨e',h1,h2⟩:=ih E' bN e h;exact⟨e',by simp only[List.find?_cons,hx.2.1,hb];exact h1,h2⟩
theorem OW {u:TypeId}(hc:P.cellsOf u≠0) (n off:Nat) (h0:off=0) (hn:P.cellsOf u<=n):liesAt P P.depth u (n / P.cellsOf u) off u 1=true:=by have hd:P.depth=(2*(P.types.size+Made.depth)+1)+1:=rfl;have h1:1<=n / P.cellsOf u:=(Nat.one_le_div_iff (by omega)).2 hn;subst h0;rw[hd];simp only[liesAt,zy];left;rw[hd];simp[rowAt,hc,sameLayout,h1]
set_option maxHeartbeats 1000000 in
theorem EU {o:Oper}{xo:XOp}(hc:Si P o.op=some xo) (hq:xo.quiet=true) (hH:HRel ρ U w) (hE:∀ x,Xv x=true->VRel ρ U.n (Q4 env x) (ev x))
  (h:ZA xo (Q4 env) U=some (v,U')):U'=U/\AI P ρ U w v (execOp ev o):=by
 obtain⟨dst,op,ty,pos,after,guard⟩:=o;simp only at hc;unfold Si at hc;split at hc
 .cases hc
 rename_i ak;simp only[xk,z_] at ak;cases op<;>simp only[Op.operands] at ak hc
 case binOp iO t x y yt =>
  simp at ak;have hx:=hE x ak.1;have hy:=hE y ak.2
  have key:∀ (kd:Nat) (neg:Bool),iO=(if neg then .neq else .eql)->((kd=0/\∃ e i,P.underlying t=some (.pointer e)/\P.info? e=some i)\/(kd=1/\∃ e,P.underlying t=some (.slice e)) \/
   (kd=2/\∃ k e,P.underlying t=some (.map k e))\/(kd=3/\∃ p q s,P.underlying t=some (.func p q s)))->xo=.eqNil kd neg x y->U'=U/\AI P ρ U w v (execOp ev ⟨dst,.binOp iO t x y yt,ty,pos,after,guard⟩):=by
   intro kd neg kD hk l5;subst l5;simp only[ZA] at h;split at h
   .rename_i r hs;simp at h;obtain⟨rfl,rfl⟩:=h;obtain⟨h1,h2⟩:=Q04 hH hk hx hy hs;rw[kD];exact⟨rfl,O3 neg t x y yt ty pos after dst guard rfl rfl (by grind [CS]) (h1 neg)⟩
   .cases h
  have sS:∀ (neg:Bool),iO=(if neg then .neq else .eql)->((∃ fs,P.underlying t=some (.struct fs))\/∃ n e,P.underlying t=some (.array n e))->Sl P neg t x y=some xo->U'=U/\AI P ρ U w v (execOp ev ⟨dst,.binOp iO t x y yt,ty,pos,after,guard⟩):=by
   intro neg kD hk l5;unfold Sl at l5;split at l5
   .cases l5
   .rename_i oI;obtain⟨s,hs,rfl⟩:=zq.1 l5;simp only[ZA] at h;split at h
    .rename_i a b ha hb;split at h
     .rename_i eP;simp at h;obtain⟨rfl,rfl⟩:=h;rw[ha] at hx;rw[hb] at hy;obtain⟨ca,vu,mF⟩:=hx.q1l;obtain⟨cb,vw,oJ⟩:=hy.q1l;have ea:=Tm eP.1 mF;have eb:=Tm eP.2 oJ;have e1:mkT P t a.toList=.agg a:=by
       unfold mkT;rcases hk with⟨fs,hu⟩|⟨n,e,hu⟩<;>simp[hu]
      have e2:mkT P t b.toList=.agg b:=by unfold mkT;rcases hk with⟨fs,hu⟩|⟨n,e,hu⟩<;>simp[hu]
      have aT:=λw'=>N5 9992 8 t s hs w' a.toList b.toList eP.1 eP.2;rw[e1,e2] at aT;have sU:ev x=.agg a:=by simp_all
      have sV:ev y=.agg b:=by simp_all
      rw[kD];refine⟨rfl,O3 neg t x y yt ty pos after dst guard sU sV (by grind [run_eqGuard_agg]) (λw'=>?_)⟩;have hr:=aT w';cases neg
      .simp only[zw,if_false];rw[run_eql_struct w' t a b,show (10000:Nat)=9992+8 from rfl,hr];rfl
      .simp only[zz];rw[run_neq_struct w' t a b,show (10000:Nat)=9992+8 from rfl,hr];rfl
     .cases h
    .cases h
  split at hc
  .rename_i e hu;cases hi:P.info? e with
   |none=>simp[hi] at hc
   |some i =>simp[hi] at hc;exact(by simp_all)
  .rename_i e hu;cases hi:P.info? e with
   |none=>simp[hi] at hc
   |some i =>simp[hi] at hc;exact(by simp_all)
  .simp_all
  .simp_all
  .simp_all
  .simp_all
  .simp_all
  .simp_all
  .simp_all
  .simp_all
  .simp_all
  .simp_all
  .cases hc
 case makeMap t r=>cases r<;>simp at hc;subst hc;cases hq
 case mapUpdate t m k x =>
  split at hc
  .rename_i kt e hu;cases hk:Ep P kt with
   |none=>simp[hk] at hc
   |some mk=>simp[hk] at hc;subst hc;cases hq
  .cases hc
 case insert t m k x =>
  split at hc
  .rename_i kt e hu;cases hk:Ep P kt with
   |none=>simp[hk] at hc
   |some mk=>simp[hk] at hc;subst hc;cases hq
  .cases hc
 case mapEntry t m k =>
  split at hc
  .rename_i kt e hu;cases hk:Ep P kt with
   |none=>simp[hk] at hc
   |some mk =>
    cases bO:P.info? e with
    |none=>simp[hk,bO] at hc
    |some inf =>
     cases hz:inf.zero with
     |none=>simp[hk,bO,hz] at hc
     |some z=>simp[hk,bO,hz] at hc;obtain⟨_,rfl⟩:=hc;cases hq
  .cases hc
 case entryStore t m s x=>simp at hc;subst hc;cases hq
 case range t x =>
  split at hc
  .simp at hc;subst hc;cases hq
  .cases hc
 case next x b=>cases b<;>simp at hc;subst hc;cases hq
 case lookup t x i iY =>
  simp at ak;have hx:=hE x ak.1;have hi:=hE i ak.2;split at hc
  .rename_i kt e hu;cases hk:Ep P kt with
   |none=>simp[hk] at hc
   |some mk =>
    cases bO:P.info? e with
    |none=>simp[hk,bO] at hc
    |some inf =>
     cases hz:inf.zero with
     |none=>simp[hk,bO,hz] at hc
     |some z =>
      simp[hk,bO,hz] at hc;obtain⟨kE,rfl⟩:=hc;obtain⟨d,hd,dN⟩:=M7 hk;have kA:∀ w',(zeroValue e).run P w'=.ok z w':=λw'=>Zl bO hz w';have dG:VRel ρ U.n z z:=VX kE;simp only[ZA] at h;split at h
      .rename_i bC;have pH:ev i=Q4 env i:=Rf bC hi;split at h
       .rename_i bc;rw[bc] at hx;obtain bX:=hx.q0s;simp at h;obtain⟨rfl,rfl⟩:=h;refine⟨rfl,if iY then .tuple #[z,.bool false] else z,?_,λw' _=>?_⟩
        .cases iY
         .exact dG
         .exact VRel.q0i (LRel.cons dG (LRel.cons (.bool _) (LRel.nil _ _)))
        .simp only[execOp];simp only[Instr.lookup,zx,Q0 hu,zh,bX,xn,pH,ZL hd dN bC];rw[DG hd (r:=none) rfl];cases iY<;>simp[kA]
       .rename_i m bc;rw[bc] at hx;split at h
        .rename_i es clock wr aA;split at h
         .rename_i hall;obtain⟨p,entries,bX,hp,aC,aF⟩:=XM hH aA hx;have aT:∀ w',Like ρ w w'->(getObj p.blk).run P w'=.ok (.map entries clock) w':=λw' hl =>
           QE (by rw[hl.blk m p hp];exact aC) (λ_ _ _ e=>by cases e)
          rcases Kr hd dN bC (.bool true) 0 es entries.toList aF hall with⟨h1,h2,_⟩|⟨j,a,a',h1,h2,h3,h4,_,_⟩
          .rw[h1] at h;simp at h;obtain⟨rfl,rfl⟩:=h;refine⟨rfl,if iY then .tuple #[z,.bool false] else z,?_,λw' hl=>?_⟩
           .cases iY
            .exact dG
            .exact VRel.q0i (LRel.cons dG (LRel.cons (.bool _) (LRel.nil _ _)))
           .simp only[execOp];simp only[Instr.lookup,zx,Q0 hu,zh,bX,aT w' hl,xn,pH,ZL hd dN bC];simp_all
          .rw[h1] at h;simp at h;obtain⟨rfl,rfl⟩:=h;have mG:=(aF.2 j a' a h3 h2).2.2;refine⟨rfl,if iY then .tuple #[a'.val,.bool true] else a'.val,?_,λw' hl=>?_⟩
           .cases iY
            .exact mG
            .exact VRel.q0i (LRel.cons mG (LRel.cons (.bool _) (LRel.nil _ _)))
           .simp only[execOp];simp only[Instr.lookup,zx,Q0 hu,zh,bX,aT w' hl,xn,pH,ZL hd dN bC];rw[h4];cases iY<;>simp
         .cases h
        .cases h
       .cases h
      .cases h
  .cases hc
 case entry x =>
  simp at ak;have hx:=hE x ak;simp at hc;subst hc;simp only[ZA] at h;split at h
  .rename_i i bc;rw[bc] at hx;split at h
   .rename_i m since seen last wr hb;split at h
    .rename_i es clock kF b aA dw;split at h
     .rename_i cf;split at h
      .rename_i e bY;split at h
       rotate_left
       .cases h
       rename_i aU;simp at h;obtain⟨rfl,rfl⟩:=h;obtain⟨p,hp,⟨_,ep⟩,O,hO,rm,rfl,oK⟩:=hH.live i _ hb;obtain⟨q,entries,gN,cu,aC,aF⟩:=XM hH aA oK;simp at gN;obtain⟨_,_,bX⟩:=hx.q0w hp;rw[ep] at bX;obtain⟨e',l6,jF⟩:=Q4m b es entries.toList aF e bY;rw[Array.find?_toList] at l6;have dW:(seen.toArray).back?=some b:=by simpa using dw
       have dM:VRel ρ U.n e.1 e'.key:=by rw[jF.1];exact VX aU
       refine⟨rfl,.tuple #[e'.key,e'.val],VRel.q0i (LRel.cons dM (LRel.cons jF.2.2 (LRel.nil _ _))),λw' hl=>?_⟩;have h1:=QE (P:=P) (w':=w') (r:=p.blk) (by rw[hl.blk i p hp];exact hO) (λ_ _ _ e=>by cases e);have h2:=QE (P:=P) (w':=w') (r:=q.blk) (by rw[hl.blk m q cu];exact aC) (λ_ _ _ e=>by cases e);simp only[execOp];simp only[Instr.entry,bX,xi,zx,h1,zh,dW];rw[gN,];simp[h2,cf,l6]
      .cases h
     .cases h
    .cases h
   .cases h
  .cases h
 case convert s d x =>
  simp at ak;have hx:=hE x ak;split at hc
  .rename_i t hs hd;cases hi:P.info? t with
   |none=>simp[hi] at hc
   |some inf =>
    simp[hi] at hc;obtain⟨aI,rfl⟩:=hc;simp only[ZA] at h;split at h
    .rename_i bc;rw[bc] at hx;obtain bX:=hx.q0p;simp at h;obtain⟨rfl,rfl⟩:=h;refine⟨rfl,Qm (c:=.pointer none) (λw'=>?_) .nilPtr⟩;simp[execOp,bX,convert,Q0 hs,Q0 hd,Conv.unsafePointer]
    .rename_i i o bc;rw[bc] at hx;split at h
     .rename_i c e wr tight hb;split at h
      .rename_i ai;simp at h;obtain⟨rfl,rfl⟩:=h;obtain⟨p,hp,_,_,hl,⟨C,e',f,hC,pI,_⟩,_,_⟩:=hH.live i _ hb;obtain⟨_,_,bX⟩:=hx.q0w hp;refine⟨rfl,ev x,hx,λw' iD=>?_⟩;have ep:w'.shape? p.blk=some (e',C.size):=by
        have:w'.heap[p.blk]?=some (.cells C e' f):=by rw[iD.blk i p hp];exact hC
        simp[World.shape?,this]
       simp only[execOp,bX];have:=Go.Lib.run_to_unsafe (P:=P) w' (src:=s) (dst:=d) ⟨p.blk,p.shift+o,none⟩ hs hd hi (by simpa using aI) ep (by show p.shift+o<C.size;omega);simp[this]
      .cases h
     .cases h
    .cases h
  .rename_i u hs hd;cases hi:P.info? u with
   |none=>simp[hi] at hc
   |some inf =>
    simp[hi] at hc;obtain⟨⟨aI,sW⟩,rfl⟩:=hc;simp only[ZA] at h;split at h
    .rename_i bc;rw[bc] at hx;obtain bX:=hx.q0p;simp at h;obtain⟨rfl,rfl⟩:=h;refine⟨rfl,Qm (c:=.pointer none) (λw'=>?_) .nilPtr⟩;simp[execOp,bX,convert,Q0 hs,Q0 hd,Conv.unsafePointer]
    .rename_i i o bc;rw[bc] at hx;split at h
     .rename_i c e hb;split at h
      .rename_i ai;obtain⟨rfl,het,hle⟩:=ai;simp at h;obtain⟨rfl,rfl⟩:=h;obtain⟨p,hp,_,_,hl,⟨C,e',f,hC,pI,kG⟩,_,h6⟩:=hH.live i _ hb;obtain⟨_,_,bX⟩:=hx.q0w hp;have sX:=(h6 rfl).1 rfl;refine⟨rfl,ev x,hx,λw' iD=>?_⟩;have ep:w'.shape? p.blk=some (u,C.size):=by
        have:w'.heap[p.blk]?=some (.cells C e' f):=by rw[iD.blk i p hp];exact hC
        simp[World.shape?,this,kG,het]
       simp only[execOp,bX];rw[zY] at *
       have:=Go.Lib.run_from_unsafe (P:=P) w' (src:=s) (dst:=d) ⟨p.blk,p.shift,none⟩ hs hd hi ep (OW sW _ _ sX (by omega));simp[this]
      .cases h
     .cases h
    .cases h
  .rename_i e hs hd;split at hc
   .rename_i he;simp at hc;subst hc;simp only[ZA] at h;split at h
    .rename_i a n c bc;rw[bc] at hx;split at h
     .rename_i xs bq;split at h
      .rename_i s' pJ;simp at h;obtain⟨rfl,rfl⟩:=h;obtain⟨ns,l7,rfl⟩:=LH pJ;subst l7;obtain⟨hlen,us,ef,⟨a',ao,bX⟩,aT⟩:=Lt hH bq hx;have mH:=Q6i ef;refine⟨rfl,.string ⟨(ns.map λn=>n.toNat.toUInt8).toArray⟩,.string _,λw' hl=>?_⟩;have hr:=aT w' hl;rw[bX] at hr;simp only[execOp,bX];cases a' with
       |none =>
        simp[Builtin.firstCells] at hr;have:ns=[]:=by rw[mH] at hr;simpa using hr.symm
        subst this;simp[convert,Q0 hs,Q0 hd,Q0 he,Conv.bytesToString];rfl
       |some a' =>simp only[Builtin.firstCells,wA] at hr;rw[mH] at hr;have:=run_bytesToString (P:=P) w' a' n ao ns hr;rw[OI] at this;simp[convert,Q0 hs,Q0 hd,Q0 he,this]
      .cases h
     .cases h
    .cases h
   .cases hc
  .split at hc
   .simp at hc;subst hc;cases hq
   .cases hc
  .cases hc
 case call c =>
  split at hc
  .rename_i aG;split at hc
   .rename_i t x dm cD;split at hc
    .rename_i kt e hu;simp at hc;subst hc;have bu:c.args=#[x]:=Array.ext' (by simpa using cD);have hx:VRel ρ U.n (Q4 env x) (ev x):=hE x (by simpa [Call.operands,aG,bu] using ak);simp only[ZA] at h;split at h
     .rename_i bc;rw[bc] at hx;obtain bX:=hx.q0s;simp at h;obtain⟨rfl,rfl⟩:=h;refine⟨rfl,Qm (c:=.int .i64 0) (λw'=>?_) (.int _ _)⟩;simp[execOp,resolve,aG,bu,invoke,builtin,Builtin.len_,dm,bX,Q0 hu,goInt]
     .rename_i m bc;rw[bc] at hx;split at h
      .rename_i es clock wr aA;simp at h;obtain⟨rfl,rfl⟩:=h;obtain⟨p,entries,bX,hp,aC,aF⟩:=XM hH aA hx;refine⟨rfl,.int .i64 es.length,.int _ _,λw' hl=>?_⟩;have h1:=QE (P:=P) (w':=w') (r:=p.blk) (by rw[hl.blk m p hp];exact aC) (λ_ _ _ e=>by cases e);have h2:entries.size=es.length:=by have:=aF.1;simpa using this
       simp[execOp,resolve,aG,bu,invoke,builtin,Builtin.len_,dm,bX,Q0 hu,goInt,h1,h2]
      .cases h
     .cases h
    .cases hc
   .cases hc
  .split at hc
   .split at hc
    .rename_i kt e hu;cases hk:Ep P kt with
     |none=>simp[hk] at hc
     |some mk=>simp[hk] at hc;subst hc;cases hq
    .cases hc
   .cases hc
  .split at hc
   .split at hc
    .rename_i e hu;cases hi:P.info? e with
     |none=>simp[hi] at hc
     |some inf=>simp[hi] at hc;subst hc;cases hq
    .cases hc
   .cases hc
  .split at hc
   .split at hc
    .rename_i e hu;cases hz:zeroOf P e with
     |none=>simp[hz] at hc
     |some z=>simp[hz] at hc;obtain⟨_,rfl⟩:=hc;cases hq
    .cases hc
   .cases hc
  .rename_i aG;split at hc
   .rename_i x cD;simp at hc;subst hc;have bu:c.args=#[x]:=Array.ext' (by simpa using cD);have hx:VRel ρ U.n (Q4 env x) (ev x):=hE x (by simpa [Call.operands,aG,bu] using ak);simp only[ZA] at h;split at h
    .rename_i bc;rw[bc] at hx;obtain bX:=hx.q0y;simp at h;obtain⟨rfl,rfl⟩:=h;refine⟨rfl,Qm (c:=.pointer none) (λw'=>?_) .nilPtr⟩;simp[execOp,resolve,aG,bu,invoke,builtin,bX,Go.Lib.run_unsafeSliceData_nil]
    .rename_i i o n cap bc;rw[bc] at hx;split at h
     .rename_i cw;simp at h;obtain⟨rfl,rfl⟩:=h;obtain⟨cw,hs⟩:=cw;obtain⟨blk,aC⟩:=Option.isSome_iff_exists.1 hs;obtain⟨p,hp,_⟩:=hH.live _ _ aC;obtain⟨a,ao,bX,aO,aU⟩:=hx.q1c;obtain⟨h1,_,⟨lZ,_⟩|⟨o',rfl,_,ho⟩⟩:=aU p hp
      .omega
      have gL:o'=o:=ho.resolve_right (λhh=>cw hh.2);subst gL;refine⟨rfl,.pointer (some ⟨p.blk,p.shift+o',none⟩),.ptr _ _ _ aO (by simp_all),λw' _=>?_⟩;simp[execOp,resolve,aG,bu,invoke,builtin,bX,Go.Lib.run_unsafeSliceData_row w' _ _ _ n ao (by omega)]
     .cases h
    .cases h
   .cases hc
  .split at hc
   .split at hc
    .split at hc
     .simp at hc;subst hc;cases hq
     .cases hc
    .cases hc
   .cases hc
  .cases hc
 all_goals cases hc
theorem getElem?_modify_list {α:Type}(l:List α) (j:Nat) (f:α->α) (k:Nat):(l.modify j f)[k]?=if j=k then (l[k]?).map f else l[k]?:=by
 grind
theorem Ha {n:Nat}{E:List MapEntry}{es:List Jp}(h:LERel ρ n E es) (j:Nat) (f:MapEntry->MapEntry) (kv:Jp) (hf:∀ e,E[j]?=some e->Z1r ρ n (f e) kv):LERel ρ n (E.modify j f) (es.set j kv):=by
 refine⟨by simp[h.1],λk e sY he dM=>?_⟩;rw[getElem?_modify_list] at he;rw[xx] at dM;by_cases cM:j=k
 .grind
 .simp only[cM,if_false] at he dM;exact h.2 k e sY he dM
theorem HJ {n:Nat}{E:List MapEntry}{es:List Jp}(h:LERel ρ n E es) {e:MapEntry}{kv:Jp}(he:Z1r ρ n e kv):LERel ρ n (E++[e]) (es++[kv]):=by
 refine⟨by simp[h.1],λk a b ha hb=>?_⟩;have hl:=h.1;rw[List.getElem?_append] at ha hb;split at ha<;>split at hb<;>try omega
 .exact h.2 k a b ha hb
 grind
theorem Al {γ:Sort _}(f:Option Addr->Value->γ) (g:Array Value->γ) (p:Option Addr) (l:Value):Builtin.unsafeString_.match_3 (motive:=λ_=>γ) #[.pointer p,l] f g=f p l:=rfl
theorem Au (ts:Array TypeId) (ty pt:TypeId) (h0:ts[0]?=some pt) (p:Option Addr) (w:World):(Builtin.unsafeString_ ts ty #[.pointer p,.int .i64 0]).run P w=.ok (.string .empty) w:=by
 have iZ:IntKind.i64.max=9223372036854775807:=rfl;cases p with
 |none =>delta Builtin.unsafeString_;rw[Al];simp[asInt,asIntOf,iZ,h0]
 |some a =>delta Builtin.unsafeString_;rw[Al];simp[asInt,asIntOf,iZ,h0]
theorem E5:∀ (ns:List Int) (a:Addr) (acc:ByteArray) (w:World),(∀ j n,ns[j]?=some n->w.cell? (a.add j)=some (.int .u8 n)) ->
  (loadBytes a acc ns.length).run P w=.ok ⟨acc.data++(ns.map λn=>n.toNat.toUInt8).toArray⟩ w
 |[],a,acc,w,_=>by simp[loadBytes]
 |n::ns,a,acc,w,h=>by
  have h0:w.cell? a=some (.int .u8 n):=by have:=h 0 n rfl;simpa [Addr.add] using this
  have ih:=E5 ns (a.add 1) (acc.push n.toNat.toUInt8) w (λj y hy=>by
   have:=h (j+1) y (by simpa using hy);have e:(a.add 1).add j=a.add (j+1):=by
    unfold Addr.add
    grind
   rw[e];exact this)
  simp only[zG,loadBytes,zx,run_load,h0,Result.andThen];simp_all
theorem Ci {e:TypeId}(hc:P.cellsOf e=1) (count off n:Nat) (hn:off+n<=count):liesAt P P.depth e count off e n=true:=by have hd:P.depth=(2*(P.types.size+Made.depth)+1)+1:=rfl;rw[hd];simp only[liesAt,zy];left;rw[hd];simp[rowAt,hc,hn,sameLayout,Nat.mod_one]
theorem Q5z (ts:Array TypeId) (ty pt e:TypeId) (h0:ts[0]?=some pt) (hp:P.underlying pt=some (.pointer e)) (hc:P.cellsOf e=1) (a:Addr) (cells:Nat) (w:World) (ep:w.shape? a.block=some (e,cells)) (ns:List Int) (k:Int) (hk:0<k) (jG:ns.length=k.toNat) (hn:a.off+ns.length<=cells)
  (vz:k<=2 ^ 62) (bD:∀ j n,ns[j]?=some n->w.cell? (a.add j)=some (.int .u8 n)) :
  (Builtin.unsafeString_ ts ty #[.pointer (some a),.int .i64 k]).run P w=.ok (.string ⟨(ns.map λn=>n.toNat.toUInt8).toArray⟩) (w.freeze a k.toNat):=by
 have iZ:IntKind.i64.max=9223372036854775807:=rfl;have vA:(2:Int) ^ 62=4611686018427387904:=by decide
 have oJ:=E5 (P:=P) ns a .empty w bD;have jH:=Ci (P:=P) hc (cells / P.cellsOf e) a.off ns.length (by rw[hc];simpa using hn);have h1:¬ k<0:=by omega
 have h2:¬ (9223372036854775807:Int)<k:=by omega
 have h3:¬ k=0:=by omega
 rw[<-jG];rw[jG] at oJ jH;delta Builtin.unsafeString_;rw[Al];simp[asInt,asIntOf,iZ,h0,h1,h2,h3,variablesAt,ep,elemOf,Q0 hp,jH,oJ,jG]
theorem HRel.freeze (hH:HRel ρ U w) {i:Nat}{p:Pl}{c:List Value}{e:El}{tight:Bool}(hp:ρ i=some p) (hb:U.get i=some (.cells c e true tight)) (off n:Nat) :
  HRel ρ (U.upd i (.cells c e false tight)) (w.freeze ⟨p.blk,off,none⟩ n)/\Ext ρ U w ρ (U.upd i (.cells c e false tight)) (w.freeze ⟨p.blk,off,none⟩ n):=by
 have hi:=U.lt hb;obtain⟨p',a9,hB⟩:=hH.live i _ hb;obtain rfl:p=p':=osj (hp.symm.trans a9);obtain⟨h1,h2,h3,⟨C,e',f,h4,iw⟩,h5,h6⟩:=hB;have bZ:∀ k,k≠p.blk->(w.freeze ⟨p.blk,off,none⟩ n).heap[k]?=w.heap[k]?:=λk hk=>by
  unfold World.freeze
  grind
 have aI:(w.freeze ⟨p.blk,off,none⟩ n).heap.size=w.heap.size:=by
  unfold World.freeze;split
  .rfl
  .simp
 obtain⟨f',eR⟩:∃ f',(w.freeze ⟨p.blk,off,none⟩ n).heap[p.blk]?=some (.cells C e' f'):=by
  unfold World.freeze
  grind
 have bD:∀ o,(w.freeze ⟨p.blk,off,none⟩ n).cell? ⟨p.blk,o,none⟩=w.cell? ⟨p.blk,o,none⟩:=λo=>by simp[World.cell?,eR,h4]
 have pK:(w.freeze ⟨p.blk,off,none⟩ n).os=w.os/\(w.freeze ⟨p.blk,off,none⟩ n).tape=w.tape/\(w.freeze ⟨p.blk,off,none⟩ n).output=w.output:=by unfold World.freeze;split<;>exact⟨rfl,rfl,rfl⟩
 have hE:Ext ρ U w ρ (U.upd i (.cells c e false tight)) (w.freeze ⟨p.blk,off,none⟩ n):=by
  .refine⟨pK.1,pK.2.1,pK.2.2,by rw[aI];exact zd _,λB hB hW=>bZ B (λe=>hW ⟨i,p,_,hp,hb,rfl,e.symm⟩),?_,zd _,λ_ _ _ h=>h⟩;rintro B _ ⟨j,q,b,hq,bS,hw,rfl⟩;by_cases aK:j=i
   .subst aK;exact⟨j,q,_,hq,hb,rfl,rfl⟩
   .rw[Heap.q0b _ _ aK] at bS;exact⟨j,q,b,hq,bS,hw,rfl⟩
 refine⟨hH.ext ⟨λj b hj=>?_,λj hj=>?_,λj q hq=>by rw[aI];exact hH.lt j q hq,λj k q r b cM hq hr cm hw hx=>?_⟩ hE,hE⟩
 .by_cases aK:j=i
  .subst aK;rw[Heap.q0c _ _ hi] at hj;obtain rfl:=osj hj;exact⟨p,hp,h1,h2,h3,⟨C,e',f',eR,iw⟩,(by simp_all),λh=>by cases h⟩
  .rw[Heap.q0b _ _ aK] at hj;obtain⟨q,hq,eN⟩:=hH.live j b hj;exact⟨q,hq,eN.other (zd _) (λ_ _ _ h=>h) p.blk C e' f h4 (λhx=>hH.sep i j p q _ (Ne.symm aK) hp hq hb rfl hx) ⟨C,f',eR,zd _⟩ (λk hk _=>bZ k hk) (hH.lt j q hq)⟩
 .by_cases aK:j=i
  .grind [Heap.q0c]
  .rw[Heap.q0b _ _ aK] at hj;exact hH.dead j hj
 .by_cases aK:j=i
  .subst aK;rw[Heap.q0c _ _ hi] at cm;obtain rfl:=osj cm;cases hw
  .rw[Heap.q0b _ _ aK] at cm;exact hH.sep j k q r b cM hq hr cm hw hx
theorem HRel.freezeOut (hH:HRel ρ U w) {i:Nat}{p:Pl}{c:List Value}{e:El}{tight:Bool}(hp:ρ i=some p) (hb:U.get i=some (.cells c e true tight)) {C:Array Value}{e':TypeId}{f:Nat×Nat}(hC:w.heap[p.blk]?=some (.cells C e' f)) (hf:f.1=f.2) :
  HRel ρ U (w.freeze ⟨p.blk,C.size,none⟩ 1)/\Ext ρ U w ρ U (w.freeze ⟨p.blk,C.size,none⟩ 1):=by
 have bZ:∀ k,k≠p.blk->(w.freeze ⟨p.blk,C.size,none⟩ 1).heap[k]?=w.heap[k]?:=λk hk=>by
  unfold World.freeze
  grind
 have aI:(w.freeze ⟨p.blk,C.size,none⟩ 1).heap.size=w.heap.size:=by unfold World.freeze;rw[z0 (by omega)];simp
 have eR:(w.freeze ⟨p.blk,C.size,none⟩ 1).heap[p.blk]?=some (.cells C e' (C.size,C.size+1)):=by
  unfold World.freeze
  grind
 have bD:∀ o,(w.freeze ⟨p.blk,C.size,none⟩ 1).cell? ⟨p.blk,o,none⟩=w.cell? ⟨p.blk,o,none⟩:=λo=>by simp[World.cell?,eR,hC]
 have hE:Ext ρ U w ρ U (w.freeze ⟨p.blk,C.size,none⟩ 1):=by refine⟨?_,?_,?_,by rw[aI];exact zd _,λB hB hW=>bZ B (λe=>hW ⟨i,p,_,hp,hb,rfl,e.symm⟩),λ_ _ h=>h,zd _,λ_ _ _ h=>h⟩<;>(unfold World.freeze;rw[z0 (by omega)])
 refine⟨hH.ext ⟨λj b hj=>?_,hH.dead,λj q hq=>by rw[aI];exact hH.lt j q hq,hH.sep⟩ hE,hE⟩;obtain⟨q,hq,eN⟩:=hH.live j b hj;refine⟨q,hq,?_⟩;by_cases hk:q.blk=p.blk
 .cases b with
  |cells c0 e0 sZ t0 =>
   obtain⟨h1,h2,h3,⟨C0,e1,f1,h4,h5⟩,h6,h7⟩:=eN;rw[hk,hC] at h4;obtain⟨rfl,rfl,rfl⟩:=(by simpa using h4:C=C0/\e'=e1/\f=f1);refine⟨h1,h2,h3,(by simp_all),λk v hv=>?_,λhw=>⟨(h7 hw).1,λk oA=>?_⟩⟩
   .rw[hk,bD,<-hk];exact h6 k v hv
   .unfold World.frozen?
    grind
  |obj o sZ =>obtain⟨_,O,h4,h5⟩:=eN;rw[hk,hC] at h4;obtain rfl:=osj h4;exact absurd h5 ORel.q1s
 .exact eN.mono (zd _) (λ_ _ _ h=>h) (bZ _ hk)
theorem Fg (hH:HRel ρ U w) {s:ByteArray}{st d e:TypeId}(hs:P.underlying st=some .string) (hd:P.underlying d=some (.slice e)) (he:P.underlying e=some (.int .u8)) {s0:Sem Next}(h0:s0=(do let v <-convert st d (.string s);pure (.value v))) :
  Ax P ρ U w (.slice (some ⟨U.n,0,none⟩) s.size s.size) (U.push (.cells (s.data.toList.map λb=>.int .u8 b.toNat) ⟨1,e⟩ true false)) s0:=by
 obtain⟨cap,cw⟩:∃ cap,cap=(Question.appendCap s.size 0 e).cut (w.tape w.drawn (.appendCap s.size 0 e)):=⟨_,rfl⟩;have hle:s.size<=cap:=by rw[cw];simp[Question.cut]
 let C:Array Value:=(s.data.map λb=>Value.int .u8 b.toNat)++Array.replicate (cap-s.size) (.int .u8 0);have pI:C.size=cap:=by have:s.data.size=s.size:=rfl;simp[C,this];omega
 have mI:=hH.drew;have aF:LRel ρ U.n (s.data.toList.map λb=>Value.int .u8 b.toNat) (C.toList.take (s.data.toList.map λb=>Value.int .u8 b.toNat).length):=by
  have:C.toList.take (s.data.toList.map λb=>Value.int .u8 b.toNat).length=s.data.toList.map λb=>Value.int .u8 b.toNat:=by simp[C]
  rw[this];exact Xw (zg.2 λx hx=>by obtain⟨b,_,rfl⟩:=zB.1 hx;rfl)
 obtain⟨ρ',h1,h2,h3⟩:=mI.alloc (s.data.toList.map λb=>Value.int .u8 b.toNat) C e ⟨1,e⟩ false rfl aF (by
  simp_all)
 have aC:(w.drew.alloc (.cells C e)).heap[w.drew.heap.size]?=some (.cells C e (0,0)):=by show (w.drew.heap.push _)[w.drew.heap.size]?=_;rw[Array.getElem?_push_size]
 obtain⟨h4,h5⟩:=h2.freezeOut (i:=U.n) h1 (Heap.q0a _ _) aC rfl;refine⟨.slice (some ⟨w.heap.size,0,none⟩) s.size cap,_,ρ',.inl ?_,.sl _ _ _ _ _ _ (by simp) (λp hp=>?_),h4,((Ext.drew ρ U w).trans h3).trans h5⟩
 .subst h0;have ep:(w.drew.alloc (.cells C e)).shape? w.drew.heap.size=some (e,C.size):=by
   unfold World.shape?;rw[aC]
  have hq:(Question.appendCap s.size 0 e).forced=false:=rfl;have ru:w.drew.heap.size=w.heap.size:=rfl;simp only[convert,zx,Q0 hs,Q0 hd,Q0 he,zh,Conv.stringToBytes,run_choose_drew,hq,zw,if_false,<-cw,newRow,run_newObj_alloc,xn,markStringish,run_shape,ru];rw[ru] at ep;have pL:(w.drew.alloc (.cells ((s.data.map λb=>Value.int .u8 b.toNat)++Array.replicate (cap-s.size) (.int .u8 0)) e)).shape? w.heap.size=some (e,C.size):=ep;rw[pL];rfl
 simp_all
set_option maxHeartbeats 1000000 in
theorem C6 {k nv:Value}{c:Nat}:∀ {es:List Jp}{e:Jp},Qf k es=some e->∃ j,es[j]?=some e/\Qt k nv c es=(es.set j (k,nv,e.2.2),c)/\Vs k es=es.eraseIdx j
 |[],e,h=>by cases h
 |a::es,e,h=>by
  simp only[Qf] at h;split at h
  .rename_i he;obtain rfl:=osj h;exact⟨0,rfl,by simp[Qt,he],by simp[Vs,he]⟩
  .rename_i he;obtain⟨j,h1,h2,h3⟩:=C6 (nv:=nv) (c:=c) h;exact⟨j+1,by simpa using h1,by simp[Qt,he,h2],by simp[Vs,he,h3]⟩
theorem S0 {k:Value}:∀ {es:List Jp},Qf k es=none->Vs k es=es
 |[],_=>rfl
 |a::es,h=>by
  simp only[Qf] at h;split at h
  .cases h
  .rename_i he;simp[Vs,he,S0 h]
def Z37:Value->Nat
 |.int _ n=>n.natAbs
 |_=>0
theorem Io {e:Jp}:∀ {es:List Jp},e∈es->Z37 e.2.1<=(es.map λx=>Z37 x.2.1).sum
 |a::es,h=>by
  rw[zJ,xJ];rcases zA.1 h with rfl|h
  .omega
  .have:=Io h;omega
theorem Q3o (es:List Jp):∃ nv:Value,∀ e∈es,e.2.1≠nv :=
 ⟨.int .i64 ((es.map λx=>Z37 x.2.1).sum+1:Nat),λe he h=>by
  have h1:=Io he;rw[h] at h1;simp only[Z37] at h1;omega⟩
theorem Q90 {es:List Jp}{i j:Nat}{x y:Jp}(hi:i<es.length) (_hj:j<es.length) (h:es.set i x=es.set j y) (hx:∀ e∈es,e.2.1≠x.2.1):i=j:=by
 grind [List.getElem?_set_self,List.getElem?_set_ne,List.getElem?_eq_getElem,osj,List.getElem_mem]
theorem I3 {n:Nat}{E:List MapEntry}{es:List Jp}(h:LERel ρ n E es) (j:Nat):LERel ρ n (E.eraseIdx j) (es.eraseIdx j):=by
 refine⟨by rw[List.length_eraseIdx,List.length_eraseIdx,h.1],λk e kv he dM=>?_⟩;rw[List.getElem?_eraseIdx] at he dM;split at he
 .rename_i ai;rw[z6 ai] at dM;exact h.2 _ _ _ he dM
 .rename_i ai;rw[z0 ai] at dM;exact h.2 _ _ _ he dM
theorem FH {o:Oper}{xo:XOp}(hc:Si P o.op = some xo) (hq:xo.quiet = false) (hH:HRel ρ U w) (hE:∀ x, Xv x = true -> VRel ρ U.n (Q4 env x) (ev x))
    (h:ZA xo (Q4 env) U = some (v, U')):Ax P ρ U w v U' (execOp ev o):=by
  obtain ⟨dst, op, ty, pos, after, guard⟩:=o;simp only at hc;unfold Si at hc;split at hc
  . cases hc
  rename_i ak;simp only [xk, z_] at ak;cases op <;> simp only [Op.operands] at ak hc
  case binOp iO t x y yt =>
    have nA:∀ neg, Sl P neg t x y = some xo -> False:=λneg hx => by
      unfold Sl at hx;split at hx
      . cases hx
      . obtain ⟨s, _, rfl⟩:=zq.1 hx; cases hq
    split at hc <;> first
      | exact (nA _ hc).elim
      | (simp at hc; subst hc; cases hq; done)
      | (rename_i e hu
         cases hi:P.info? e with
         | none => simp [hi] at hc
         | some i => simp [hi] at hc; obtain ⟨_, rfl⟩:=hc; cases hq)
      | cases hc
  case makeMap t r =>
    cases r with
    | some _ => cases hc
    | none =>
      simp at hc; subst hc;simp [ZA] at h;obtain ⟨rfl, rfl⟩:=h;obtain ⟨ρ', h1, h2, h3⟩:=hH.newObj (.map [] 0) (.map #[] 0) (ORel.q0q.2 ⟨#[], rfl, rfl, λk e kv he => by simp at he⟩);refine ⟨.map (some w.heap.size), _, ρ', .inl ?_, .map _ _ (by simp) (λp hp => ?_), h2, h3⟩
      . simp [execOp, Instr.makeMap]
      . simp_all
  case lookup t x i iY =>
    split at hc
    . rename_i kt e hu
      cases hk:Ep P kt with
      | none => simp [hk] at hc
      | some mk =>
        cases bO:P.info? e with
        | none => simp [hk, bO] at hc
        | some inf =>
          cases hz:inf.zero with
          | none => simp [hk, bO, hz] at hc
          | some z => simp [hk, bO, hz] at hc; obtain ⟨_, rfl⟩:=hc; cases hq
    . cases hc
  case mapUpdate t m k x =>
    simp at ak;have hm:=hE m ak.1;have fx:=hE k ak.2.1;have hx:=hE x ak.2.2;split at hc
    . rename_i kt e hu
      cases hk:Ep P kt with
      | none => simp [hk] at hc
      | some mk =>
        simp [hk] at hc; subst hc;obtain ⟨d, hd, dN⟩:=M7 hk;simp only [ZA] at h;split at h
        . rename_i i fT
          rw [fT] at hm;split at h
          . rename_i es clock aA
            split at h
            . rename_i af
              simp only [z8] at af;obtain ⟨bC, hall⟩:=af;simp at h; obtain ⟨rfl, rfl⟩:=h;obtain ⟨p, entries, dV, hp, aC, aF⟩:=XM hH aA hm;have eI:ev k = Q4 env k:=Rf bC fx;have bG:(getObj p.blk).run P w = .ok (.map entries clock) w:=(by grind [QE]);have bw:∀ O', (setObj p.blk O').run P w = .ok () (RX w p.blk O'):=(by grind [QX]);rcases Kr hd dN bC (Q4 env x) clock es entries.toList aF hall with ⟨h1, h2, h3⟩ | ⟨j, a, a', h1, h2, h3, h4, h5, h6⟩
              . rw [h3]
                obtain ⟨k1, k2⟩:=hH.setObj (i:=i) (p:=p) hp (XJ aA) (o':=.map (es ++ [(Q4 env k, Q4 env x, clock)]) (clock + 1))
                  (O':=.map (entries.push { key:=ev k, val:=ev x, born:=clock }) (clock + 1)) (ORel.q0q.2 ⟨_, rfl, by
                    rw [Array.toList_push];exact HJ aF ⟨eI, rfl, hx⟩⟩)
                refine ⟨undef, _, ρ, .inr ⟨?_, rfl⟩, JO, k1, k2⟩;simp only [execOp];simp only [Instr.mapUpdate, zx, Q0 hu, zh, dV, bG, eI, ZL hd dN bC];simp_all
              . rw [h6]
                have gO:((entries[j]?).map (·.key)).getD (Q4 env k) = a.1:=by
                  rw [<- Array.getElem?_toList, h3];simp [(aF.2 j a' a h3 h2).1]
                have eS:Zm mk a.1 = true:=(by grind)
                obtain ⟨k1, k2⟩:=hH.setObj (i:=i) (p:=p) hp (XJ aA) (o':=.map (es.set j (Q4 env k, Q4 env x, a.2.2)) clock)
                  (O':=.map (entries.modify (0 + j) λe => { e with key:=Q4 env k, val:=ev x }) clock) (ORel.q0q.2 ⟨_, rfl, by
                    rw [Array.toList_modify, xi];exact Ha aF j _ _ (λe he => by
                      obtain rfl:a' = e:=osj (h3.symm.trans he);exact ⟨rfl, (aF.2 j a' a h3 h2).2.1, hx⟩)⟩)
                refine ⟨undef, _, ρ, .inr ⟨?_, rfl⟩, JO, k1, k2⟩;simp only [execOp];simp only [Instr.mapUpdate, zx, Q0 hu, zh, dV, bG, eI, ZL hd dN bC];rw [h4];simp only [zh, zx, xi, gO];have aY:(Instr.keyThatStays a.1 (Q4 env k)).run P w = .ok (Q4 env k) w:=by unfold Instr.keyThatStays;rw [z6 (Dd bC eS h5)];rfl
                simp_all
            . cases h
          . cases h
        . cases h
    . cases hc
  case insert t m k x =>
    simp at ak;have hm:=hE m ak.1;have fx:=hE k ak.2.1;have hx:=hE x ak.2.2;split at hc
    . rename_i kt e hu
      cases hk:Ep P kt with
      | none => simp [hk] at hc
      | some mk =>
        simp [hk] at hc; subst hc;obtain ⟨d, hd, dN⟩:=M7 hk;simp only [ZA] at h;split at h
        . rename_i i fT
          rw [fT] at hm;split at h
          . rename_i es clock aA
            split at h
            . rename_i af
              simp only [z8] at af;obtain ⟨bC, hall⟩:=af;simp at h; obtain ⟨rfl, rfl⟩:=h;obtain ⟨p, entries, dV, hp, aC, aF⟩:=XM hH aA hm;have eI:ev k = Q4 env k:=Rf bC fx;have bG:(getObj p.blk).run P w = .ok (.map entries clock) w:=(by grind [QE]);have bw:∀ O', (setObj p.blk O').run P w = .ok () (RX w p.blk O'):=(by grind [QX]);rcases Kr hd dN bC (Q4 env x) clock es entries.toList aF hall with ⟨h1, h2, h3⟩ | ⟨j, a, a', h1, h2, h3, h4, h5, h6⟩
              . rw [h3]
                obtain ⟨k1, k2⟩:=hH.setObj (i:=i) (p:=p) hp (XJ aA) (o':=.map (es ++ [(Q4 env k, Q4 env x, clock)]) (clock + 1))
                  (O':=.map (entries.push { key:=ev k, val:=ev x, born:=clock }) (clock + 1)) (ORel.q0q.2 ⟨_, rfl, by
                    rw [Array.toList_push];exact HJ aF ⟨eI, rfl, hx⟩⟩)
                refine ⟨undef, _, ρ, .inr ⟨?_, rfl⟩, JO, k1, k2⟩;simp only [execOp];simp only [Instr.mapUpdate, zx, Q0 hu, zh, dV, bG, eI, ZL hd dN bC];simp_all
              . rw [h6]
                have gO:((entries[j]?).map (·.key)).getD (Q4 env k) = a.1:=by
                  rw [<- Array.getElem?_toList, h3];simp [(aF.2 j a' a h3 h2).1]
                have eS:Zm mk a.1 = true:=(by grind)
                obtain ⟨k1, k2⟩:=hH.setObj (i:=i) (p:=p) hp (XJ aA) (o':=.map (es.set j (Q4 env k, Q4 env x, a.2.2)) clock)
                  (O':=.map (entries.modify (0 + j) λe => { e with key:=Q4 env k, val:=ev x }) clock) (ORel.q0q.2 ⟨_, rfl, by
                    rw [Array.toList_modify, xi];exact Ha aF j _ _ (λe he => by
                      obtain rfl:a' = e:=osj (h3.symm.trans he);exact ⟨rfl, (aF.2 j a' a h3 h2).2.1, hx⟩)⟩)
                refine ⟨undef, _, ρ, .inr ⟨?_, rfl⟩, JO, k1, k2⟩;simp only [execOp];simp only [Instr.mapUpdate, zx, Q0 hu, zh, dV, bG, eI, ZL hd dN bC];rw [h4];simp only [zh, zx, xi, gO];have aY:(Instr.keyThatStays a.1 (Q4 env k)).run P w = .ok (Q4 env k) w:=by unfold Instr.keyThatStays;rw [z6 (Dd bC eS h5)];rfl
                simp_all
            . cases h
          . cases h
        . cases h
    . cases hc
  case mapEntry t m k =>
    simp at ak;have hm:=hE m ak.1;have fx:=hE k ak.2;split at hc
    . rename_i kt e hu
      cases hk:Ep P kt with
      | none => simp [hk] at hc
      | some mk =>
      cases bO:P.info? e with
      | none => simp [hk, bO] at hc
      | some inf =>
      cases hz:inf.zero with
      | none => simp [hk, bO, hz] at hc
      | some z =>
        simp [hk, bO, hz] at hc;obtain ⟨kE, rfl⟩:=hc;obtain ⟨d, hd, dN⟩:=M7 hk;have kA:∀ w', (zeroValue e).run P w' = .ok z w':=λw' => Zl bO hz w';have dG:VRel ρ U.n z z:=VX kE;simp only [ZA] at h;split at h
        . rename_i i fT
          rw [fT] at hm;split at h
          . rename_i es clock aA
            split at h
            . rename_i af
              simp only [z8] at af;obtain ⟨bC, hall⟩:=af;obtain ⟨p, entries, dV, hp, aC, aF⟩:=XM hH aA hm;have eI:ev k = Q4 env k:=Rf bC fx;have bG:(getObj p.blk).run P w = .ok (.map entries clock) w:=(by grind [QE]);have bw:∀ O', (setObj p.blk O').run P w = .ok () (RX w p.blk O'):=(by grind [QX]);split at h
              . rename_i e0 hf
                simp at h; obtain ⟨rfl, rfl⟩:=h;rcases Kr hd dN bC e0.2.1 clock es entries.toList aF hall with ⟨h1, h2, h3⟩ | ⟨j, a, a', h1, h2, h3, h4, h5, h6⟩
                . rw [hf] at h1; cases h1
                . obtain rfl:e0 = a:=by rw [hf] at h1; exact osj h1
                  rw [h6];have kH:entries[j]? = some a':=by simp_all
                  have gO:((entries[j]?).map (·.key)).getD (Q4 env k) = e0.1:=by
                    rw [kH]; simp [(aF.2 j a' e0 h3 h2).1]
                  have pM:((entries[j]?).map λx => (x.born:Int)).getD 0 = (e0.2.2:Int):=by rw [kH]; simp [(aF.2 j a' e0 h3 h2).2.1]
                  have eS:Zm mk e0.1 = true:=(by grind);have mG:=(aF.2 j a' e0 h3 h2).2.2
                  obtain ⟨k1, k2⟩:=hH.setObj (i:=i) (p:=p) hp (XJ aA) (o':=.map (es.set j (Q4 env k, e0.2.1, e0.2.2)) clock)
                    (O':=.map (entries.modify (0 + j) λe => { e with key:=Q4 env k }) clock) (ORel.q0q.2 ⟨_, rfl, by
                      rw [Array.toList_modify, xi];exact Ha aF j _ _ (λe he => by
                        obtain rfl:a' = e:=osj (h3.symm.trans he);exact ⟨rfl, (aF.2 j a' e0 h3 h2).2.1, mG⟩)⟩)
                  refine ⟨.tuple #[a'.val, .int .i64 e0.2.2], _, ρ, .inl ?_, VRel.q0i (LRel.cons mG (LRel.cons (.int _ _) (LRel.nil _ _))), k1, k2⟩;simp only [execOp];simp only [Instr.mapEntry, zx, Q0 hu, zh, dV, bG, eI, ZL hd dN bC];rw [h4];simp only [zh, zx, xi, gO, pM];have aY:(Instr.keyThatStays e0.1 (Q4 env k)).run P w = .ok (Q4 env k) w:=by unfold Instr.keyThatStays;rw [z6 (Dd bC eS h5)];rfl
                  rw [aY];simp only [zh, bw, xn];rfl
              . rename_i hf
                simp at h; obtain ⟨rfl, rfl⟩:=h;rcases Kr hd dN bC z clock es entries.toList aF hall with ⟨h1, h2, h3⟩ | ⟨j, a, a', h1, h2, h3, h4, h5, h6⟩
                . rw [h3]
                  obtain ⟨k1, k2⟩:=hH.setObj (i:=i) (p:=p) hp (XJ aA) (o':=.map (es ++ [(Q4 env k, z, clock)]) (clock + 1))
                    (O':=.map (entries.push { key:=Q4 env k, val:=z, born:=clock }) (clock + 1)) (ORel.q0q.2 ⟨_, rfl, by
                      rw [Array.toList_push];exact HJ aF ⟨rfl, rfl, dG⟩⟩)
                  refine ⟨.tuple #[z, .int .i64 clock], _, ρ, .inl ?_, VRel.q0i (LRel.cons dG (LRel.cons (.int _ _) (LRel.nil _ _))), k1, k2⟩;simp only [execOp];simp only [Instr.mapEntry, zx, Q0 hu, zh, dV, bG, eI, ZL hd dN bC];rw [h2];simp only [zh, zx, kA, bw, xn];rfl
                . rw [hf] at h1; cases h1
            . cases h
          . cases h
        . cases h
    . cases hc
  case entryStore t m s x =>
    simp at ak;have hm:=hE m ak.1;have hs:=hE s ak.2.1;have hx:=hE x ak.2.2;simp at hc; subst hc;simp only [ZA] at h;split at h
    . rename_i i n fT pN
      rw [fT] at hm;rw [pN] at hs;split at h
      . rename_i es clock aA
        split at h
        . rename_i j iP
          split at h
          . rename_i e0 rv
            simp at h; obtain ⟨rfl, rfl⟩:=h;obtain ⟨p, entries, dV, hp, aC, aF⟩:=XM hH aA hm;have mJ:ev s = .int .i64 n:=Vp rfl hs;have bG:(getObj p.blk).run P w = .ok (.map entries clock) w:=(by grind [QE]);have bw:∀ O', (setObj p.blk O').run P w = .ok () (RX w p.blk O'):=(by grind [QX]);have mK:entries.toList.map (λx => (x.born:Int)) = es.map (λe => (e.2.2:Int)):=by
              refine zS λq => ?_;rw [xw, xw];cases h1:entries.toList[q]? with
              | none =>
                have:es[q]? = none:=by rw [List.getElem?_eq_none_iff] at h1 |-; rw [<- aF.1]; exact h1
                rw [this]; rfl
              | some a =>
                cases h2:es[q]? with
                | none => rw [List.getElem?_eq_none_iff, <- aF.1, <- List.getElem?_eq_none_iff, h1] at h2; cases h2
                | some b => simp [(aF.2 q a b h1 h2).2.1]
            have pO:entries.findIdx? (λe => (e.born:Int) == n) = some j:=by
              have e1:entries.toList.findIdx? (λe => (e.born:Int) == n) = (entries.toList.map (λx => (x.born:Int))).findIdx? (λb => b == n):=by rw [List.findIdx?_map]; rfl
              have e2:es.findIdx? (λe => (e.2.2:Int) == n) = (es.map (λe => (e.2.2:Int))).findIdx? (λb => b == n):=by rw [List.findIdx?_map]; rfl
              have e3:entries.findIdx? (λe => (e.born:Int) == n) = entries.toList.findIdx? (λe => (e.born:Int) == n):=by rw [<- List.findIdx?_toArray, Array.toArray_toList]
              rw [e3, e1, mK, <- e2, iP]
            have cq:j < entries.toList.length:=by rw [aF.1]; grind
            have kH:=z9 cq
            obtain ⟨k1, k2⟩:=hH.setObj (i:=i) (p:=p) hp (XJ aA) (o':=.map (es.set j (e0.1, Q4 env x, e0.2.2)) clock)
              (O':=.map (entries.modify j λe => { e with val:=ev x }) clock) (ORel.q0q.2 ⟨_, rfl, by
                rw [Array.toList_modify];exact Ha aF j _ _ (λe he => by
                  have hr:=aF.2 j e e0 he rv;exact ⟨hr.1, hr.2.1, hx⟩)⟩)
            refine ⟨undef, _, ρ, .inr ⟨?_, rfl⟩, JO, k1, k2⟩;simp only [execOp];simp only [Instr.entryStore, dV, zx, bG, zh, mJ];simp [asInt, asIntOf, pO, bw]
          . cases h
        . cases h
      . cases h
    . cases h
  case range t x =>
    simp at ak;have hx:=hE x ak;split at hc
    . rename_i kt e hu
      simp at hc; subst hc;simp only [ZA] at h;split at h
      . rename_i m bc
        rw [bc] at hx;split at h
        . rename_i es clock wr aA
          simp at h; obtain ⟨rfl, rfl⟩:=h;obtain ⟨p, entries, dV, hp, aC, aF⟩:=XM hH aA hx;rw [dV] at hx;obtain ⟨ρ', h1, h2, h3⟩:=hH.newObj (.iter m clock [] clock) (.mapIter (some p.blk) clock #[] clock) ⟨p.blk, rfl, hx⟩;have bG:(getObj p.blk).run P w = .ok (.map entries clock) w:=(by grind [QE]);refine ⟨.pointer (some ⟨w.heap.size, 0, none⟩), _, ρ', .inl ?_, .ptr _ _ _ (by simp) (λq hq => ?_), h2, h3⟩
          . simp [execOp, Instr.range, Q0 hu, dV, bG]
          simp_all
        . cases h
      . cases h
    . cases hc
  case next x b => cases b <;> simp at hc; subst hc; simp [ZA] at h
  case entry x => simp at hc; subst hc; cases hq
  case convert s d x =>
    split at hc
    . rename_i t hs hd
      cases hi:P.info? t with
      | none => simp [hi] at hc
      | some inf => simp [hi] at hc; obtain ⟨_, rfl⟩:=hc; cases hq
    . rename_i u hs hd
      cases hi:P.info? u with
      | none => simp [hi] at hc
      | some inf => simp [hi] at hc; obtain ⟨_, rfl⟩:=hc; cases hq
    . split at hc
      . simp at hc; subst hc; cases hq
      . cases hc
    . rename_i e hs hd
      split at hc
      . rename_i he
        simp at hc; subst hc;simp only [ZA] at h;split at h
        . rename_i s' bc
          split at h
          . simp at h; obtain ⟨rfl, rfl⟩:=h
            have hx:=hE x (by simpa using ak);rw [bc] at hx;refine Fg hH hs hd he ?_;simp only [execOp, hx.q0o]
          . cases h
        . cases h
      . cases hc
    . cases hc
  case call c =>
    split at hc
    . split at hc
      . split at hc
        . simp at hc; subst hc; cases hq
        . cases hc
      . cases hc
    . rename_i aG
      split at hc
      . rename_i t mm kk dm cD
        split at hc
        . rename_i kt e hu
          cases hk:Ep P kt with
          | none => simp [hk] at hc
          | some mk =>
            simp [hk] at hc; subst hc;obtain ⟨d, hd, dN⟩:=M7 hk;have bu:c.args = #[mm, kk]:=Array.ext' (by simpa using cD);have cH:Xv mm = true /\ Xv kk = true:=by simpa [Call.operands, aG, bu] using ak
            have hm:=hE mm cH.1;have fx:=hE kk cH.2;simp only [ZA] at h;split at h
            . rename_i i fT
              rw [fT] at hm;split at h
              . rename_i es clock aA
                split at h
                . rename_i af
                  simp only [z8] at af;obtain ⟨bC, hall⟩:=af;simp at h; obtain ⟨rfl, rfl⟩:=h;obtain ⟨p, entries, dV, hp, aC, aF⟩:=XM hH aA hm;have eI:ev kk = Q4 env kk:=Rf bC fx;have bG:(getObj p.blk).run P w = .ok (.map entries clock) w:=(by grind [QE]);have bw:∀ O', (setObj p.blk O').run P w = .ok () (RX w p.blk O'):=(by grind [QX]);obtain ⟨nv, oL⟩:=Q3o es;rcases Kr hd dN bC nv clock es entries.toList aF hall with ⟨h1, h2, h3⟩ | ⟨j, a, a', h1, h2, h3, h4, h5, h6⟩
                  . rw [S0 h1]
                    obtain ⟨k1, k2⟩:=hH.setObj (i:=i) (p:=p) hp (XJ aA) (o':=.map es clock) (O':=.map entries clock) (ORel.q0q.2 ⟨_, rfl, aF⟩);refine ⟨.tuple #[], _, ρ, .inl ?_, VRel.q0i (LRel.nil _ _), k1, k2⟩;simp only [execOp];simp [resolve, aG, bu, invoke, builtin, Builtin.delete_, dm, Q0 hu, dV, bG, eI, ZL hd dN bC, h2, bw]
                  . obtain ⟨j0, g1, g2, g3⟩:=C6 (nv:=nv) (c:=clock) h1
                    have hj:j = j0:=by
                      rw [g2] at h6;have hs:=congrArg (λx:List Jp × Nat => x.1) h6
                      grind [Q90, List.getElem?_eq_some_iff]
                    subst hj;rw [g3];obtain ⟨k1, k2⟩:=hH.setObj (i:=i) (p:=p) hp (XJ aA) (o':=.map (es.eraseIdx j) clock) (O':=.map (entries.eraseIdxIfInBounds (0 + j)) clock) (ORel.q0q.2 ⟨_, rfl, by
                      have cq:j < entries.size:=by
                        grind
                      rw [xi];have e:(entries.eraseIdxIfInBounds j).toList = entries.toList.eraseIdx j:=by simp
                      grind [I3]⟩)
                    refine ⟨.tuple #[], _, ρ, .inl ?_, VRel.q0i (LRel.nil _ _), k1, k2⟩;simp only [execOp];simp [resolve, aG, bu, invoke, builtin, Builtin.delete_, dm, Q0 hu, dV, bG, eI, ZL hd dN bC, h4, bw]
                . cases h
              . cases h
            . cases h
        . cases hc
      . cases hc
    . rename_i aG
      split at hc
      . rename_i t dd ss dm cD
        split at hc
        . rename_i e hu
          cases hi:P.info? e with
          | none => simp [hi] at hc
          | some inf =>
            simp [hi] at hc; subst hc;have bu:c.args = #[dd, ss]:=Array.ext' (by simpa using cD);have cH:Xv dd = true /\ Xv ss = true:=by simpa [Call.operands, aG, bu] using ak
            have hd:=hE dd cH.1;have hs:=hE ss cH.2;simp only [ZA] at h;split at h
            . rename_i db dn dc sb sn sc pP pN
              rw [pP] at hd; rw [pN] at hs;obtain ⟨da, s5, pQ⟩:=hd.q1t;obtain ⟨sa, mL, mJ⟩:=hs.q1t;split at h
              . rename_i h0
                simp at h; obtain ⟨rfl, rfl⟩:=h;refine ⟨.int .i64 0, w, ρ, .inl ?_, .int _ _, hH, Ext.refl _ _ _⟩;simp only [execOp];have ry:Nat.min sn dn = 0:=h0;cases sa <;> cases da <;> simp [resolve, aG, bu, invoke, builtin, Builtin.copy_, dm, pQ, mJ, Q0 hu, Qc hi, Builtin.lenOf, ry, Builtin.firstCells, loadCells, loadCellsFrom, storeCells, goInt]
              . rename_i h0
                split at h
                . rename_i i o xs bq
                  split at h
                  . rename_i cc e' wr tight hb
                    split at h
                    . rename_i af
                      obtain ⟨rfl, mr, iX, gM⟩:=af;simp at h; obtain ⟨rfl, rfl⟩:=h;have aZ:VRel ρ U.n (.slice sb (min sn dn) sc) (.slice sa (min sn dn) mL):=by
                        rw [mJ] at hs;cases hs with
                        | nilSl => exact absurd (by simp) h0
                        | slx _ _ _ _ _ gA cN => exact .slx _ _ _ _ _ gA cN
                        | sl i2 o2 _ _ a2 _ gA cN =>
                          refine .sl _ _ _ _ _ _ gA λp hp => ?_;obtain ⟨k1, k2, ⟨k0, vB⟩ | ⟨o', k3, k4, k5⟩⟩:=cN p hp
                          . omega
                          exact (by simp_all)
                      obtain ⟨fp, us, ef, _, aT⟩:=Lt hH bq aZ;have hr:=aT w (Like.refl ρ w);have pO:(Builtin.firstCells inf.size (min sn dn) (.slice sa sn mL)).run P w = .ok us.toArray w:=by rw [<- hr]; cases sa <;> rfl
                      obtain ⟨p, hp, hB⟩:=hH.live i _ hb;rw [pQ] at hd;obtain ⟨a2, iR, mM, aO, aU⟩:=hd.q1c;simp at mM;obtain ⟨rfl, rfl⟩:=mM;obtain ⟨_, _, ⟨_, gy⟩ | ⟨o', pR, _, mu⟩⟩:=aU p hp
                      . exact absurd (by rw [gy]; simp) h0
                      have ho:o' = o:=mu.resolve_right (λhh => h0 (by rw [hh.1]; simp));subst ho;obtain ⟨h2, h3⟩:=hH.store hp hb ef (o:=o') (by omega);refine ⟨.int .i64 (min sn dn:Nat), _, ρ, .inl ?_, .int _ _, h2, h3⟩;have oB:us.length = xs.length:=ef.1.symm
                      have aY:=run_storeCells_cells (P:=P) p.blk (p.shift + o') us 0 w
                        (λj hj => by rw [zY, zC]; exact hB.q0r _ (by have:=hB.2.2.1; omega))
                        (λj hj => by rw [zY, zC]; exact (hB.2.2.2.2.2 rfl).2 _ (by have:=hB.2.2.1; omega))
                        (KB gM ef)
                      rw [zY] at aY;have pS:Nat.min sn dn = min sn dn:=rfl;simp only [execOp];simp [resolve, aG, bu, invoke, builtin, Builtin.copy_, dm, pQ, mJ, Q0 hu, Qc hi, Builtin.lenOf, pS, pO, pR, aY, goInt]
                    . cases h
                  . cases h
                . cases h
            . cases h
        . cases hc
      . cases hc
    . rename_i aG
      split at hc
      . rename_i t x dm cD
        split at hc
        . rename_i e hu
          cases hz:zeroOf P e with
          | none => simp [hz] at hc
          | some z =>
            simp [hz] at hc;obtain ⟨gy, rfl⟩:=hc;obtain ⟨inf, zv, bO, dG, fN, vC, iA⟩:=Yg hz;have bu:c.args = #[x]:=Array.ext' (by simpa using cD);have cH:Xv x = true:=by simpa [Call.operands, aG, bu] using ak
            have hx:=hE x cH;simp only [ZA] at h;split at h
            . rename_i b n cap bc
              rw [bc] at hx;obtain ⟨a, s6, bX⟩:=hx.q1t;split at h
              . rename_i h0
                simp at h; obtain ⟨rfl, rfl⟩:=h;subst h0;refine ⟨.tuple #[], w, ρ, .inl ?_, VRel.q0i (LRel.nil _ _), hH, Ext.refl _ _ _⟩;simp only [execOp];cases a <;> simp [resolve, aG, bu, invoke, builtin, Builtin.clear_, dm, bX, Q0 hu]
              . rename_i h0
                split at h
                . rename_i i o
                  split at h
                  . rename_i cc e' wr tight hb
                    split at h
                    . rename_i af
                      obtain ⟨rfl, iX, gM⟩:=af;simp at h; obtain ⟨rfl, rfl⟩:=h;have ef:LRel ρ U.n (PW n z) (PW n z):=Xw (HF n z iA);have dX:=Tv n z;have bL:(PW n z).all cellOk = true:=Ou n z gM;obtain ⟨p, hp, hB⟩:=hH.live i _ hb;rw [bX] at hx;obtain ⟨a2, iR, mM, aO, aU⟩:=hx.q1c;simp at mM;obtain ⟨rfl, rfl⟩:=mM;obtain ⟨_, _, ⟨_, gy⟩ | ⟨o', pR, _, mu⟩⟩:=aU p hp
                      . exact absurd gy h0
                      have ho:o' = o:=mu.resolve_right (λhh => h0 hh.1);subst ho;obtain ⟨h2, h3⟩:=hH.store hp hb ef (o:=o') (by omega);refine ⟨.tuple #[], _, ρ, .inl ?_, VRel.q0i (LRel.nil _ _), h2, h3⟩
                      have aY:=run_storeCells_cells (P:=P) p.blk (p.shift + o') (PW n z) 0 w
                        (λj hj => by rw [zY, zC]; exact hB.q0r _ (by have:=hB.2.2.1; omega))
                        (λj hj => by rw [zY, zC]; exact (hB.2.2.2.2.2 rfl).2 _ (by have:=hB.2.2.1; omega))
                        (KB bL ef)
                      rw [zY] at aY;have s7:(Builtin.zeroCells zv.cells n).toList = PW n z:=by have:=Hz zv.cells z fN (by intro hh; rw [hh] at gy; exact gy rfl) n;simpa [Builtin.zeroCells, <- fN] using this
                      simp only [execOp];obtain ⟨n', rfl⟩:∃ k, n = k + 1:=⟨n - 1, by omega⟩;simp [resolve, aG, bu, invoke, builtin, Builtin.clear_, dm, bX, Q0 hu, Zl bO dG, s7, pR, aY]
                    . cases h
                  . cases h
                . cases h
            . cases h
        . cases hc
      . cases hc
    . split at hc
      . simp at hc; subst hc; cases hq
      . cases hc
    . rename_i aG
      split at hc
      . rename_i t x nn dm cD
        split at hc
        . rename_i e hu
          split at hc
          . rename_i pA
            simp at hc; subst hc;have bu:c.args = #[x, nn]:=Array.ext' (by simpa using cD);have cH:Xv x = true /\ Xv nn = true:=by simpa [Call.operands, aG, bu] using ak
            have hx:=hE x cH.1;have hn:=hE nn cH.2;simp only [ZA] at h;split at h
            . rename_i q k bc aB
              rw [bc] at hx; rw [aB] at hn;have gh:=hn.q0g;split at h
              . rename_i h0
                simp at h; obtain ⟨rfl, rfl⟩:=h;subst h0;refine ⟨.string ⟨#[]⟩, w, ρ, .inl ?_, .string _, hH, Ext.refl _ _ _⟩;have cu:∃ q', ev x = .pointer q':=by
                  cases q with
                  | none => exact ⟨none, hx.q0p⟩
                  | some a => obtain ⟨b, hb⟩:=hx.q1f; exact ⟨_, hb⟩
                obtain ⟨q', cu⟩:=cu;simp [execOp, resolve, aG, bu, invoke, builtin, cu, gh, Au c.argTypes ty t dm q' w];rfl
              . rename_i h0
                split at h
                . rename_i i o
                  split at h
                  . rename_i cc el tight hb
                    split at h
                    . rename_i af
                      obtain ⟨i_, rz, het, iX⟩:=af;split at h
                      . rename_i s' pJ
                        simp at h; obtain ⟨rfl, rfl⟩:=h;obtain ⟨ns, l7, rfl⟩:=LH pJ;obtain ⟨p, hp, h1, h2, h3, ⟨C, e', f, hC, pI, kG⟩, h5, h6⟩:=hH.live i _ hb;obtain ⟨_, _, bX⟩:=hx.q0w hp;have kI:ns.length = k.toNat:=by have:=congrArg List.length l7;simp at this; omega
                        have bD:∀ j n, ns[j]? = some n -> w.cell? ((⟨p.blk, p.shift + o, none⟩:Addr).add j) = some (.int .u8 n):=λj n hj => by
                          have cq:j < ns.length:=(zt.1 hj).1;have eF:cc[o + j]? = some (.int .u8 n):=by
                            have:((cc.drop o).take k.toNat)[j]? = some (.int .u8 n):=by rw [l7, xw, hj]; rfl
                            rwa [xA, z6 (by omega), zX] at this
                          obtain ⟨u, de, cC⟩:=h5 (o + j) _ eF;have fy:(⟨p.blk, p.shift + o, none⟩:Addr).add j = ⟨p.blk, p.shift + (o + j), none⟩:=by unfold Addr.add; split <;> simp_all <;> omega
                          rw [fy, de, cC.q0g]
                        have ep:w.shape? p.blk = some (e, C.size):=by simp [World.shape?, hC, kG, het]
                        have hr:=Q5z (P:=P) c.argTypes ty t e dm hu pA ⟨p.blk, p.shift + o, none⟩ C.size w ep ns k i_ kI (by show p.shift + o + ns.length <= C.size; omega) rz bD;obtain ⟨k1, k2⟩:=hH.freeze hp hb (p.shift + o) k.toNat;refine ⟨.string ⟨(ns.map λn => n.toNat.toUInt8).toArray⟩, _, ρ, .inl ?_, .string _, k1, k2⟩;simp [execOp, resolve, aG, bu, invoke, builtin, bX, gh, hr]
                      . cases h
                    . cases h
                  . cases h
                . cases h
            . cases h
          . cases hc
        . cases hc
      . cases hc
    . cases hc
  all_goals cases hc
theorem Q17 {o:Oper}{vo:VOp}(hc:V9 P o.op=vo) (hq:vo.quiet=true) (hH:HRel ρ U w) (hE:∀ x,Xv x=true->VRel ρ U.n (Q4 env x) (ev x))
  (h:Q7 vo (Q4 env) U=some (v,U')):U'=U/\AI P ρ U w v (execOp ev o):=by
 unfold V9 at hc;split at hc
 .grind [FO]
 .split at hc
  .rename_i x hx;subst hc;exact EU hx hq hH hE h
  .subst hc;simp[Q7] at h
theorem Q4r {o:Oper}{vo:VOp}(hc:V9 P o.op=vo) (hq:vo.quiet=false) (hH:HRel ρ U w) (hE:∀ x,Xv x=true->VRel ρ U.n (Q4 env x) (ev x))
  (h:Q7 vo (Q4 env) U=some (v,U')):Ax P ρ U w v U' (execOp ev o):=by
 unfold V9 at hc;split at hc
 .grind [Ok]
 .split at hc
  .rename_i x hx;subst hc;exact FH hx hq hH hE h
  .subst hc;simp[Q7] at h
end
end Go.V