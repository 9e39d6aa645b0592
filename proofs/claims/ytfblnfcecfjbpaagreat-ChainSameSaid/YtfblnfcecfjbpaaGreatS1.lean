/- A framework for walks, contracts of functions, and their proofs: part 1. -/
import Derived.WalkKit
import Derived.Lib.Builder
import Derived.Lib.UnsafeStr
import Derived.DeepKeys
abbrev Go.z1:=@if_neg
abbrev Go.z6:=@List.getElem?_eq_getElem
abbrev Go.z7:=@if_pos
abbrev Go.z8:=@Bool.and_eq_true
abbrev Go.zd:=@List.getD_eq_getElem?_getD
abbrev Go.ze:=@Nat.le_refl
abbrev Go.zf:=@List.all_eq_true
abbrev Go.zg:=@List.getElem?_eq_some_iff
abbrev Go.zh:=@List.mem_singleton
abbrev Go.zi:=@List.mem_cons_of_mem
abbrev Go.zj:=@Go.Result.andThen_ok
abbrev Go.zk:=@List.mem_cons
abbrev Go.zl:=@List.mem_cons_self
abbrev Go.zm:=@_root_.cond_true
abbrev Go.zn:=@Nat.lt_or_ge
abbrev Go.zo:=@of_decide_eq_true
abbrev Go.zp:=@List.getElem_mem
abbrev Go.zq:=@of_decide_eq_false
abbrev Go.zr:=@List.getElem?_eq_none
abbrev Go.zt:=@Nat.add_assoc
abbrev Go.zu:=@List.mem_map
abbrev Go.zw:=@Option.map_eq_some_iff
abbrev Go.zx:=@Nat.mul_le_mul_right
abbrev Go.zy:=@Bool.or_eq_true
abbrev Go.zz:=@List.mem_range
abbrev Go.zA:=@Go.Sem.run_bind
abbrev Go.zB:=@Int.toNat_natCast
abbrev Go.zC:=@decide_eq_true_eq
abbrev Go.zD:=@Bool.false_eq_true
abbrev Go.zF:=@List.mem_append
abbrev Go.zG:=@List.map_cons
abbrev Go.zH:=@List.getElem?_drop
abbrev Go.zI:=@if_true
abbrev Go.zJ:=@List.length_append
abbrev Go.zK:=@List.mem_of_getElem?
abbrev Go.zL:=@List.mem_filter
abbrev Go.zM:=@Nat.le_of_ble_eq_true
abbrev Go.zN:=@List.take_of_length_le
abbrev Go.zO:=@Nat.add_mul
abbrev Go.zP:=@List.getElem?_take
abbrev Go.zQ:=@List.length_eq_zero_iff
abbrev Go.zR:=@Nat.blt_eq
abbrev Go.zS:=@List.length_cons
abbrev Go.zT:=@Option.bind_eq_bind
abbrev Go.zU:=@Nat.add_zero
abbrev Go.zV:=@Nat.eq_of_beq_eq_true
abbrev Go.zW:=@_root_.cond_false
abbrev Go.zX:=@List.cons.inj
abbrev Go.zY:=@List.getElem?_map
abbrev Go.zZ:=@List.all_cons
abbrev Go.z_:=@beq_iff_eq
abbrev Go.x3:=@List.ext_getElem?
abbrev Go.x4:=@Nat.le_trans
abbrev Go.x5:=@decide_eq_true
abbrev Go.x6:=@Option.map_some
abbrev Go.x7:=@Array.getElem?_eq_getElem
abbrev Go.x8:=@List.drop_zero
abbrev Go.x9:=@List.length_eq_one_iff
abbrev Go.xc:=@Array.getElem?_eq_some_iff
abbrev Go.xd:=@Option.bind_eq_some_iff
abbrev Go.xe:=@Go.Sem.run_pure
abbrev Go.xg:=@List.getElem?_append_left
abbrev Go.xh:=@List.append_assoc
abbrev Go.xi:=@Option.some.injEq
abbrev Go.xj:=@Nat.lt_of_lt_of_le
abbrev Go.xk:=@List.nil_append
abbrev Go.xl:=@Nat.zero_add
abbrev Go.xm:=@List.getElem?_append_right
abbrev Go.xn:=@List.nodup_cons
abbrev Go.xp:=@List.mem_iff_getElem?
abbrev Go.xq:=@List.length_singleton
abbrev Go.xr:=@List.map_congr_left
abbrev Go.xt:=@Option.bind_some
abbrev Go.xu:=@Nat.mod_eq_of_lt
abbrev Go.xw:=@List.getElem_map
abbrev Go.xx:=@List.mapM_cons
abbrev Go.xy:=@Int.eq_ofNat_of_zero_le
abbrev Go.xA:=@List.mem_append_right
abbrev Go.xB:=@List.length_pos_iff
abbrev Go.xC:=@List.replicate_succ
abbrev Go.xD:=@List.any_eq_true
abbrev Go.xE:=@List.mem_append_left
abbrev Go.xF:=@List.cons_append
abbrev Go.xG:=@List.pairwise_map
abbrev Go.xH:=@List.getElem?_set
abbrev Go.xI:=@List.map_append
abbrev Go.xJ:=@Nat.one_mul
abbrev Go.xK:=@List.length_replicate
abbrev Go.xL:=@List.append_nil
abbrev Go.xM:=@Nat.lt_of_le_of_lt
abbrev Go.xN:=@List.perm_ext_iff_of_nodup
abbrev Go.xO:=@List.sum_cons
abbrev Go.xP:=@List.any_eq_false
abbrev Go.xQ:=@List.length_set
abbrev Go.xR:=@Bool.not_eq_false'
abbrev Go.xS:=@List.length_map
abbrev Go.xT:=@Bool.and_true
abbrev Go.xU:=@List.pairwise_cons
abbrev Go.xV:=@Nat.shiftRight_eq_div_pow
abbrev Go.xW:=@Nat.add_comm
abbrev Go.xX:=@decide_eq_false
abbrev Go.xY:=@Bool.not_true
abbrev Go.xZ:=@Bool.or_false
abbrev Go.x_:=@decide_eq_false_iff_not
abbrev Go.w4:=@Bool.not_eq_true
abbrev Go.w5:=@Nat.mod_lt
abbrev Go.wa:=@Nat.mul_comm
abbrev Go.wb:=@List.take_append_drop
abbrev Go.wc:=@List.drop_eq_getElem_cons
abbrev Go.wg:=@List.length_take
abbrev Go.wh:=@Nat.sub_self
abbrev Go.wi:=@List.foldl_cons
abbrev Go.wj:=@Nat.min_eq_left
abbrev Go.wk:=@List.take_zero
abbrev Go.wm:=@List.length_drop
abbrev Go.wq:=@beq_eq_false_iff_ne
abbrev Go.wu:=@List.take_succ_cons
abbrev Go.wx:=@Option.map_none
abbrev Go.wz:=@List.length_range
abbrev Go.wA:=@List.map_map
abbrev Go.wB:=@Nat.not_lt
abbrev Go.wC:=@List.drop_succ_cons
abbrev Go.wD:=@Nat.lt_irrefl
abbrev Go.wE:=@Nat.le_of_lt
abbrev Go.wF:=@List.filter_cons
abbrev Go.wG:=@Nat.mul_one
theorem Go.osj.{u} {α:Type u} {a b:α}:some a=some b->a=b:=Option.some.inj
namespace Go.V
open Go
def Q0h:Nat->Option (List Value):=λ_=>none
structure El where
 sz:Nat
 ty:Nat
 deriving DecidableEq,Inhabited
inductive VObj where
 |map (es:List (Value×Value×Nat)) (clock:Nat)
 |iter (m since:Nat) (seen:List Nat) (last:Nat)
 |lp (env:List Value) (r:Loop) (st:LoopState) (pend:Option Code)
 deriving Inhabited
inductive Blk where
 |cells (c:List Value) (esz:El) (wr tight:Bool)
 |obj (o:VObj) (wr:Bool)
 deriving Inhabited
def Blk.wr:Blk->Bool
 |.cells _ _ w _=>w
 |.obj _ w=>w
structure Heap where
 get:Nat->Option Blk
 n:Nat
 wf:∀ i,n<=i->get i=none
theorem Heap.lt (U:Heap) {i:Nat}{b:Blk}(h:U.get i=some b):i<U.n:=by
 rcases zn i U.n with h'|h'
 .exact h'
 .rw[U.wf i h'] at h;cases h
def Heap.push (U:Heap) (b:Blk):Heap where
 get i:=if i=U.n then some b else U.get i
 n:=U.n+1
 wf i h:=by rw[z1 (by omega)];exact U.wf i (by omega)
def Heap.upd (U:Heap) (i:Nat) (b:Blk):Heap where
 get j:=if j=i/\i<U.n then some b else U.get j
 n:=U.n
 wf j h:=by rw[z1 (by omega)];exact U.wf j h
def Heap.kill (U:Heap) (i:Nat):Heap where
 get j:=if j=i then none else U.get j
 n:=U.n
 wf j h:=by split;rfl;exact U.wf j h
@[simp] theorem Heap.push_n (U:Heap) (b:Blk):(U.push b).n=U.n+1:=rfl
@[simp] theorem Heap.q2o (U:Heap) (i:Nat) (b:Blk):(U.upd i b).n=U.n:=rfl
@[simp] theorem Heap.kill_n (U:Heap) (i:Nat):(U.kill i).n=U.n:=rfl
theorem Heap.q0a (U:Heap) (b:Blk):(U.push b).get U.n=some b:=by simp[Heap.push]
theorem Heap.q0e (U:Heap) (b:Blk) {i:Nat}(h:i≠U.n):(U.push b).get i=U.get i:=by simp[Heap.push,h]
theorem Heap.q0i (U:Heap) (b:Blk) {i:Nat}(h:i<U.n):(U.push b).get i=U.get i:=U.q0e b (Nat.ne_of_lt h)
theorem Heap.q0c (U:Heap) (b:Blk) {i:Nat}(h:i<U.n):(U.upd i b).get i=some b:=by simp[Heap.upd,h]
theorem Heap.q0b (U:Heap) (b:Blk) {i j:Nat}(h:j≠i):(U.upd i b).get j=U.get j:=by simp[Heap.upd,h]
theorem Heap.q0f (U:Heap) (i:Nat):(U.kill i).get i=none:=by simp[Heap.kill]
theorem Heap.q0d (U:Heap) {i j:Nat}(h:j≠i):(U.kill i).get j=U.get j:=by simp[Heap.kill,h]
structure Pl where
 blk:Nat
 shift:Nat
 ext:Nat
 esz:El
 tight:Bool
abbrev Plc:=Nat->Option Pl
def poison:Value:=.chan none
inductive VRel (ρ:Plc) (n:Nat):Value->Value->Prop
 |poison (c:Value):VRel ρ n poison c
 |bool (b:Bool):VRel ρ n (.bool b) (.bool b)
 |int (k:IntKind) (x:Int):VRel ρ n (.int k x) (.int k x)
 |string (s:ByteArray):VRel ρ n (.string s) (.string s)
 |nilPtr:VRel ρ n (.pointer none) (.pointer none)
 |nilSl:VRel ρ n (.slice none 0 0) (.slice none 0 0)
 |nilMap:VRel ρ n (.map none) (.map none)
 |nilFunc:VRel ρ n .nilFunc .nilFunc
 |nilIface:VRel ρ n .nilIface .nilIface
 |glob (g o s:Nat):VRel ρ n (.pointer (some ⟨g,o,some s⟩)) (.pointer (some ⟨g,o,none⟩))
 |ptr (i o:Nat) (a:Addr) (hi:i<n) (h:∀ p,ρ i=some p->a=⟨p.blk,p.shift+o,none⟩):VRel ρ n (.pointer (some ⟨i,o,none⟩)) (.pointer (some a))
 |sl (i o len cap:Nat) (a:Addr) (aw:Nat) (hi:i<n)
   (h:∀ p,ρ i=some p->cap<=aw/\(p.tight=true->aw=cap)/\(aw=0/\len=0\/∃ o',a=⟨p.blk,p.shift+o',none⟩/\o'+aw*p.esz.sz<=p.ext/\(o'=o\/(len=0/\cap=0)))) :
   VRel ρ n (.slice (some ⟨i,o,none⟩) len cap) (.slice (some a) len aw)
 |slx (i o len cap:Nat) (a:Addr) (hi:i<n) (h:∀ p,ρ i=some p->a=⟨p.blk,p.shift+o,none⟩/\o+cap*p.esz.sz<=p.ext) :
   VRel ρ n (.slice (some ⟨i,o,some 0⟩) len cap) (.slice (some a) len cap)
 |map (i r:Nat) (hi:i<n) (h:∀ p,ρ i=some p->r=p.blk):VRel ρ n (.map (some i)) (.map (some r))
 |yield (i r:Nat) (hi:i<n) (h:∀ p,ρ i=some p->r=p.blk):VRel ρ n (.func (.yield i) #[] #[]) (.func (.yield r) #[] #[])
 |iface (t:TypeId) (v c:Value) (h:VRel ρ n v c):VRel ρ n (.iface t v) (.iface t c)
 |func (fn:FuncId) (fs gs cs ds:Array Value) (hf:fs.size=gs.size) (hc:cs.size=ds.size)
   (h1:∀ i (h1:i<fs.size) (h2:i<gs.size),VRel ρ n fs[i] gs[i]) (h2:∀ i (h1:i<cs.size) (h2:i<ds.size),VRel ρ n cs[i] ds[i]):VRel ρ n (.func (.func fn) fs cs) (.func (.func fn) gs ds)
 |agg (cs ds:Array Value) (hc:cs.size=ds.size) (h:∀ i (h1:i<cs.size) (h2:i<ds.size),VRel ρ n cs[i] ds[i]):VRel ρ n (.agg cs) (.agg ds)
 |tuple (cs ds:Array Value) (hc:cs.size=ds.size) (h:∀ i (h1:i<cs.size) (h2:i<ds.size),VRel ρ n cs[i] ds[i]):VRel ρ n (.tuple cs) (.tuple ds)
theorem VRel.mono {ρ ρ':Plc}{n n':Nat}(hn:n<=n') (hρ:∀ i,i<n->∀ p,ρ' i=some p->ρ i=some p) {v c:Value}(h:VRel ρ n v c):VRel ρ' n' v c:=by
 induction h with
 |poison c=>exact .poison c
 |bool b=>exact .bool b
 |int k x=>exact .int k x
 |string s=>exact .string s
 |nilPtr=>exact .nilPtr
 |nilSl=>exact .nilSl
 |nilMap=>exact .nilMap
 |nilFunc=>exact .nilFunc
 |nilIface=>exact .nilIface
 |glob g o s=>exact .glob g o s
 |ptr i o a hi h=>exact .ptr i o a (by omega) λp hp=>h p (hρ i hi p hp)
 |sl i o len cap a aw hi h=>exact .sl i o len cap a aw (by omega) λp hp=>h p (hρ i hi p hp)
 |slx i o len cap a hi h=>exact .slx i o len cap a (by omega) λp hp=>h p (hρ i hi p hp)
 |map i r hi h=>exact .map i r (by omega) λp hp=>h p (hρ i hi p hp)
 |yield i r hi h=>exact .yield i r (by omega) λp hp=>h p (hρ i hi p hp)
 |iface t v c _ ih=>exact .iface t v c ih
 |func fn fs gs cs ds hf hc _ _ ln lq=>exact .func fn fs gs cs ds hf hc ln lq
 |agg cs ds hc _ ih=>exact .agg cs ds hc ih
 |tuple cs ds hc _ ih=>exact .tuple cs ds hc ih
def LRel (ρ:Plc) (n:Nat) (vs cs:List Value):Prop:=vs.length=cs.length/\∀ (i:Nat) (v c:Value),vs[i]?=some v->cs[i]?=some c->VRel ρ n v c
theorem LRel.mono {ρ ρ':Plc}{n n':Nat}(hn:n<=n') (hρ:∀ i,i<n->∀ p,ρ' i=some p->ρ i=some p) {v c:List Value}(h:LRel ρ n v c):LRel ρ' n' v c :=
 ⟨h.1,λi v c hv hc=>(h.2 i v c hv hc).mono hn hρ⟩
theorem LRel.nil (ρ:Plc) (n:Nat):LRel ρ n [] []:=⟨rfl,λi v c h _=>by simp at h⟩
theorem LRel.cons {ρ:Plc}{n:Nat}{v c:Value}{vs cs:List Value}(h:VRel ρ n v c) (hs:LRel ρ n vs cs):LRel ρ n (v::vs) (c::cs):=by
 refine⟨by simp[hs.1],λi v' c' hv hc=>?_⟩;cases i with
 |zero=>simp at hv hc;subst hv;subst hc;exact h
 |succ i=>simp at hv hc;exact hs.2 i v' c' hv hc
theorem LRel.get {ρ:Plc}{n:Nat}{vs cs:List Value}(h:LRel ρ n vs cs) {i:Nat}{v:Value}(hv:vs[i]?=some v):∃ c,cs[i]?=some c/\VRel ρ n v c:=by
 have ah:i<vs.length:=(zg.1 hv).1;have b8:i<cs.length:=by have:=h.1;omega
 exact⟨cs[i],z6 b8,h.2 i v _ hv (z6 b8)⟩
theorem LRel.set {ρ:Plc}{n:Nat}{vs cs:List Value}(h:LRel ρ n vs cs) (i:Nat) {v c:Value}(hv:VRel ρ n v c):LRel ρ n (vs.set i v) (cs.set i c):=by
 refine⟨by simp[h.1],λj v' c' h1 h2=>?_⟩;rw[xH] at h1 h2;by_cases bN:i=j
 .subst bN;simp only[zI] at h1 h2;split at h1<;>split at h2<;>simp at h1 h2;subst h1;subst h2;exact hv
 .simp only[bN,if_false] at h1 h2;exact h.2 j v' c' h1 h2
theorem LRel.append {ρ:Plc}{n:Nat}{vs cs vs' cs':List Value}(h:LRel ρ n vs cs) (h':LRel ρ n vs' cs'):LRel ρ n (vs++vs') (cs++cs'):=by
 refine⟨by simp[h.1,h'.1],λi v c hv hc=>?_⟩;have e:=h.1;rw[List.getElem?_append] at hv hc;split at hv<;>split at hc<;>try omega
 .exact h.2 i v c hv hc
 .rw[e] at hv;exact h'.2 _ v c hv hc
theorem VRel.q1m {ρ:Plc}{n:Nat}{cs ds:List Value}(h:LRel ρ n cs ds):VRel ρ n (.agg cs.toArray) (.agg ds.toArray) :=
 .agg _ _ (by simpa using h.1) λi h1 h2=>h.2 i _ _ (by simp) (by simp)
theorem VRel.q0j {ρ:Plc}{n:Nat}{cs ds:List Value}(h:LRel ρ n cs ds):VRel ρ n (.tuple cs.toArray) (.tuple ds.toArray) :=
 .tuple _ _ (by simpa using h.1) λi h1 h2=>h.2 i _ _ (by simp) (by simp)
theorem LRel.of_array {ρ:Plc}{n:Nat}{cs ds:Array Value}(hc:cs.size=ds.size) (h:∀ i (h1:i<cs.size) (h2:i<ds.size),VRel ρ n cs[i] ds[i]):LRel ρ n cs.toList ds.toList:=by refine⟨by simpa using hc,λi v c hv cO=>?_⟩;obtain⟨h1,rfl⟩:=zg.1 hv;obtain⟨h2,rfl⟩:=zg.1 cO;exact h i (by simpa using h1) (by simpa using h2)
def ORel (ρ:Plc) (n:Nat):VObj->Obj->Prop
 |.map es clock,o=>∃ entries,o=.map entries clock/\entries.size=es.length /\
   ∀ (k:Nat) (kv:Value×Value×Nat),es[k]?=some kv->∃ e:MapEntry,entries[k]?=some e/\e.key=kv.1/\e.born=kv.2.2/\VRel ρ n kv.2.1 e.val
 |.iter m since seen last,o=>∃ rm,o=.mapIter (some rm) since seen.toArray last/\VRel ρ n (.map (some m)) (.map (some rm))
 |.lp env r st pend,o=>o=.loop {r with state:=st,pending:=pend}/\LRel ρ n env r.tmps.toList
def BRel (ρ:Plc) (n:Nat) (p:Pl) (w:World):Blk->Prop
 |.cells c esz wr tight=>p.esz=esz/\p.tight=tight/\c.length<=p.ext /\
   (∃ C e f,w.heap[p.blk]?=some (.cells C e f)/\p.shift+p.ext<=C.size/\e=esz.ty) /\
   (∀ (k:Nat) (v:Value),c[k]?=some v->∃ u,w.cell? ⟨p.blk,p.shift+k,none⟩=some u/\VRel ρ n v u) /\
   (wr=true->(tight=true->p.shift=0)/\∀ k,k<p.ext->w.frozen? ⟨p.blk,p.shift+k,none⟩=false)
 |.obj o _=>(p.ext=1/\p.shift=0)/\∃ O,w.heap[p.blk]?=some O/\ORel ρ n o O
structure HRel0 (ρ:Plc) (U:Heap) (w:World):Prop where
 live:∀ i b,U.get i=some b->∃ p,ρ i=some p/\BRel ρ U.n p w b
 dead:∀ i,U.get i=none->ρ i=none
 lt:∀ i p,ρ i=some p->p.blk<w.heap.size
 sep:∀ i j p q b,i≠j->ρ i=some p->ρ j=some q->U.get i=some b->b.wr=true->0<q.ext->p.blk≠q.blk
theorem HRel0.idlt {ρ:Plc}{U:Heap}{w:World}(h:HRel0 ρ U w) {i:Nat}{p:Pl}(hp:ρ i=some p):i<U.n:=by
 cases hb:U.get i with
 |none=>rw[h.dead i hb] at hp;cases hp
 |some b=>exact U.lt hb
def Wr (ρ:Plc) (U:Heap) (B:Nat):Prop:=∃ i p b,ρ i=some p/\U.get i=some b/\b.wr=true/\p.blk=B
structure Ext (ρ:Plc) (U:Heap) (w:World) (ρ':Plc) (U':Heap) (w':World):Prop where
 os:w'.os=w.os
 tape:w'.tape=w.tape
 output:w'.output=w.output
 size:w.heap.size<=w'.heap.size
 keep:∀ B,B<w.heap.size->¬ Wr ρ U B->w'.heap[B]?=w.heap[B]?
 wr:∀ B,B<w.heap.size->Wr ρ' U' B->Wr ρ U B
 n:U.n<=U'.n
 pl:∀ i,i<U.n->∀ p,ρ' i=some p->ρ i=some p
theorem Ext.refl (ρ:Plc) (U:Heap) (w:World):Ext ρ U w ρ U w :=
 ⟨rfl,rfl,rfl,ze _,λ_ _ _=>rfl,λ_ _ h=>h,ze _,λ_ _ _ h=>h⟩
theorem Ext.trans {ρ ρ' eS:Plc}{U U' aH:Heap}{w w' pa:World}(h:Ext ρ U w ρ' U' w') (k:Ext ρ' U' w' eS aH pa):Ext ρ U w eS aH pa where
 os:=k.os.trans h.os
 tape:=k.tape.trans h.tape
 output:=k.output.trans h.output
 size:=x4 h.size k.size
 keep B hB hW:=(k.keep B (xj hB h.size) (λhw=>hW (h.wr B hB hw))).trans (h.keep B hB hW)
 wr B hB hW:=h.wr B hB (k.wr B (xj hB h.size) hW)
 n:=x4 h.n k.n
 pl i hi p hp:=h.pl i hi p (k.pl i (xj hi h.n) p hp)
theorem Ext.lrel {ρ ρ':Plc}{U U':Heap}{w w':World}(h:Ext ρ U w ρ' U' w') {v c:List Value}(hv:LRel ρ U.n v c):LRel ρ' U'.n v c:=hv.mono h.n h.pl
theorem ORel.mono {ρ ρ':Plc}{n n':Nat}(hn:n<=n') (hρ:∀ i,i<n->∀ p,ρ' i=some p->ρ i=some p) {o:VObj}{O:Obj}(h:ORel ρ n o O):ORel ρ' n' o O:=by
 cases o with
 |map es clock =>obtain⟨entries,h1,h2,h3⟩:=h;exact⟨entries,h1,h2,λk kv hk=>let ⟨e,he,h4,h5,hv⟩:=h3 k kv hk;⟨e,he,h4,h5,hv.mono hn hρ⟩⟩
 |iter m since seen last=>obtain⟨rm,h1,h2⟩:=h;exact⟨rm,h1,h2.mono hn hρ⟩
 |lp env r st pend=>exact⟨h.1,h.2.mono hn hρ⟩
theorem ORel.q1u {ρ:Plc}{n:Nat}{o:VObj}{C:Array Value}{e:TypeId}{f:Nat×Nat}:¬ ORel ρ n o (.cells C e f):=by
 cases o with
 |map es clock=>rintro⟨_,h,_⟩;cases h
 |iter m since seen last=>rintro⟨_,h,_⟩;cases h
 |lp env r st pend=>rintro⟨h,_⟩;cases h
theorem ORel.q0l {ρ:Plc}{n:Nat}{o:VObj}{d:Option (List Deferred)}:¬ ORel ρ n o (.deferred d):=by
 cases o with
 |map es clock=>rintro⟨_,h,_⟩;cases h
 |iter m since seen last=>rintro⟨_,h,_⟩;cases h
 |lp env r st pend=>rintro⟨h,_⟩;cases h
theorem BRel.mono {ρ ρ':Plc}{n n':Nat}(hn:n<=n') (hρ:∀ i,i<n->∀ p,ρ' i=some p->ρ i=some p) {p:Pl}{w w':World}(hw:w'.heap[p.blk]?=w.heap[p.blk]?) {b:Blk}(h:BRel ρ n p w b):BRel ρ' n' p w' b:=by
 cases b with
 |cells c esz wr tight =>
  obtain⟨h1,h2,h3,h4,h5,h6⟩:=h;refine⟨h1,h2,h3,by rw[hw];exact h4,λk v hk=>?_,λf_=>⟨(h6 f_).1,λk hk=>?_⟩⟩
  .obtain⟨u,hu,hv⟩:=h5 k v hk;exact⟨u,by rw[World.cell?_of_block (a:=⟨p.blk,p.shift+k,none⟩) hw];exact hu,hv.mono hn hρ⟩
  .rw[World.frozen?_of_block (a:=⟨p.blk,p.shift+k,none⟩) hw];exact(h6 f_).2 k hk
 |obj o wr =>obtain⟨h0,O,h1,h2⟩:=h;exact⟨h0,O,by rw[hw];exact h1,h2.mono hn hρ⟩
theorem HRel0.world {ρ:Plc}{U:Heap}{w w':World}(h:HRel0 ρ U w) (hs:w.heap.size<=w'.heap.size) (hb:∀ i p,ρ i=some p->w'.heap[p.blk]?=w.heap[p.blk]?):HRel0 ρ U w' where
 live i b hi:=by obtain⟨p,hp,hB⟩:=h.live i b hi;exact⟨p,hp,hB.mono (ze _) (λ_ _ _ h=>h) (hb i p hp)⟩
 dead:=h.dead
 lt i p hp:=xj (h.lt i p hp) hs
 sep:=h.sep
theorem HRel0.drew {ρ:Plc}{U:Heap}{w:World}(h:HRel0 ρ U w):HRel0 ρ U w.drew:=h.world (ze _) (λ_ _ _=>rfl)
theorem Ext.drew (ρ:Plc) (U:Heap) (w:World):Ext ρ U w ρ U w.drew :=
 ⟨rfl,rfl,rfl,ze _,λ_ _ _=>rfl,λ_ _ h=>h,ze _,λ_ _ _ h=>h⟩
def Plc.put (ρ:Plc) (i:Nat) (p:Option Pl):Plc:=λj=>if j=i then p else ρ j
theorem HRel0.alloc {ρ:Plc}{U:Heap}{w:World}(h:HRel0 ρ U w) (c:List Value) (C:Array Value) (e:TypeId) (esz:El) (tight:Bool) (he:e=esz.ty)
  (hc:LRel ρ U.n c (C.toList.take c.length)) (hl:c.length<=C.size) :
  ∃ ρ',ρ' U.n=some ⟨w.heap.size,0,C.size,esz,tight⟩/\HRel0 ρ' (U.push (.cells c esz true tight)) (w.alloc (.cells C e))/\Ext ρ U w ρ' (U.push (.cells c esz true tight)) (w.alloc (.cells C e)):=by
 have hold:∀ k,k<w.heap.size->(w.alloc (.cells C e)).heap[k]?=w.heap[k]?:=λk hk=>by show (w.heap.push _)[k]?=_;rw[Array.getElem?_push,z1 (by omega)]
 have aG:(w.alloc (.cells C e)).heap.size=w.heap.size+1:=World.size_alloc w _;have aQ:∀ i,i<U.n->∀ p,(ρ.put U.n (some ⟨w.heap.size,0,C.size,esz,tight⟩)) i=some p->ρ i=some p:=λi hi p hp=>by unfold Plc.put at hp;rwa [z1 (by omega)] at hp
 refine⟨ρ.put U.n (some ⟨w.heap.size,0,C.size,esz,tight⟩),by simp[Plc.put],⟨?_,?_,?_,?_⟩,⟨rfl,rfl,rfl,by omega,λB hB _=>hold B hB,?_,by simp,aQ⟩⟩
 .intro i b hb;by_cases hi:i=U.n
  .subst hi;rw[Heap.q0a] at hb;obtain rfl:=osj hb;refine⟨⟨w.heap.size,0,C.size,esz,tight⟩,by simp[Plc.put],rfl,rfl,hl,⟨C,e,(0,0),?_,by simp,he⟩,λk v hk=>?_,λ_=>⟨λ_=>rfl,λk _=>?_⟩⟩
   .show (w.heap.push _)[w.heap.size]?=_;simp
   .obtain⟨u,hu,hv⟩:=hc.get hk;have bh:k<c.length:=(zg.1 hk).1;refine⟨u,?_,hv.mono (by simp) aQ⟩;rw[xl,World.cell?_alloc_new];rw[zP,z7 bh] at hu;simpa using hu
   .rw[xl];exact World.frozen?_alloc_new w C e k
  .rw[Heap.q0e _ _ hi] at hb;obtain⟨p,hp,hB⟩:=h.live i b hb;exact⟨p,by simp[Plc.put,hi,hp],hB.mono (by simp) aQ (hold _ (h.lt i p hp))⟩
 .intro i hi;by_cases aP:i=U.n
  .subst aP;rw[Heap.q0a] at hi;cases hi
  .rw[Heap.q0e _ _ aP] at hi;simp[Plc.put,aP,h.dead i hi]
 .intro i p hp;by_cases hi:i=U.n
  .subst hi;simp[Plc.put] at hp;subst hp;simp
  .simp[Plc.put,hi] at hp;have:=h.lt i p hp;omega
 .intro i j p q b bN hp hq hb hw hx;by_cases hi:i=U.n
  .subst hi;simp[Plc.put] at hp;subst hp;simp[Plc.put,Ne.symm bN] at hq;have:=h.lt j q hq;intro e;simp at e;omega
  .simp[Plc.put,hi] at hp;rw[Heap.q0e _ _ hi] at hb;by_cases hj:j=U.n
   .subst hj;simp[Plc.put] at hq;subst hq;have:=h.lt i p hp;intro e;simp at e;omega
   .simp[Plc.put,hj] at hq;exact h.sep i j p q b bN hp hq hb hw hx
 .rintro B hB ⟨i,p,b,hp,hb,hw,rfl⟩;by_cases hi:i=U.n
  .subst hi;simp[Plc.put] at hp;subst hp;simp at hB
  .simp[Plc.put,hi] at hp;rw[Heap.q0e _ _ hi] at hb;exact⟨i,p,b,hp,hb,hw,rfl⟩
theorem HRel0.newObj {ρ:Plc}{U:Heap}{w:World}(h:HRel0 ρ U w) (o:VObj) (O:Obj) (ho:ORel ρ U.n o O) :
  ∃ ρ',ρ' U.n=some ⟨w.heap.size,0,1,default,true⟩/\HRel0 ρ' (U.push (.obj o true)) (w.alloc O)/\Ext ρ U w ρ' (U.push (.obj o true)) (w.alloc O):=by
 have hold:∀ k,k<w.heap.size->(w.alloc O).heap[k]?=w.heap[k]?:=λk hk=>by show (w.heap.push _)[k]?=_;rw[Array.getElem?_push,z1 (by omega)]
 have aG:(w.alloc O).heap.size=w.heap.size+1:=World.size_alloc w _;have aQ:∀ i,i<U.n->∀ p,(ρ.put U.n (some ⟨w.heap.size,0,1,default,true⟩)) i=some p->ρ i=some p:=λi hi p hp=>by unfold Plc.put at hp;rwa [z1 (by omega)] at hp
 refine⟨ρ.put U.n (some ⟨w.heap.size,0,1,default,true⟩),by simp[Plc.put],⟨?_,?_,?_,?_⟩,⟨rfl,rfl,rfl,by omega,λB hB _=>hold B hB,?_,by simp,aQ⟩⟩
 .intro i b hb;by_cases hi:i=U.n
  .subst hi;rw[Heap.q0a] at hb;obtain rfl:=osj hb;refine⟨⟨w.heap.size,0,1,default,true⟩,by simp[Plc.put],⟨rfl,rfl⟩,O,?_,ho.mono (by simp) aQ⟩;show (w.heap.push _)[w.heap.size]?=_;simp
  .rw[Heap.q0e _ _ hi] at hb;obtain⟨p,hp,hB⟩:=h.live i b hb;exact⟨p,by simp[Plc.put,hi,hp],hB.mono (by simp) aQ (hold _ (h.lt i p hp))⟩
 .intro i hi;by_cases aP:i=U.n
  .subst aP;rw[Heap.q0a] at hi;cases hi
  .rw[Heap.q0e _ _ aP] at hi;simp[Plc.put,aP,h.dead i hi]
 .intro i p hp;by_cases hi:i=U.n
  .subst hi;simp[Plc.put] at hp;subst hp;simp
  .simp[Plc.put,hi] at hp;have:=h.lt i p hp;omega
 .intro i j p q b bN hp hq hb hw hx;by_cases hi:i=U.n
  .subst hi;simp[Plc.put] at hp;subst hp;simp[Plc.put,Ne.symm bN] at hq;have:=h.lt j q hq;intro e;simp at e;omega
  .simp[Plc.put,hi] at hp;rw[Heap.q0e _ _ hi] at hb;by_cases hj:j=U.n
   .subst hj;simp[Plc.put] at hq;subst hq;have:=h.lt i p hp;intro e;simp at e;omega
   .simp[Plc.put,hj] at hq;exact h.sep i j p q b bN hp hq hb hw hx
 .rintro B hB ⟨i,p,b,hp,hb,hw,rfl⟩;by_cases hi:i=U.n
  .subst hi;simp[Plc.put] at hp;subst hp;simp at hB
  .simp[Plc.put,hi] at hp;rw[Heap.q0e _ _ hi] at hb;exact⟨i,p,b,hp,hb,hw,rfl⟩
def Pb (w:World) (b:Nat) (O:Obj):World:={w with heap:=w.heap.setIfInBounds b O}
theorem K1 (w:World) (b:Nat) (O:Obj) (k:Nat) (h:k≠b):(Pb w b O).heap[k]?=w.heap[k]?:=by simp only[Pb];rw[Array.getElem?_setIfInBounds_ne (Ne.symm h)]
theorem FI (w:World) (b:Nat) (O:Obj) (h:b<w.heap.size):(Pb w b O).heap[b]?=some O:=by simp only[Pb];rw[Array.getElem?_setIfInBounds_self_of_lt h]
theorem Dq (w:World) (b:Nat) (O:Obj):(Pb w b O).heap.size=w.heap.size:=by simp[Pb]
theorem HRel0.setObj {ρ:Plc}{U:Heap}{w:World}(h:HRel0 ρ U w) {i:Nat}{p:Pl}{o:VObj}(hp:ρ i=some p) (hb:U.get i=some (.obj o true)) {o':VObj}{O':Obj}(ho:ORel ρ U.n o' O') :
  HRel0 ρ (U.upd i (.obj o' true)) (Pb w p.blk O')/\Ext ρ U w ρ (U.upd i (.obj o' true)) (Pb w p.blk O'):=by
 have hi:=U.lt hb;obtain⟨p',bt,h0,O,h1,h2⟩:=h.live i _ hb;obtain rfl:p=p':=osj (hp.symm.trans bt);have ah:=h.lt i p hp;refine⟨⟨λj b hj=>?_,λj hj=>?_,λj q hq=>by rw[Dq];exact h.lt j q hq,λj k q r b cW hq hr cy hw hx=>?_⟩,?_⟩
 .by_cases aN:j=i
  .subst aN;rw[Heap.q0c _ _ hi] at hj;obtain rfl:=osj hj;exact⟨p,hp,h0,O',FI _ _ _ ah,ho⟩
  .rw[Heap.q0b _ _ aN] at hj;obtain⟨q,hq,fz⟩:=h.live j b hj;refine⟨q,hq,?_⟩;by_cases hk:q.blk=p.blk
   .have hx:q.ext=0:=by
     rcases Nat.eq_zero_or_pos q.ext with h'|h'
     .exact h'
     .exact absurd hk.symm (h.sep i j p q _ (Ne.symm aN) hp hq hb rfl h')
    cases b with
    |cells c esz wr tight =>obtain⟨_,_,_,⟨C,e,f,k1,_⟩,_⟩:=fz;rw[hk,h1] at k1;obtain rfl:=osj k1;exact absurd h2 ORel.q1u
    |obj o2 wr=>have:=fz.1;omega
   .exact fz.mono (ze _) (λ_ _ _ h=>h) (K1 _ _ _ _ hk)
 .by_cases aN:j=i
  .subst aN;rw[Heap.q0c _ _ hi] at hj;cases hj
  .rw[Heap.q0b _ _ aN] at hj;exact h.dead j hj
 .by_cases aN:j=i
  .subst aN;exact h.sep j k q r _ cW hq hr hb rfl hx
  .rw[Heap.q0b _ _ aN] at cy;exact h.sep j k q r b cW hq hr cy hw hx
 .refine⟨rfl,rfl,rfl,by rw[Dq];exact ze _,λB hB hW=>K1 _ _ _ _ (λe=>hW ⟨i,p,_,hp,hb,rfl,e.symm⟩),?_,ze _,λ_ _ _ h=>h⟩;rintro B _ ⟨j,q,b,hq,ck,hw,rfl⟩;by_cases aN:j=i
  .subst aN;exact⟨j,q,_,hq,hb,rfl,rfl⟩
  .rw[Heap.q0b _ _ aN] at ck;exact⟨j,q,b,hq,ck,hw,rfl⟩
theorem HRel0.q0l {ρ:Plc}{U:Heap}{w:World}(h:HRel0 ρ U w) {D:Nat}{d:Option (List Deferred)}(hD:w.heap[D]?=some (.deferred d)) (i:Nat) (p:Pl) (hp:ρ i=some p):p.blk≠D:=by
 rintro rfl;cases hb:U.get i with
 |none=>rw[h.dead i hb] at hp;cases hp
 |some b =>
  obtain⟨p',bt,hB⟩:=h.live i b hb;obtain rfl:p=p':=osj (hp.symm.trans bt);cases b with
  |cells c esz wr tight =>obtain⟨_,_,_,⟨C,e,f,k1,_⟩,_⟩:=hB;rw[hD] at k1;cases k1
  |obj o wr =>obtain⟨_,O,k1,k2⟩:=hB;rw[hD] at k1;obtain rfl:=osj k1;exact ORel.q0l k2
theorem HRel0.kill {ρ:Plc}{U:Heap}{w:World}(h:HRel0 ρ U w) (i:Nat):HRel0 (ρ.put i none) (U.kill i) w/\Ext ρ U w (ρ.put i none) (U.kill i) w:=by
 have aQ:∀ j,∀ p,(ρ.put i none) j=some p->ρ j=some p/\j≠i:=λj p hp=>by unfold Plc.put at hp;split at hp<;>simp_all
 refine⟨⟨λj b hb=>?_,λj hj=>?_,λj p hp=>h.lt j p (aQ j p hp).1,λj k p q b cW hp hq hb hw hx=>?_⟩,⟨rfl,rfl,rfl,ze _,λ_ _ _=>rfl,?_,ze _,λj _ p hp=>(aQ j p hp).1⟩⟩
 .by_cases aN:j=i
  .subst aN;rw[Heap.q0f] at hb;cases hb
  .rw[Heap.q0d _ aN] at hb;obtain⟨p,hp,hB⟩:=h.live j b hb;exact⟨p,by simp[Plc.put,aN,hp],hB.mono (ze _) (λk _ p hp=>(aQ k p hp).1) rfl⟩
 .by_cases aN:j=i
  .simp[Plc.put,aN]
  .rw[Heap.q0d _ aN] at hj;simp[Plc.put,aN,h.dead j hj]
 .obtain⟨bt,aN⟩:=aQ j p hp;rw[Heap.q0d _ aN] at hb;exact h.sep j k p q b cW bt (aQ k q hq).1 hb hw hx
 .rintro B _ ⟨j,p,b,hp,hb,hw,rfl⟩;obtain⟨bt,aN⟩:=aQ j p hp;rw[Heap.q0d _ aN] at hb;exact⟨j,p,b,bt,hb,hw,rfl⟩
def GTabs (ρ:Plc) (U:Heap) (w:World):Prop:=∀ g cs,Q0h g=some cs->(∃ e f,w.heap[g]?=some (.cells cs.toArray e f))/\¬ Wr ρ U g
theorem GTabs.lt {ρ:Plc}{U:Heap}{w:World}(h:GTabs ρ U w) {g:Nat}{cs:List Value}(hg:Q0h g=some cs):g<w.heap.size:=by obtain⟨⟨e,f,h1⟩,_⟩:=h g cs hg;exact(xc.1 h1).1
theorem GTabs.ext {ρ ρ':Plc}{U U':Heap}{w w':World}(h:GTabs ρ U w) (k:Ext ρ U w ρ' U' w'):GTabs ρ' U' w':=λg cs hg=>by obtain⟨⟨e,f,h1⟩,h2⟩:=h g cs hg;have hl:=h.lt hg;exact⟨⟨e,f,by rw[k.keep g hl h2];exact h1⟩,λhw=>h2 (k.wr g hl hw)⟩
structure HRel (ρ:Plc) (U:Heap) (w:World):Prop where
 core:HRel0 ρ U w
 tab:GTabs ρ U w
section
variable {ρ:Plc}{U:Heap}{w:World}
theorem HRel.ext {ρ':Plc}{U':Heap}{w':World}(h:HRel ρ U w) (h':HRel0 ρ' U' w') (k:Ext ρ U w ρ' U' w'):HRel ρ' U' w':=⟨h',h.tab.ext k⟩
theorem HRel.live (h:HRel ρ U w):∀ i b,U.get i=some b->∃ p,ρ i=some p/\BRel ρ U.n p w b:=h.core.live
theorem HRel.dead (h:HRel ρ U w):∀ i,U.get i=none->ρ i=none:=h.core.dead
theorem HRel.lt (h:HRel ρ U w):∀ i p,ρ i=some p->p.blk<w.heap.size:=h.core.lt
theorem HRel.sep (h:HRel ρ U w):∀ i j p q b,i≠j->ρ i=some p->ρ j=some q->U.get i=some b->b.wr=true->0<q.ext->p.blk≠q.blk:=h.core.sep
theorem HRel.idlt (h:HRel ρ U w) {i:Nat}{p:Pl}(hp:ρ i=some p):i<U.n:=h.core.idlt hp
theorem HRel.world {w':World}(h:HRel ρ U w) (hs:w.heap.size<=w'.heap.size) (hb:∀ i p,ρ i=some p->w'.heap[p.blk]?=w.heap[p.blk]?) (ht:∀ g cs,Q0h g=some cs->w'.heap[g]?=w.heap[g]?):HRel ρ U w' :=
 ⟨h.core.world hs hb,λg cs hg=>by
  obtain⟨⟨e,f,h1⟩,h2⟩:=h.tab g cs hg;exact⟨⟨e,f,by rw[ht g cs hg];exact h1⟩,h2⟩⟩
theorem HRel.drew (h:HRel ρ U w):HRel ρ U w.drew:=⟨h.core.drew,h.tab⟩
theorem HRel.alloc (h:HRel ρ U w) (c:List Value) (C:Array Value) (e:TypeId) (esz:El) (tight:Bool) (he:e=esz.ty)
  (hc:LRel ρ U.n c (C.toList.take c.length)) (hl:c.length<=C.size) :
  ∃ ρ',ρ' U.n=some ⟨w.heap.size,0,C.size,esz,tight⟩/\HRel ρ' (U.push (.cells c esz true tight)) (w.alloc (.cells C e))/\Ext ρ U w ρ' (U.push (.cells c esz true tight)) (w.alloc (.cells C e)) :=
 let ⟨ρ',h1,h2,h3⟩:=h.core.alloc c C e esz tight he hc hl
 ⟨ρ',h1,h.ext h2 h3,h3⟩
theorem HRel.newObj (h:HRel ρ U w) (o:VObj) (O:Obj) (ho:ORel ρ U.n o O) :
  ∃ ρ',ρ' U.n=some ⟨w.heap.size,0,1,default,true⟩/\HRel ρ' (U.push (.obj o true)) (w.alloc O)/\Ext ρ U w ρ' (U.push (.obj o true)) (w.alloc O) :=
 let ⟨ρ',h1,h2,h3⟩:=h.core.newObj o O ho
 ⟨ρ',h1,h.ext h2 h3,h3⟩
theorem HRel.setObj (h:HRel ρ U w) {i:Nat}{p:Pl}{o:VObj}(hp:ρ i=some p) (hb:U.get i=some (.obj o true)) {o':VObj}{O':Obj}(ho:ORel ρ U.n o' O') :
  HRel ρ (U.upd i (.obj o' true)) (Pb w p.blk O')/\Ext ρ U w ρ (U.upd i (.obj o' true)) (Pb w p.blk O') :=
 let ⟨h2,h3⟩:=h.core.setObj hp hb ho
 ⟨h.ext h2 h3,h3⟩
theorem HRel.q0l (h:HRel ρ U w) {D:Nat}{d:Option (List Deferred)}(hD:w.heap[D]?=some (.deferred d)) (i:Nat) (p:Pl) (hp:ρ i=some p):p.blk≠D:=h.core.q0l hD i p hp
theorem HRel.kill (h:HRel ρ U w) (i:Nat):HRel (ρ.put i none) (U.kill i) w/\Ext ρ U w (ρ.put i none) (U.kill i) w :=
 let ⟨h2,h3⟩:=h.core.kill i
 ⟨h.ext h2 h3,h3⟩
end
end Go.V
namespace Go.V
open Go
abbrev Env:=List Value
inductive MK where
 |int (k:IntKind)
 |string
 |bool
 |agg (s:List MK)
 deriving Inhabited
inductive XOp where
 |eqNil (kd:Nat) (neg:Bool) (x y:Operand)
 |makeMap
 |lookup (mk:MK) (zero:Value) (ok:Bool) (x i:Operand)
 |mapUpdate (mk:MK) (m k v:Operand)
 |delete (mk:MK) (m k:Operand)
 |mapEntry (mk:MK) (zero:Value) (m k:Operand)
 |entryStore (m s v:Operand)
 |lenMap (x:Operand)
 |rangeMap (x:Operand)
 |nextMap (x:Operand)
 |entry (x:Operand)
 |copy (size:Nat) (d s:Operand)
 |clear (z:List Value) (x:Operand)
 |toUnsafe (x:Operand)
 |fromUnsafe (u size:Nat) (x:Operand)
 |sliceData (x:Operand)
 |unsafeStr (e:Nat) (x n:Operand)
 |bytesStr (x:Operand)
 |strBytes (e:Nat) (x:Operand)
 |eqAgg (neg:Bool) (s:List MK) (x y:Operand)
 deriving Inhabited
inductive VOp where
 |move (x:Operand)
 |pick (c a b:Operand)
 |arith (op:BinOp) (x y:Operand)
 |div (op:BinOp) (x y:Operand)
 |bits (op:BinOp) (x y:Operand)
 |shift (op:BinOp) (x y:Operand)
 |cmp (op:BinOp) (x y:Operand)
 |str (op:BinOp) (x y:Operand)
 |eqB (neg:Bool) (x y:Operand)
 |un (op:UnOp) (x:Operand)
 |convI (k:IntKind) (x:Operand)
 |convS (x:Operand)
 |alloc (t:Nat) (z:List Value)
 |box (t:Nat) (x:Operand)
 |build (z:List Value) (parts:List (Nat×Nat×Operand))
 |buildSlice (esz:El) (z:List Value) (len:Nat) (parts:List (Nat×Operand))
 |load (agg:Bool) (size:Nat) (a:Operand)
 |store (size:Nat) (a v:Operand)
 |fieldAddr (off:Nat) (a:Operand)
 |field (agg:Bool) (off size:Nat) (x:Operand)
 |indexAddr (size:Nat) (x i:Operand)
 |indexAddrArr (len size:Nat) (x i:Operand)
 |indexStr (x i:Operand)
 |indexArr (len:Nat) (agg:Bool) (size:Nat) (x i:Operand)
 |slice (size:Nat) (x:Operand) (lo hi mx:Option Operand)
 |sliceStr (x:Operand) (lo hi:Option Operand)
 |makeSlice (esz:El) (bytes:Nat) (z:List Value) (l c:Operand)
 |len (x:Operand)
 |lenStr (x:Operand)
 |append (esz:El) (bytes:Nat) (s x:Operand)
 |max (x y:Operand)
 |max4 (x y z w:Operand)
 |min (x y:Operand)
 |makeFunc (fn:Fn) (first cap:List Operand)
 |iface (t:TypeId) (x:Operand)
 |extract (x:Operand) (i:Nat)
 |nilCheck (x:Operand)
 |callF (f:FuncId) (args:List Operand)
 |callV (f:Operand) (args:List Operand)
 |ext (o:XOp)
 |bad
 deriving Inhabited
structure VOper where
 dst:Option Nat
 op:VOp
 guard:Option (Nat×Bool)
 deriving Inhabited
structure DOper where
 dst:Option Nat
 op:VOp
 guard:Option (Nat×Bool)
 kind:Nat
 kmin:Nat
 kmax:Nat
 deriving Inhabited
inductive DSeg where
 |one (o:VOper)
 |alts (l:List (List DOper))
 deriving Inhabited
inductive VCode where
 |skip
 |region (ops:List VOper)
 |regionD (aR:List DSeg)
 |rangeF (g:Operand) (ps:List Nat) (a b:VCode)
 |seq (a b:VCode)
 |cond (c:Operand) (a b:VCode)
 |block (id:Nat) (b:VCode)
 |loop (b:VCode)
 |exit (id:Nat)
 |ret
 |bad
 deriving Inhabited
def QM:Value->Bool
 |.bool _|.int _ _|.string _|.pointer none|.slice none 0 0|.map none|.nilFunc|.nilIface=>true
 |_=>false
def Vc:Value->Bool
 |.agg cs=>cs.toList.all QM
 |.tuple cs=>cs.toList.all QM
 |v=>QM v
def Xo:Operand->Bool
 |.tmp _=>true
 |.const v=>Vc v
 |.global _=>true
 |.func _=>true
def Us:TypeDesc->Bool
 |.struct _|.array _ _=>true
 |_=>false
def zeroOf (P:Program) (t:TypeId):Option (List Value):=do
 let i <-P.info? t;let z <-i.zero;let cs:=z.cells.toList
 if cs.length==i.size&&cs.all QM then some cs else none
def DS (P:Program) (t:TypeId) (f:Nat):Option Field :=
 match P.underlying t with
 |some (.struct fs)=>fs[f]?
 |_=>none
def VD (P:Program) (o:Op):Option VOp :=
 if !(o.operands.toList.all Xo) then none else
 match o with
 |.move x|.assign x=>some (.move x)
 |.pick c a b=>some (.pick c a b)
 |.binOp op t x y _ =>
  match P.underlying t with
  |some (.int _) =>
   match op with
   |.add|.sub|.mul=>some (.arith op x y)
   |.quo|.rem=>some (.div op x y)
   |.and|.or|.xor|.andNot=>some (.bits op x y)
   |.shl|.shr=>some (.shift op x y)
   |_=>some (.cmp op x y)
  |some .string=>some (.str op x y)
  |some .bool=>match op with|.eql=>some (.eqB false x y)|.neq=>some (.eqB true x y)|_=>none
  |_=>none
 |.unOp op _ x=>some (.un op x)
 |.convert s d x =>
  match P.underlying s,P.underlying d with
  |some (.int _),some (.int k)=>some (.convI k x)
  |some .string,some .string=>some (.convS x)
  |_,_=>none
 |.alloc t=>do some (.alloc t (<-zeroOf P t))
 |.box t x=>some (.box t x)
 |.build t parts=>do
  let z <-zeroOf P t
  match P.underlying t with
  |some (.struct fs)=>do
   let places <-fs.toList.mapM λf=>(P.info? f.type).map λi=>(f.offset,i.size);let ps <-parts.toList.mapM λq=>(places[q.1]?).map λos=>(os.1,os.2,q.2)
   some (.build z ps)
  |some (.array _ e)=>do
   let ei <-P.info? e
   some (.build z (parts.toList.map λq=>(q.1*ei.size,ei.size,q.2)))
  |_=>none
 |.buildSlice t len parts =>
  match P.underlying t with
  |some (.slice e)=>do
   let z <-zeroOf P e
   if z.length==0||4096<len*z.length then none
   some (.buildSlice ⟨z.length,e⟩ z len parts.toList)
  |_=>none
 |.load t a=>do
  let i <-P.info? t;let d <-P.underlying t
  some (.load (Us d) i.size a)
 |.store t a v=>do
  let i <-P.info? t
  some (.store i.size a v)
 |.fieldAddr t a f=>do
  let fd <-DS P t f;let fi <-P.info? fd.type
  if fi.size==0 then none
  some (.fieldAddr fd.offset a)
 |.field t x f=>do
  let fd <-DS P t f;let fi <-P.info? fd.type;let d <-P.underlying fd.type
  some (.field (Us d) fd.offset fi.size x)
 |.indexAddr t x i =>
  match P.underlying t with
  |some (.slice e)=>do let ei <-P.info? e;some (.indexAddr ei.size x i)
  |some (.array n e)=>do let ei <-P.info? e;some (.indexAddrArr n ei.size x i)
  |_=>none
 |.index t x i =>
  match P.underlying t with
  |some .string=>some (.indexStr x i)
  |some (.array n e)=>do let ei <-P.info? e;let d <-P.underlying e;some (.indexArr n (Us d) ei.size x i)
  |_=>none
 |.slice t x lo hi mx =>
  match P.underlying t with
  |some (.slice e)=>do let ei <-P.info? e;some (.slice ei.size x lo hi mx)
  |some .string=>if mx.isNone then some (.sliceStr x lo hi) else none
  |_=>none
 |.makeSlice t l c =>
  match P.underlying t with
  |some (.slice e)=>do
   let ei <-P.info? e;let z <-zeroOf P e
   if z.length==0 then none
   some (.makeSlice ⟨z.length,e⟩ ei.bytes z l c)
  |_=>none
 |.makeFunc fn first cap=>match fn with|.func _=>some (.makeFunc fn first.toList cap.toList)|_=>none
 |.makeInterface t x=>do
  let d <-P.underlying t
  match d with
  |.interface _=>none
  |_=>some (.iface t x)
 |.extract x i=>some (.extract x i)
 |.nilCheck x=>some (.nilCheck x)
 |.call c =>
  match c.callee with
  |.value (.func f)=>some (.callF f c.args.toList)
  |.value f=>some (.callV f c.args.toList)
  |.builtin .len =>
   match c.argTypes[0]?,c.args.toList with
   |some t,[x] =>
    match P.underlying t with
    |some .string=>some (.lenStr x)
    |some (.slice _)=>some (.len x)
    |_=>none
   |_,_=>none
  |.builtin .append =>
   match c.argTypes[0]?,c.argTypes[1]?,c.args.toList with
   |some t,some u,[s,x] =>
    match P.underlying t,P.underlying u with
    |some (.slice e),some (.slice _)=>do
     let ei <-P.info? e;let z <-zeroOf P e
     if z.length==0||ei.bytes==0 then none
     some (.append ⟨z.length,e⟩ ei.bytes s x)
    |_,_=>none
   |_,_,_=>none
  |.builtin .max=>match c.args.toList with|[x,y]=>some (.max x y)|[x,y,z]=>some (.max4 x y z z)|[x,y,z,w]=>some (.max4 x y z w)|_=>none
  |.builtin .min=>match c.args.toList with|[x,y]=>some (.min x y)|_=>none
  |_=>none
 |_=>none
def CM (P:Program) (g:TypeId->Option (List MK)):List Field->Nat->Option (List MK)
 |[],_=>some []
 |f::r,off=>if f.name≠"_"/\f.offset=off then (match g f.type with
  |some s=>if P.cellsOf f.type=s.length then (CM P g r (off+s.length)).map λq=>s++q else none
  |none=>none) else none
def shp (P:Program):Nat->TypeId->Option (List MK)
 |0,_=>none
 |d+1,t=>match P.underlying t with
  |some .bool=>some [.bool]
  |some (.int q)=>some [.int q]
  |some .string=>some [.string]
  |some (.array n e)=>(match shp P d e with
   |some s=>if P.cellsOf e=s.length then some (List.replicate n s).flatten else none
   |none=>none)
  |some (.struct fs)=>if P.stoodInHeld t=true then none else CM P (shp P d) fs.toList 0
  |_=>none
def Eg:MK->Value->Bool
 |.int q,.int q' _=>decide (q'=q)
 |.string,.string _=>true
 |.bool,.bool _=>true
 |_,_=>false
def fits:List MK->List Value->Bool
 |[],[]=>true
 |k::ks,v::vs=>Eg k v&&fits ks vs
 |_,_=>false
def Ki:Value->Value->Bool
 |.int _ a,.int _ b=>a==b
 |.bool a,.bool b=>a==b
 |.string a,.string b=>a.data.toList==b.data.toList
 |_,_=>false
def Qt:List Value->List Value->Bool
 |a::l,b::m=>Ki a b&&Qt l m
 |_,_=>true
def PY (P:Program) (neg:Bool) (t:TypeId) (x y:Operand):Option XOp :=
 if P.eqGuardType P.depth t=true then none else (shp P 8 t).map λs=>.eqAgg neg s x y
theorem Fc {P:Program}{neg:Bool}{t:TypeId}{x y:Operand}{o:XOp}(h:PY P neg t x y=some o):∃ s,o=.eqAgg neg s x y:=by
 unfold PY at h;split at h
 .cases h
 .obtain⟨s,_,rfl⟩:=zw.1 h;exact⟨s,rfl⟩
def Lx (P:Program) (t:TypeId):Option MK :=
 match P.underlying t with
 |some (.int k)=>some (.int k)
 |some .string=>some .string
 |some .bool=>some .bool
 |some (.struct _)=>(shp P 8 t).map .agg
 |some (.array _ _)=>(shp P 8 t).map .agg
 |_=>none
def Tk (P:Program) (o:Op):Option XOp :=
 if !(o.operands.toList.all Xo) then none else
 match o with
 |.binOp op t x y _ =>
  match op,P.underlying t with
  |.eql,some (.pointer e)=>do let i <-P.info? e;if i.size==0 then none else some (.eqNil 0 false x y)
  |.neq,some (.pointer e)=>do let i <-P.info? e;if i.size==0 then none else some (.eqNil 0 true x y)
  |.eql,some (.slice _)=>some (.eqNil 1 false x y)
  |.eql,some (.map _ _)=>some (.eqNil 2 false x y)
  |.eql,some (.func _ _ _)=>some (.eqNil 3 false x y)
  |.neq,some (.slice _)=>some (.eqNil 1 true x y)
  |.neq,some (.map _ _)=>some (.eqNil 2 true x y)
  |.neq,some (.func _ _ _)=>some (.eqNil 3 true x y)
  |.eql,some (.struct _)=>PY P false t x y
  |.neq,some (.struct _)=>PY P true t x y
  |.eql,some (.array _ _)=>PY P false t x y
  |.neq,some (.array _ _)=>PY P true t x y
  |_,_=>none
 |.makeMap _ none=>some .makeMap
 |.lookup t x i ok =>
  match P.underlying t with
  |some (.map k e)=>do
   let mk <-Lx P k;let inf <-P.info? e;let z <-inf.zero
   if Vc z then some (.lookup mk z ok x i) else none
  |_=>none
 |.mapUpdate t m k v =>
  match P.underlying t with
  |some (.map kt _)=>do some (.mapUpdate (<-Lx P kt) m k v)
  |_=>none
 |.insert t m k v =>
  match P.underlying t with
  |some (.map kt _)=>do some (.mapUpdate (<-Lx P kt) m k v)
  |_=>none
 |.mapEntry t m k =>
  match P.underlying t with
  |some (.map kt e)=>do
   let mk <-Lx P kt;let inf <-P.info? e;let z <-inf.zero
   if Vc z then some (.mapEntry mk z m k) else none
  |_=>none
 |.entryStore _ m s v=>some (.entryStore m s v)
 |.range t x =>
  match P.underlying t with
  |some (.map _ _)=>some (.rangeMap x)
  |_=>none
 |.next x false=>some (.nextMap x)
 |.entry x=>some (.entry x)
 |.convert s d x =>
  match P.underlying s,P.underlying d with
  |some (.pointer t),some .unsafePointer=>do let i <-P.info? t;if i.size==0 then none else some (.toUnsafe x)
  |some .unsafePointer,some (.pointer u)=>do let i <-P.info? u;if i.size==0||P.cellsOf u==0 then none else some (.fromUnsafe u (P.cellsOf u) x)
  |some (.slice e),some .string=>match P.underlying e with|some (.int .u8)=>some (.bytesStr x)|_=>none
  |some .string,some (.slice e)=>match P.underlying e with|some (.int .u8)=>some (.strBytes e x)|_=>none
  |_,_=>none
 |.call c =>
  match c.callee with
  |.builtin .len =>
   match c.argTypes[0]?,c.args.toList with
   |some t,[x]=>match P.underlying t with|some (.map _ _)=>some (.lenMap x)|_=>none
   |_,_=>none
  |.builtin .delete =>
   match c.argTypes[0]?,c.args.toList with
   |some t,[m,k]=>match P.underlying t with|some (.map kt _)=>do some (.delete (<-Lx P kt) m k)|_=>none
   |_,_=>none
  |.builtin .copy =>
   match c.argTypes[0]?,c.args.toList with
   |some t,[d,s]=>match P.underlying t with|some (.slice e)=>do let i <-P.info? e;some (.copy i.size d s)|_=>none
   |_,_=>none
  |.builtin .clear =>
   match c.argTypes[0]?,c.args.toList with
   |some t,[x]=>match P.underlying t with
    |some (.slice e)=>do
     let z <-zeroOf P e
     if z.length==0 then none
     some (.clear z x)
    |_=>none
   |_,_=>none
  |.builtin .unsafeSliceData=>match c.args.toList with|[x]=>some (.sliceData x)|_=>none
  |.builtin .unsafeString =>
   match c.argTypes[0]?,c.args.toList with
   |some t,[x,n]=>match P.underlying t with|some (.pointer e)=>if P.cellsOf e=1 then some (.unsafeStr e x n) else none|_=>none
   |_,_=>none
  |_=>none
 |_=>none
def K4 (P:Program) (o:Op):VOp :=
 match VD P o with
 |some v=>v
 |none=>match Tk P o with
  |some x=>.ext x
  |none=>.bad
def Jn (P:Program) (ops:Array Oper) (o:Oper):Option VOper:=do
 let v:=K4 P o.op
 match o.guard with
 |none=>some ⟨o.dst,v,none⟩
 |some (j,want)=>do
  let oj <-ops[j]?;let d <-oj.dst
  some ⟨o.dst,v,some (d,want)⟩
def XOp.quiet:XOp->Bool
 |.makeMap|.mapUpdate ..|.mapEntry ..|.entryStore ..|.delete ..|.rangeMap _|.nextMap _|.copy ..|.clear ..|.unsafeStr ..|.strBytes ..=>false
 |_=>true
def VOp.quiet:VOp->Bool
 |.ext o=>o.quiet
 |.alloc ..|.box ..|.buildSlice ..|.store ..|.makeSlice ..|.append ..=>false
 |.slice _ _ _ _ (some _)=>false
 |_=>true
def VOp.kind:VOp->Nat
 |.callF ..|.callV ..=>2
 |.load ..=>1
 |.slice _ _ _ _ none=>1
 |.ext (.eqNil ..)|.ext (.lookup ..)|.ext (.lenMap _)|.ext (.entry _)|.ext (.toUnsafe _)|.ext (.fromUnsafe ..)|.ext (.sliceData _)|.ext (.bytesStr _)=>1
 |o=>if o.quiet then 0 else 2
def Q5v (acc:List Nat) (es:List Nat):Nat:=es.foldl (λs e=>s ||| 2 ^ e ||| acc.getD e 0) 0
def Z3w:List (List Nat)->List Nat->List Nat
 |[],acc=>acc
 |es::r,acc=>Z3w r (acc++[Q5v acc es])
def XOp.opds:XOp->List Operand
 |.eqNil _ _ x y=>[x,y]
 |.eqAgg _ _ x y=>[x,y]
 |.makeMap=>[]
 |.lookup _ _ _ x i=>[x,i]
 |.mapUpdate _ m k v=>[m,k,v]
 |.delete _ m k=>[m,k]
 |.mapEntry _ _ m k=>[m,k]
 |.entryStore m s v=>[m,s,v]
 |.lenMap x|.rangeMap x|.nextMap x|.entry x|.toUnsafe x|.fromUnsafe _ _ x|.sliceData x|.bytesStr x=>[x]
 |.copy _ d s=>[d,s]
 |.clear _ x=>[x]
 |.unsafeStr _ x n=>[x,n]
 |.strBytes _ x=>[x]
def VOp.opds:VOp->List Operand
 |.move x|.un _ x|.convI _ x|.convS x|.box _ x|.load _ _ x|.fieldAddr _ x|.field _ _ _ x|.len x|.lenStr x|.iface _ x|.extract x _|.nilCheck x=>[x]
 |.pick c a b=>[c,a,b]
 |.arith _ x y|.div _ x y|.bits _ x y|.shift _ x y|.cmp _ x y|.str _ x y|.eqB _ x y|.store _ x y|.indexAddr _ x y|.indexAddrArr _ _ x y|.indexStr x y|.indexArr _ _ _ x y|.makeSlice _ _ _ x y
 |.append _ _ x y|.max x y|.min x y=>[x,y]
 |.max4 x y z w=>[x,y,z,w]
 |.alloc ..|.bad=>[]
 |.build _ ps=>ps.map λp=>p.2.2
 |.buildSlice _ _ _ ps=>ps.map λp=>p.2
 |.slice _ x a b c=>x::(a.toList++b.toList++c.toList)
 |.sliceStr x a b=>x::(a.toList++b.toList)
 |.makeFunc _ a b=>a++b
 |.callF _ bQ=>bQ
 |.callV f bQ=>f::bQ
 |.ext o=>o.opds
def Iv (l:List Operand):List Nat:=l.filterMap fun|.tmp t=>some t|_=>none
def BB (o:Oper):List Nat:=(o.after.toList.filter (Region.binds .any)).map (·.on)
def KP (v:VOper):List Nat:=v.dst.toList++Iv v.op.opds++(v.guard.map (·.1)).toList
def Q3b (a b:List Nat×Option Nat):Bool:=(match a.2 with|some d=>b.1.contains d|none=>false)||(match b.2 with|some d=>a.1.contains d|none=>false)
structure DInfo where
 an:List Nat
 ed:List (List Nat)
 nm:List (List Nat×Option Nat)
 ks:List Nat
def KA (ops:List Oper) (vs:List VOper):DInfo:=⟨Z3w (ops.map BB) [],ops.map BB,vs.map λv=>(KP v,v.dst),vs.map (·.op.kind)⟩
def DInfo.lt (d:DInfo) (i j:Nat):Bool:=(d.an.getD j 0).testBit i
def DInfo.k (d:DInfo) (i:Nat):Nat:=d.ks.getD i 0
def DInfo.rank (d:DInfo):Nat->Nat
 |0=>0
 |i+1=>if d.k i=2 then d.rank i+1 else d.rank i
def DInfo.kmin (d:DInfo) (i:Nat):Nat:=((List.range d.ks.length).filter λl=>d.k l==2&&d.lt l i).length
def DInfo.kmax (d:DInfo) (i:Nat):Nat:=((List.range d.ks.length).filter λl=>d.k l==2&&!(d.lt i l)).length
def DInfo.touch (d:DInfo) (i j:Nat):Bool:=Q3b (d.nm.getD i ([],none)) (d.nm.getD j ([],none))
def DInfo.okE (d:DInfo) (j:Nat):Bool:=(d.ed.getD j []).all λe=>decide (e<j)
def DInfo.okP (d:DInfo) (j:Nat):Bool:=(List.range j).all λi =>
 if d.lt i j then (d.ed.getD j []).any (λe=>e==i||decide (i<e)&&d.lt i e) else !(d.touch i j)&&!(d.k i==2&&d.k j==2)
def DInfo.okK (d:DInfo) (j:Nat):Bool:=!(d.k j==1) ||
 (decide (d.kmin j<=d.rank j/\d.rank j<=d.kmax j)&&(decide (d.kmax j<=d.rank d.ks.length)&&(List.range d.ks.length).all λl=>!(d.k l==2)||(d.lt l j==decide (d.rank l<d.kmin j)&&d.lt j l==decide (d.kmax j<=d.rank l))))
def DInfo.ok (d:DInfo):Bool:=(List.range d.ks.length).all λj=>d.okE j&&(d.okP j&&d.okK j)
def DInfo.opers (d:DInfo):List VOper->Nat->List DOper
 |[],_=>[]
 |v::r,i=>⟨v.dst,v.op,v.guard,v.op.kind,d.kmin i,d.kmax i⟩::d.opers r (i+1)
def DInfo.okB (d:DInfo):Bool:=decide (d.an.length=d.ks.length)&&(List.range d.ks.length).all λj=>d.okE j&&(decide (d.an.getD j 0<2 ^ j) &&
 (List.range j).all λi=>!(d.lt i j)||(d.ed.getD j []).any (λe=>e==i||decide (i<e)&&d.lt i e))
def exts (lt:Nat->Nat->Bool):Nat->List Nat->List (List Nat)
 |_,[]=>[[]]
 |0,_=>[]
 |n+1,l=>l.flatMap λk=>if l.all (λi=>i==k||!(lt i k)) then (exts lt n (l.erase k)).map (k::·) else []
def Z54 (ed:List (List Nat)) (ks idx:List Nat):Nat->List Nat->List Nat->List Nat
 |0,acc,_=>acc
 |f+1,acc,kq=>match idx.find? (λi=>!(acc.contains i)&&((ed.getD i []).all (λe=>!(idx.contains e)||acc.contains e)&&(!(ks.getD i 0==2)||kq.head?==some i))) with
  |none=>acc
  |some i=>Z54 ed ks idx f (acc++[i]) (if ks.getD i 0==2 then kq.tail else kq)
def Q75 (ed:List (List Nat)) (ks idx:List Nat):Nat->List Nat->List Nat->List Nat
 |0,acc,_=>acc
 |f+1,acc,kq=>match idx.find? (λi=>!(acc.contains i)&&((ed.getD i []).all (λe=>!(idx.contains e)||acc.contains e)&&!(ks.getD i 0==2))) with
  |some i=>Q75 ed ks idx f (acc++[i]) kq
  |none=>match idx.find? (λi=>!(acc.contains i)&&((ed.getD i []).all (λe=>!(idx.contains e)||acc.contains e)&&kq.head?==some i)) with
   |none=>acc
   |some i=>Q75 ed ks idx f (acc++[i]) kq.tail
def Q74:VOp->Bool
 |.callF ..=>true
 |_=>false
def Z4w (b:Bool) (ed:List (List Nat)) (ks idx:List Nat) (n:Nat) (q:List Nat):List Nat:=if b then Q75 ed ks idx n [] q else Z54 ed ks idx n [] q
def Q56 (d:DInfo) (pm:List Nat) (p:Nat):List Nat :=
 ((d.ed.getD (pm.getD p 0) []).filter pm.contains).map (λe=>pm.idxOf e) ++
  (if d.k (pm.getD p 0)==2 then ((List.range p).filter λq=>d.k (pm.getD q 0)==2).getLast?.toList else [])
def Vk (vs:List VOper) (pm:List Nat):List VOper:=pm.map λi=>vs.getD i default
def CS (d:DInfo) (vs:List VOper) (pm:List Nat):DInfo :=
 let ed:=(List.range pm.length).map (Q56 d pm)
 ⟨Z3w ed [],ed,(Vk vs pm).map λv=>(KP v,v.dst),(Vk vs pm).map (·.op.kind)⟩
def Z23 (d:DInfo) (vs:List VOper) (idx s pm:List Nat):Bool :=
 idx.all pm.contains&&(pm.all idx.contains&&(decide pm.Nodup&&(decide (pm.filter (λi=>d.k i==2)=s)&&(CS d vs pm).ok)))
def Z3o (d:DInfo) (vs:List VOper) (s n:Nat):Option DSeg :=
 if n=1 then some (.one (vs.getD s default)) else
 let idx:=List.range' s n;let ss:=exts d.lt n (idx.filter λi=>d.k i==2);let ps:=ss.map λq=>(q,Z4w (decide (3<=(idx.filter λi=>Q74 (vs.getD i default).op).length)) d.ed d.ks idx n q)
 if ps.all λsp=>Z23 d vs idx sp.1 sp.2 then some (.alts (ps.map λsp=>(CS d vs sp.2).opers (Vk vs sp.2) 0)) else none
def cutAt (d:DInfo) (t:Nat):Bool:=(List.range' t (d.ks.length-t)).all λp=>(List.range t).all λi=>d.lt i p
def O5 (d:DInfo) (vs:List VOper):Nat->Nat->Option (List DSeg)
 |0,s=>if s=d.ks.length then some [] else none
 |f+1,s=>if s=d.ks.length then some [] else
  match (List.range' (s+1) (d.ks.length-s)).find? (cutAt d) with
  |none=>none
  |some t=>match Z3o d vs s (t-s),O5 d vs f t with
   |some x,some r=>some (x::r)
   |_,_=>none
def Q6s (d:DInfo) (vs:List VOper):Option (List DSeg):=if d.okB then O5 d vs d.ks.length 0 else none
def G6 (d:DInfo) (vs:List VOper):Bool :=
 d.okB&&(vs.all (λv=>!(v.op.kind==2))&&Z23 d vs (List.range' 0 d.ks.length) [] (List.range' 0 d.ks.length))
def comp (P:Program):Code->Option VCode
 |.skip=>some .skip
 |.region _ ops false=>do some (.region (<-ops.toList.mapM (Jn P ops)))
 |.region _ ops true=>do
  let l <-ops.toList.mapM (Jn P ops)
  if G6 (KA ops.toList l) l then some (.region l) else
  match Q6s (KA ops.toList l) l with
  |some aR=>some (.regionD aR)
  |none=>some .bad
 |.seq a b=>do some (.seq (<-comp P a) (<-comp P b))
 |.cond c a b=>do if Xo c then some (.cond c (<-comp P a) (<-comp P b)) else some .bad
 |.block id b=>do some (.block id (<-comp P b))
 |.loop b=>do some (.loop (<-comp P b))
 |.rangeFunc g ps a b=>do if Xo g then some (.rangeF g ps.toList (<-comp P a) (<-comp P b)) else some .bad
 |.exit id=>some (.exit id)
 |.ret=>some .ret
 |_=>some .bad
def Q6 (env:Env):Operand->Value
 |.tmp t=>env.getD t undef
 |.const v=>v
 |.global g=>.pointer (some ⟨g,0,some 0⟩)
 |.func f=>.func (.func f) #[] #[]
def R0:BinOp->IntKind->Int->Int->Int
 |.add,k,a,b=>k.wrap (a+b)
 |.sub,k,a,b=>k.wrap (a-b)
 |_,k,a,b=>k.wrap (a*b)
def Q7q:BinOp->IntKind->Int->Int->Int
 |.quo,k,a,b=>k.wrap (a.tdiv b)
 |_,_,a,b=>a.tmod b
def Qd (op:BinOp) (k:IntKind) (x y:Int):Int :=
 let a:=BitVec.ofInt k.bits x;let b:=BitVec.ofInt k.bits y
 match op with
 |.and=>k.wrap (a &&& b).toNat
 |.or=>k.wrap (a ||| b).toNat
 |.xor=>k.wrap (a ^^^ b).toNat
 |_=>k.wrap (a &&& ~~~b).toNat
def TT:BinOp->IntKind->Int->Int->Int
 |.shl,k,x,y=>k.wrap (x*2 ^ (Nat.min y.toNat k.bits))
 |_,k,x,y=>x.fdiv (2 ^ (Nat.min y.toNat k.bits))
def Z1o:BinOp->Int->Int->Bool
 |.eql,a,b=>a==b
 |.neq,a,b=>a != b
 |.lss,a,b=>decide (a<b)
 |.leq,a,b=>decide (a<=b)
 |.gtr,a,b=>decide (a > b)
 |_,a,b=>decide (a>=b)
def cellOk:Value->Bool
 |.agg _|.tuple _|.chan _=>false
 |_=>true
def Kh:Value->Option (List Value)
 |.agg cs=>some cs.toList
 |.chan _|.tuple _=>none
 |v=>some [v]
def Yi (c:List Value) (o:Nat):List Value->List Value
 |[]=>c
 |v::vs=>Yi (c.set o v) (o+1) vs
def NK (c:List Value):List (Nat×Nat×Value)->Option (List Value)
 |[]=>some c
 |(o,s,v)::rest =>
  match Kh v with
  |some vs=>if vs.length=s/\o+s<=c.length then NK (Yi c o vs) rest else none
  |none=>none
def H9 (n:Nat):List Value->List Value
 |[x]=>List.replicate n x
 |z=>(List.replicate n z).flatten
def WB (agg:Bool) (size:Nat) (c:List Value) (o:Nat):Option Value :=
 if agg then (if o+size<=c.length then some (.agg ((c.drop o).take size).toArray) else none) else c[o]?
def Heap.sl (U:Heap) (esz:Nat):Value->Option (List Value)
 |.slice none 0 0=>some []
 |.slice (some ⟨i,o,none⟩) n _ =>
  match U.get i with
  |some (.cells c e _ _)=>if e.sz=esz/\o+n*esz<=c.length then some ((c.drop o).take (n*esz)) else none
  |_=>none
 |_=>none
def Yz (esz:El) (bytes:Nat) (U:Heap) (s:Value) (m:Nat) (xs:List Value):Option (Value×Heap) :=
 match s with
 |.slice none 0 0 =>
  if m=0 then some (s,U) else
  if m*bytes<=2 ^ 46 then some (.slice (some ⟨U.n,0,none⟩) m m,U.push (.cells xs esz true false)) else none
 |.slice (some ⟨i,o,none⟩) n cap =>
  match U.get i with
  |some (.cells c e wr tight) =>
   if e=esz/\n<=cap/\o+n*esz.sz<=c.length then
    if m=0 then some (s,U) else
    if n+m<=cap then
     (if wr=true/\o+(n+m)*esz.sz<=c.length then some (.slice (some ⟨i,o,none⟩) (n+m) cap,U.upd i (.cells (Yi c (o+n*esz.sz) xs) e wr tight)) else none)
    else if (n+m)*bytes<=2 ^ 46 then
     (if tight then some (.slice (some ⟨U.n,0,none⟩) (n+m) (n+m),U.push (.cells ((c.drop o).take (n*esz.sz)++xs) esz true false))
     else if wr then some (.slice (some ⟨U.n,0,none⟩) (n+m) (n+m),(U.kill i).push (.cells ((c.drop o).take (n*esz.sz)++xs) esz true false))
     else none)
    else none
   else none
  |_=>none
 |.slice (some ⟨i,o,some 0⟩) n cap =>
  match U.get i with
  |some (.cells c e _ _) =>
   if e=esz/\n=cap/\o+n*esz.sz<=c.length/\m≠0/\(n+m)*bytes<=2 ^ 46 then
    some (.slice (some ⟨U.n,0,none⟩) (n+m) (n+m),U.push (.cells ((c.drop o).take (n*esz.sz)++xs) esz true false))
   else none
  |_=>none
 |_=>none
def Jh (ev:Operand->Value):Option Operand->Nat->Option Nat
 |none,d=>some d
 |some x,_=>match ev x with
  |.int _ i=>if 0<=i then some i.toNat else none
  |_=>none
def WM (size:Nat) (U:Heap) (s:Value) (l h:Nat) (m:Option Nat):Option (Value×Heap) :=
 match s with
 |.slice none 0 0=>if l=0/\h=0/\(m.getD 0)=0 then some (.slice none 0 0,U) else none
 |.slice (some ⟨i,o,none⟩) _ cap =>
  match U.get i with
  |some (.cells _ e _ t) =>
   match m with
   |none=>if e.sz=size/\l<=h/\h<=cap then some (.slice (some ⟨i,o+l*size,none⟩) (h-l) (cap-l),U) else none
   |some m =>
    if e.sz=size/\l<=h/\h<=m/\m<=cap then
     if m=l then some (.slice (some ⟨U.n,0,none⟩) 0 0,U.push (.cells [] e false true))
     else if t=false/\h=m then some (.slice (some ⟨i,o+l*size,some 0⟩) (h-l) (m-l),U)
     else some (.slice (some ⟨i,o+l*size,none⟩) (h-l) (m-l),U)
    else none
  |_=>none
 |_=>none
def ZC:MK->Value->Bool
 |.int k,.int k' _=>decide (k=k')
 |.string,.string _|.bool,.bool _=>true
 |.agg s,.agg cs=>fits s cs.toList
 |_,_=>false
def XN:Value->Value->Bool
 |.agg a,.agg b=>Qt a.toList b.toList
 |.int _ a,.int _ b=>a==b
 |.string a,.string b=>a.data.toList==b.data.toList
 |.bool a,.bool b=>a==b
 |_,_=>false
abbrev JD:=Value×Value×Nat
def Qp (k:Value):List JD->Option JD
 |[]=>none
 |e::es=>if XN k e.1 then some e else Qp k es
def QC (k v:Value) (clock:Nat):List JD->List JD×Nat
 |[]=>([(k,v,clock)],clock+1)
 |e::es=>if XN k e.1 then ((k,v,e.2.2)::es,clock) else (e::(QC k v clock es).1,(QC k v clock es).2)
def KI (k:Value):List JD->List JD
 |[]=>[]
 |e::es=>if XN k e.1 then es else e::KI k es
def Heap.mapAt (U:Heap) (m:Nat):Option (List JD×Nat×Bool):=match U.get m with
 |some (.obj (.map es clock) wr)=>some (es,clock,wr)
 |_=>none
def Cm:Value->Option UInt8
 |.int .u8 n=>some n.toNat.toUInt8
 |_=>none
def BI (l:List Value):Option ByteArray:=(l.mapM Cm).map λbs=>⟨bs.toArray⟩
def Jp:Nat->Value->Value->Heap->Option Bool
 |0,.pointer none,.pointer none,_=>some true
 |0,.pointer none,.pointer (some _),_=>some false
 |0,.pointer (some _),.pointer none,_=>some false
 |0,.pointer (some ⟨i,o,none⟩),.pointer (some ⟨j,q,none⟩),U=>if i=j/\o=q/\(U.get i).isSome=true then some true else none
 |1,.slice none _ _,.slice none _ _,_=>some true
 |1,.slice none _ _,.slice (some _) _ _,_=>some false
 |1,.slice (some _) _ _,.slice none _ _,_=>some false
 |2,.map none,.map none,_=>some true
 |2,.map none,.map (some _),_=>some false
 |2,.map (some _),.map none,_=>some false
 |3,.nilFunc,.nilFunc,_=>some true
 |3,.nilFunc,.func _ _ _,_=>some false
 |3,.func _ _ _,.nilFunc,_=>some false
 |_,_,_,_=>none
def ZA (o:XOp) (ev:Operand->Value) (U:Heap):Option (Value×Heap) :=
 match o with
 |.eqNil kd neg x y=>match Jp kd (ev x) (ev y) U with|some b=>some (.bool (if neg then !b else b),U)|none=>none
 |.eqAgg neg s x y=>match ev x,ev y with
  |.agg a,.agg b=>if fits s a.toList=true/\fits s b.toList=true then some (.bool (if neg then !(Qt a.toList b.toList) else Qt a.toList b.toList),U) else none
  |_,_=>none
 |.makeMap=>some (.map (some U.n),U.push (.obj (.map [] 0) true))
 |.lookup mk z ok x i =>
  let k:=ev i
  if ZC mk k then
   match ev x with
   |.map none=>some (if ok then .tuple #[z,.bool false] else z,U)
   |.map (some m)=>match U.mapAt m with
    |some (es,_,_)=>if es.all (λe=>ZC mk e.1) then
      (match Qp k es with
      |some e=>some (if ok then .tuple #[e.2.1,.bool true] else e.2.1,U)
      |none=>some (if ok then .tuple #[z,.bool false] else z,U)) else none
    |none=>none
   |_=>none
  else none
 |.mapUpdate mk m k v=>match ev m with
  |.map (some i)=>match U.mapAt i with
   |some (es,clock,true)=>if ZC mk (ev k)&&es.all (λe=>ZC mk e.1) then some (undef,U.upd i (.obj (.map (QC (ev k) (ev v) clock es).1 (QC (ev k) (ev v) clock es).2) true)) else none
   |_=>none
  |_=>none
 |.delete mk m k=>match ev m with
  |.map (some i)=>match U.mapAt i with
   |some (es,clock,true)=>if ZC mk (ev k)&&es.all (λe=>ZC mk e.1) then some (.tuple #[],U.upd i (.obj (.map (KI (ev k) es) clock) true)) else none
   |_=>none
  |_=>none
 |.mapEntry mk z m k=>match ev m with
  |.map (some i)=>match U.mapAt i with
   |some (es,clock,true)=>if ZC mk (ev k)&&es.all (λe=>ZC mk e.1) then
     (match Qp (ev k) es with
     |some e=>some (.tuple #[e.2.1,.int .i64 e.2.2],U.upd i (.obj (.map (QC (ev k) e.2.1 clock es).1 (QC (ev k) e.2.1 clock es).2) true))
     |none=>some (.tuple #[z,.int .i64 clock],U.upd i (.obj (.map (QC (ev k) z clock es).1 (QC (ev k) z clock es).2) true))) else none
   |_=>none
  |_=>none
 |.entryStore m s v=>match ev m,ev s with
  |.map (some i),.int .i64 n=>match U.mapAt i with
   |some (es,clock,true)=>(match es.findIdx? (λe=>(e.2.2:Int)==n) with
    |some j=>(match es[j]? with
     |some e=>some (undef,U.upd i (.obj (.map (es.set j (e.1,ev v,e.2.2)) clock) true))
     |none=>none)
    |none=>none)
   |_=>none
  |_,_=>none
 |.lenMap x=>match ev x with
  |.map none=>some (.int .i64 0,U)
  |.map (some m)=>match U.mapAt m with
   |some (es,_,_)=>some (.int .i64 es.length,U)
   |none=>none
  |_=>none
 |.rangeMap x=>match ev x with
  |.map (some m)=>match U.mapAt m with
   |some (_,clock,_)=>some (.pointer (some ⟨U.n,0,none⟩),U.push (.obj (.iter m clock [] clock) true))
   |none=>none
  |_=>none
 |.nextMap _=>none
 |.entry x=>match ev x with
  |.pointer (some ⟨i,0,none⟩)=>match U.get i with
   |some (.obj (.iter m _ seen last) _)=>match U.mapAt m,seen.getLast? with
    |some (es,clock,_),some b=>if clock=last then (match es.find? (λe=>e.2.2==b) with|some e=>if Vc e.1 then some (.tuple #[e.1,e.2.1],U) else none|none=>none) else none
    |_,_=>none
   |_=>none
  |_=>none
 |.copy size d s=>match ev d,ev s with
  |.slice db dn _,.slice sb sn sc =>
   if min sn dn=0 then some (.int .i64 0,U) else
   match db,U.sl size (.slice sb (min sn dn) sc) with
   |some ⟨i,o,none⟩,some xs=>match U.get i with
    |some (.cells c e wr tight)=>if wr=true/\e.sz=size/\o+xs.length<=c.length/\xs.all cellOk=true then some (.int .i64 (min sn dn:Nat),U.upd i (.cells (Yi c o xs) e wr tight)) else none
    |_=>none
   |_,_=>none
  |_,_=>none
 |.clear z x=>match ev x with
  |.slice b n _ =>
   if n=0 then some (.tuple #[],U) else
   match b with
   |some ⟨i,o,none⟩=>match U.get i with
    |some (.cells c e wr tight)=>if wr=true/\o+n*z.length<=c.length/\z.all cellOk=true then some (.tuple #[],U.upd i (.cells (Yi c o (H9 n z)) e wr tight)) else none
    |_=>none
   |_=>none
  |_=>none
 |.toUnsafe x=>match ev x with
  |.pointer none=>some (.pointer none,U)
  |.pointer (some ⟨i,o,none⟩)=>match U.get i with
   |some (.cells c _ _ _)=>if o<c.length then some (.pointer (some ⟨i,o,none⟩),U) else none
   |_=>none
  |_=>none
 |.fromUnsafe u size x=>match ev x with
  |.pointer none=>some (.pointer none,U)
  |.pointer (some ⟨i,o,none⟩)=>match U.get i with
   |some (.cells c e true true)=>if o=0/\e.ty=u/\size<=c.length then some (.pointer (some ⟨i,o,none⟩),U) else none
   |_=>none
  |_=>none
 |.sliceData x=>match ev x with
  |.slice none _ _=>some (.pointer none,U)
  |.slice (some ⟨i,o,none⟩) _ cap=>if cap≠0/\(U.get i).isSome=true then some (.pointer (some ⟨i,o,none⟩),U) else none
  |_=>none
 |.unsafeStr e x n=>match ev x,ev n with
  |.pointer p,.int .i64 k =>
   if k=0 then some (.string ⟨#[]⟩,U) else
   match p with
   |some ⟨i,o,none⟩=>match U.get i with
    |some (.cells c el true tight) =>
     if 0<k/\k<=2 ^ 62/\el.ty=e/\o+k.toNat<=c.length then
      (match BI ((c.drop o).take k.toNat) with
      |some s=>some (.string s,U.upd i (.cells c el false tight))
      |none=>none) else none
    |_=>none
   |_=>none
  |_,_=>none
 |.strBytes e x=>match ev x with
  |.string s=>if s.size<=2 ^ 62 then some (.slice (some ⟨U.n,0,none⟩) s.size s.size,U.push (.cells (s.data.toList.map λb=>.int .u8 b.toNat) ⟨1,e⟩ true false)) else none
  |_=>none
 |.bytesStr x=>match ev x with
  |.slice a n c=>match U.sl 1 (.slice a n c) with
   |some xs=>match BI xs with|some s=>some (.string s,U)|none=>none
   |none=>none
  |_=>none
def FD (a b:Int):Int:=if b > a then b else a
theorem Oh (a b:Int):FD (FD a b) b=FD a b:=by unfold FD;(repeat' split)<;>omega
def Qb (o:VOp) (ev:Operand->Value) (U:Heap):Option (Value×Heap) :=
 match o with
 |.move x=>some (ev x,U)
 |.pick c a b=>match ev c with|.bool t=>some (if t then ev a else ev b,U)|_=>none
 |.arith op x y=>match ev x,ev y with|.int k a,.int k' b=>if k=k' then some (.int k (R0 op k a b),U) else none|_,_=>none
 |.div op x y=>match ev x,ev y with|.int k a,.int k' b=>if k=k'/\b≠0 then some (.int k (Q7q op k a b),U) else none|_,_=>none
 |.bits op x y=>match ev x,ev y with|.int k a,.int k' b=>if k=k' then some (.int k (Qd op k a b),U) else none|_,_=>none
 |.shift op x y=>match ev x,ev y with|.int k a,.int _ b=>if 0<=b then some (.int k (TT op k a b),U) else none|_,_=>none
 |.cmp op x y=>match ev x,ev y with|.int k a,.int k' b=>if k=k' then some (.bool (Z1o op a b),U) else none|_,_=>none
 |.str op x y=>match ev x,ev y with
  |.string a,.string b=>match op with
   |.add=>if a.size+b.size<=2 ^ 62 then some (.string (a++b),U) else none
   |.eql=>some (.bool (a.data.toList==b.data.toList),U)
   |.neq=>some (.bool (!(a.data.toList==b.data.toList)),U)
   |.lss=>some (.bool (Op.bytesLess a.data.toList b.data.toList),U)
   |_=>none
  |_,_=>none
 |.eqB neg x y=>match ev x,ev y with|.bool a,.bool b=>some (.bool (if neg then !(a==b) else (a==b)),U)|_,_=>none
 |.un op x=>match op,ev x with
  |.not,.bool b=>some (.bool (!b),U)
  |.neg,.int k n=>some (.int k (k.wrap (0-n)),U)
  |.xor,.int k n=>some (.int k (Qd .xor k (if k.signed then -1 else k.max) n),U)
  |_,_=>none
 |.convI k x=>match ev x with|.int _ n=>some (.int k (k.wrap n),U)|_=>none
 |.convS x=>match ev x with|.string s=>some (.string s,U)|_=>none
 |.alloc t z=>some (.pointer (some ⟨U.n,0,none⟩),U.push (.cells z ⟨z.length,t⟩ true true))
 |.box t x=>match Kh (ev x) with
  |some vs=>some (.pointer (some ⟨U.n,0,none⟩),U.push (.cells vs ⟨vs.length,t⟩ true true))
  |none=>none
 |.build z parts=>match NK z (parts.map λp=>(p.1,p.2.1,ev p.2.2)) with|some cs=>some (.agg cs.toArray,U)|none=>none
 |.buildSlice esz z len parts=>match NK (H9 len z) (parts.map λp=>(p.1*esz.sz,esz.sz,ev p.2)) with
  |some cs=>some (.slice (some ⟨U.n,0,none⟩) len len,U.push (.cells cs esz true true))
  |none=>none
 |.load agg size a=>match ev a with
  |.pointer (some ⟨g,o,some _⟩)=>(match Q0h g with
   |some c=>if c.all QM then (match WB agg size c o with|some v=>some (v,U)|none=>none) else none
   |none=>none)
  |.pointer (some ⟨i,o,none⟩)=>match U.get i with
   |some (.cells c _ _ _)=>match WB agg size c o with|some v=>some (v,U)|none=>none
   |_=>none
  |_=>none
 |.store size a v=>match ev a,Kh (ev v) with
  |.pointer (some ⟨i,o,none⟩),some vs=>match U.get i with
   |some (.cells c e wr tight)=>if wr=true/\vs.length=size/\o+size<=c.length/\vs.all cellOk=true then some (undef,U.upd i (.cells (Yi c o vs) e wr tight)) else none
   |_=>none
  |_,_=>none
 |.fieldAddr off a=>match ev a with
  |.pointer (some ⟨i,o,none⟩)=>some (.pointer (some ⟨i,o+off,none⟩),U)
  |_=>none
 |.field agg off size x=>match ev x with
  |.agg cs=>match WB agg size cs.toList off with|some v=>some (v,U)|none=>none
  |_=>none
 |.indexAddr size x i=>match ev x,ev i with
  |.slice (some ⟨b,o,none⟩) n _,.int _ k=>if 0<=k/\k<n then some (.pointer (some ⟨b,o+k.toNat*size,none⟩),U) else none
  |_,_=>none
 |.indexAddrArr len size x i=>match ev x,ev i with
  |.pointer (some ⟨g,o,some s⟩),.int _ k=>if 0<=k/\k<len then some (.pointer (some ⟨g,o+k.toNat*size,some s⟩),U) else none
  |.pointer (some ⟨b,o,none⟩),.int _ k=>if 0<=k/\k<len then some (.pointer (some ⟨b,o+k.toNat*size,none⟩),U) else none
  |_,_=>none
 |.indexStr x i=>match ev x,ev i with
  |.string s,.int _ k=>if 0<=k then (match s.data.toList[k.toNat]? with|some b=>some (.int .u8 b.toNat,U)|none=>none) else none
  |_,_=>none
 |.indexArr len agg size x i=>match ev x,ev i with
  |.agg cs,.int _ k=>if 0<=k/\k<len then (match WB agg size cs.toList (k.toNat*size) with|some v=>some (v,U)|none=>none) else none
  |_,_=>none
 |.slice size x lo hi mx =>
  match ev x with
  |.slice a n cap =>
   match Jh ev lo 0,Jh ev hi n,mx with
   |some l,some h,none=>WM size U (.slice a n cap) l h none
   |some l,some h,some _=>match Jh ev mx 0,hi with
    |some m,some _=>WM size U (.slice a n cap) l h (some m)
    |_,_=>none
   |_,_,_=>none
  |_=>none
 |.sliceStr x lo hi =>
  match ev x with
  |.string s =>
   match Jh ev lo 0,Jh ev hi s.size with
   |some l,some h=>if l<=h/\h<=s.size then some (.string (s.extract l h),U) else none
   |_,_=>none
  |_=>none
 |.makeSlice esz bytes z l c =>
  match ev l,ev c with
  |.int _ a,.int _ b=>if 0<=a/\a<=b/\b*bytes<=2 ^ 46/\b<=2 ^ 46 then some (.slice (some ⟨U.n,0,none⟩) a.toNat b.toNat,U.push (.cells (H9 b.toNat z) esz true true)) else none
  |_,_=>none
 |.len x=>match ev x with
  |.slice _ n _=>some (.int .i64 n,U)
  |_=>none
 |.lenStr x=>match ev x with
  |.string s=>some (.int .i64 s.size,U)
  |_=>none
 |.append esz bytes s x =>
  match U.sl esz.sz (ev x),ev x with
  |some xs,.slice _ m _=>if xs.all cellOk then Yz esz bytes U (ev s) m xs else none
  |_,_=>none
 |.max4 x y z w=>match ev x,ev y,ev z,ev w with|.int k a,.int k2 b,.int k3 c,.int k4 d=>if k=k2/\k=k3/\k=k4 then some (.int k (FD (FD (FD a b) c) d),U) else none|_,_,_,_=>none
 |.max x y=>match ev x,ev y with|.int k a,.int k' b=>if k=k' then some (.int k (if b > a then b else a),U) else none|_,_=>none
 |.min x y=>match ev x,ev y with|.int k a,.int k' b=>if k=k' then some (.int k (if b<a then b else a),U) else none|_,_=>none
 |.makeFunc fn first cap=>some (.func fn (first.map ev).toArray (cap.map ev).toArray,U)
 |.iface t x=>match ev x with|.chan _=>none|v=>some (.iface t v,U)
 |.extract x i=>match ev x with
  |.tuple vs=>match vs.toList[i]? with|some v=>some (v,U)|none=>none
  |_=>none
 |.nilCheck x=>match ev x with
  |.pointer (some a)=>some (.pointer (some a),U)
  |.func (.func f) first cap=>some (.func (.func f) first cap,U)
  |_=>none
 |.ext o=>ZA o ev U
 |.callF ..|.callV ..|.bad=>none
def Zf {α:Type}(o:Option α) (f:α->Prop):Prop:=match o with|some a=>f a|none=>False
def vif (b:Bool) (A B:Prop):Prop:=(b=true->A)/\(b=false->B)
def IH (v:Value) (A B:Prop):Prop:=match v with|.bool t=>vif t A B|_=>False
abbrev Tq:=List Value->Heap->(Value->Heap->Prop)->Prop
structure VSpecs where
 fn:FuncId->Option Tq
 yl:Nat->Option Tq
 it:FuncId->Option (Nat->Tq->Tq)
def vcall (S:VSpecs) (f:FuncId) (args:List Value) (U:Heap) (K:Value->Heap->Prop):Prop :=
 match S.fn f with
 |some s=>s args U K
 |none=>False
def AH (S:VSpecs) (i:Nat) (args:List Value) (U:Heap) (K:Value->Heap->Prop):Prop :=
 match S.yl i with
 |some s=>s args U K
 |none=>False
def Cs (x:Value) (U:Heap) (K:Value->Heap->Prop):Prop :=
 match x with
 |.pointer (some ⟨i,0,none⟩)=>match U.get i with
  |some (.obj (.iter m since seen last) true)=>match U.mapAt m with
   |some (es,clock,_)=>(seen.isEmpty||es.isEmpty||es.any (λe=>decide (e.2.2<last)))=true/\es.all (λe=>Vc e.1)=true /\
     (es.all (λe=>seen.contains e.2.2||decide (since<=e.2.2))=true->K (.tuple #[.bool false]) U) /\
     ∀ e∈es,seen.contains e.2.2=false->K (.tuple #[.bool true,e.1,e.2.1]) (U.upd i (.obj (.iter m since (seen++[e.2.2]) clock) true))
   |none=>False
  |_=>False
 |_=>False
def Xk (env:Env) (d:Option Nat) (v:Value):Env :=
 match d with
 |some d=>env.set d v
 |none=>env
def vop (S:VSpecs) (o:VOp) (env:Env) (U:Heap) (K:Value->Heap->Prop):Prop :=
 match o with
 |.callF f args=>vcall S f (args.map (Q6 env)) U K
 |.callV f args=>match Q6 env f with
  |.func (.func g) first cap=>vcall S g (first.toList++args.map (Q6 env)++cap.toList) U K
  |.func (.yield i) _ _=>AH S i (args.map (Q6 env)) U K
  |_=>False
 |.ext (.nextMap x)=>Cs (Q6 env x) U K
 |o=>Zf (Qb o (Q6 env) U) λp=>K p.1 p.2
def Jm (env:Env):Option (Nat×Bool)->Option Bool
 |none=>some true
 |some (d,want)=>match env.getD d undef with
  |.bool b=>some (b==want)
  |.tuple _=>some false
  |_=>none
def TA (S:VSpecs):List VOper->Env->Heap->(Env->Heap->Prop)->Prop
 |[],env,U,K=>K env U
 |o::rest,env,U,K=>Zf (Jm env o.guard) λb =>
   vif b (vop S o.op env U λv U'=>TA S rest (Xk env o.dst v) U' K) (TA S rest (Xk env o.dst undef) U K)
def Fp:Value->Bool
 |.bool _|.int _ _|.string _|.pointer none|.slice none 0 0|.map none|.nilFunc|.nilIface=>true
 |.tuple vs=>vs.toList.all QM
 |_=>false
def Heap.Le (U U':Heap):Prop:=U.n<=U'.n/\∀ i b,U.get i=some b->U'.get i=some b
def GP (A:(Value->Heap->Prop)->Prop) (R:Value->Heap->Prop):Prop:=∃ v U',A (λv' aH=>v'=v/\aH=U')/\R v U'
def Xc (op:VOp) (ev:Operand->Value) (v:Value) (Z:Heap):Prop:=Zf (Qb op ev Z) λq=>q.1=v
def X5 (r:Nat) (U:Heap):List (Nat×(Heap->Prop))->Prop
 |[]=>True
 |c::l=>(r<=c.1->c.2 U)/\X5 r U l
def waits:List Nat->List DOper->Bool
 |_,[]=>true
 |xs,o::r=>((o.kind==2)||(Iv o.op.opds++(o.guard.map (·.1)).toList).any (λx=>xs.contains x))&&waits (o.dst.toList++xs) r
def ZE (S:VSpecs):List DOper->Env->List Heap->Heap->List (Nat×(Heap->Prop))->(Env->Heap->Prop)->Prop
 |[],env,_,U,_,K=>K env U
 |o::rest,env,hs,U,pend,K=>Zf (Jm env o.guard) λb =>
   vif b (if o.kind=2 then (GP (λR=>vop S o.op env U R) λv U'=>X5 hs.length U' pend/\ZE S rest (Xk env o.dst v) (hs++[U']) U' pend K) \/
      (waits o.dst.toList rest=true/\vop S o.op env U λv U'=>X5 hs.length U' pend/\ZE S rest (Xk env o.dst v) (hs++[U']) U' pend K)
     else if o.kind=1 then Zf (Qb o.op (Q6 env) U) λp=>(∀ Z∈hs.drop o.kmin,Xc o.op (Q6 env) p.1 Z) /\
      ZE S rest (Xk env o.dst p.1) hs U (if hs.length<=o.kmax then (o.kmax,Xc o.op (Q6 env) p.1)::pend else pend) K
     else Zf (Qb o.op (Q6 env) U) λp=>ZE S rest (Xk env o.dst p.1) hs U pend K)
    (if o.kind=2 then X5 hs.length U pend/\ZE S rest (Xk env o.dst undef) (hs++[U]) U pend K else ZE S rest (Xk env o.dst undef) hs U pend K)
def DropE (σ0:Heap) (env:Env) (U:Heap) (af:Env) (U':Heap):Prop :=
 ∀ ρ0 w0 ρ w cs,HRel ρ0 σ0 w0->Ext ρ0 σ0 w0 ρ U w->HRel ρ U w->LRel ρ U.n env cs->∃ ρ',LRel ρ' U'.n af cs/\HRel ρ' U' w/\Ext ρ0 σ0 w0 ρ' U' w
theorem DropE.refl (σ0:Heap) (env:Env) (U:Heap):DropE σ0 env U env U:=λ_ _ ρ _ _ _ hE hH hL=>⟨ρ,hL,hH,hE⟩
def Mu (S:VSpecs):List DSeg->Env->Heap->(Env->Heap->Prop)->Prop
 |[],env,U,K=>K env U
 |.one o::rest,env,U,K=>TA S [o] env U λenv U=>Mu S rest env U K
 |.alts l::rest,env,U,K=>∀ ops∈l,ZE S ops env [U] U [] λbC σ1=>∃ aT σ2,DropE U bC σ1 aT σ2/\Mu S rest aT σ2 K
def H2 (live:List Nat) (env:Env):List Value:=live.map λi=>env.getD i poison
def XP:List Nat->List Value->Env->Env
 |i::l,v::vs,env=>XP l vs (env.set i v)
 |_,_,env=>env
def Z3r (W:(Exit->Env->Heap->Prop)->Env->Heap->Prop) (Q:Exit->Env->Heap->Prop) (env:Env) (U:Heap):Prop :=
 ∃ (live:List Nat) (I:Nat->List Value->Heap->Prop) (n0:Nat),I n0 (H2 live env) U /\
  ∀ n vs U',I n vs U'->W (λe af aH=>match e with
   |.normal=>∃ n',n'<n/\I n' (H2 live af) aH
   |e=>Q e af aH) (XP live vs (List.replicate env.length poison)) U'
def Z5i (R:Env->Heap->Prop) (Q:Exit->Env->Heap->Prop):Exit->Env->Heap->Prop
 |.normal,env,U=>R env U
 |e,env,U=>Q e env U
def AA (id:Nat) (Q:Exit->Env->Heap->Prop):Exit->Env->Heap->Prop
 |.exit iD,env,U=>if iD=id then Q .normal env U else Q (.exit iD) env U
 |e,env,U=>Q e env U
def Hy:Env->List Nat->List Value->Env
 |env,p::ps,v::vs=>Hy (env.set p v) ps vs
 |env,_,_=>env
def Q85 (env:Env) (r:Loop) (i:Nat) (K:Value->Heap->Prop):Exit->Env->Heap->Prop:=λe _ U =>
 U.get i=some (.obj (.lp env r .busy none) true)/\match e with
  |.normal=>K (.bool true) (U.upd i (.obj (.lp env r .ready none) true))
  |.ret=>K (.bool false) (U.upd i (.obj (.lp env r .done (some .ret)) true))
  |.exit id=>K (.bool false) (U.upd i (.obj (.lp env r .done (some (.exit id))) true))
  |_=>False
def A5 (A B:(Exit->Env->Heap->Prop)->Env->Heap->Prop) (ps:List Nat) (env:Env) (r:Loop) (i:Nat):Tq:=λargs U K =>
 U.get i=some (.obj (.lp env r .ready none) true)/\args.length=ps.length /\
  A (Z5i (λbC σ1=>σ1.get i=some (.obj (.lp env r .ready none) true)/\B (Q85 env r i K) bC (σ1.upd i (.obj (.lp env r .busy none) true))) (λ_ _ _=>False)) (Hy env ps args) U
def Q25 (Q:Exit->Env->Heap->Prop) (env:Env) (i:Nat):Value->Heap->Prop:=λ_ U =>
 match U.get i with
 |some (.obj (.lp _ _ st pend) true)=>st≠.busy/\match pend with
  |none=>Q .normal env (U.kill i)
  |some .ret=>Q .ret env (U.kill i)
  |some (.exit id)=>Q (.exit id) env (U.kill i)
  |some _=>False
 |_=>False
def Z5o (U:Heap):Option Nat->Prop
 |none=>True
 |some i=>∃ env r st pend,U.get i=some (.obj (.lp env r st pend) true)
def LF (S:VSpecs) (ro:Option Nat) (A B:Option Nat->(Exit->Env->Heap->Prop)->Env->Heap->Prop) (g:Value) (ps:List Nat) (Q:Exit->Env->Heap->Prop) (env:Env) (U:Heap):Prop :=
 match g with
 |.func (.func f) first cap=>match S.it f with
  |some T=>Z5o U ro/\∀ r:Loop,T U.n (A5 (A (some U.n)) (B (some U.n)) ps env r U.n) (first.toList++[.func (.yield U.n) #[] #[]]++cap.toList) (U.push (.obj (.lp env r .ready none) true)) (Q25 Q env U.n)
  |none=>False
 |_=>False
def vwp (S:VSpecs):VCode->Option Nat->(Exit->Env->Heap->Prop)->Env->Heap->Prop
 |.skip,_,Q,env,U=>Q .normal env U
 |.region ops,_,Q,env,U=>TA S ops env U λenv U=>Q .normal env U
 |.regionD aR,_,Q,env,U=>Mu S aR env U λenv U=>Q .normal env U
 |.seq a b,ro,Q,env,U=>vwp S a ro (Z5i (vwp S b ro Q) Q) env U
 |.cond c a b,ro,Q,env,U=>IH (Q6 env c) (vwp S a ro Q env U) (vwp S b ro Q env U)
 |.block id b,ro,Q,env,U=>vwp S b ro (AA id Q) env U
 |.loop b,ro,Q,env,U=>Z3r (vwp S b ro) Q env U
 |.rangeF g ps a b,ro,Q,env,U=>LF S ro (vwp S a) (vwp S b) (Q6 env g) ps Q env U
 |.exit id,_,Q,env,U=>Q (.exit id) env U
 |.ret,_,Q,env,U=>Q .ret env U
 |.bad,_,_,_,_=>False
inductive VResult where
 |tmp (t:Nat)
 |cell (a:Nat) (agg:Bool) (size:Nat)
def JO (P:Program):ResultVar->Option VResult
 |.tmp t=>some (.tmp t)
 |.cell a t =>
  match P.info? t,P.underlying t with
  |some i,some d=>some (.cell a (Us d) i.size)
  |_,_=>none
def U5 (P:Program) (rs:List ResultVar):Option (List VResult):=rs.mapM (JO P)
def JI (env:Env) (U:Heap):VResult->Option Value
 |.tmp t=>some (env.getD t undef)
 |.cell a agg size=>(Qb (.load agg size (.tmp a)) (Q6 env) U).map (·.1)
def Jo (env:Env) (U:Heap) (rs:List VResult):Option Value :=
 match rs with
 |[r]=>JI env U r
 |rs=>(rs.mapM (JI env U)).map λvs=>.tuple vs.toArray
def Q9f (rs:List VResult) (R:Value->Heap->Prop):Exit->Env->Heap->Prop
 |.normal,env,U|.ret,env,U=>Zf (Jo env U rs) λv=>R v U
 |_,_,_=>False
theorem XC (b:Nat):∀ (vs:List Value) (o:Nat) (w:World) (k:Nat),k≠b->(w.setCells b o vs).heap[k]?=w.heap[k]?
 |[],_,_,_,_=>rfl
 |v::r,o,w,k,h=>by rw[World.setCells,XC b r (o+1) _ k h];exact heap_setCell_other w ⟨b,o,none⟩ k v h
theorem Wx (b:Nat):∀ (vs:List Value) (o:Nat) (w:World),(w.setCells b o vs).heap.size=w.heap.size
 |[],_,_=>rfl
 |v::r,o,w=>by rw[World.setCells,Wx b r];exact World.size_setCell w _ _
theorem Gh (b:Nat):∀ (vs:List Value) (o:Nat) (w:World),(w.setCells b o vs).os=w.os/\(w.setCells b o vs).tape=w.tape/\(w.setCells b o vs).output=w.output
 |[],_,_=>⟨rfl,rfl,rfl⟩
 |v::r,o,w=>by rw[World.setCells];exact Gh b r (o+1) _
theorem V4 (b:Nat):∀ (vs:List Value) (o:Nat) (w:World) (C:Array Value) (e:TypeId) (f:Nat×Nat),w.heap[b]?=some (.cells C e f) ->
  ∃ C',(w.setCells b o vs).heap[b]?=some (.cells C' e f)/\C'.size=C.size
 |[],_,_,C,_,_,h=>⟨C,h,rfl⟩
 |v::r,o,w,C,e,f,h=>by
  have h1:(w.setCell ⟨b,o,none⟩ v).heap[b]?=some (.cells (C.setIfInBounds o v) e f):=by simp only[World.setCell,Array.getElem?_modify,zI,h];simp
  obtain⟨C',h2,h3⟩:=V4 b r (o+1) _ _ e f h1;exact⟨C',by rw[World.setCells];exact h2,by rw[h3];simp⟩
theorem Xb (vs:List Value):∀ (c:List Value) (o:Nat),(Yi c o vs).length=c.length:=by
 induction vs with
 |nil=>intro c o;rfl
 |cons v r ih=>intro c o;rw[Yi,ih];simp
theorem Ye (vs:List Value):∀ (c:List Value) (o k:Nat),(k<o\/o+vs.length<=k)->(Yi c o vs)[k]?=c[k]?:=by
 induction vs with
 |nil=>intro c o k _;rfl
 |cons v r ih =>intro c o k h;rw[Yi,ih _ _ _ (by simp at h;omega),List.getElem?_set_ne (by simp at h;omega)]
theorem RP (vs:List Value):∀ (c:List Value) (o k:Nat),o+vs.length<=c.length->k<vs.length->(Yi c o vs)[o+k]?=vs[k]?:=by
 induction vs with
 |nil=>intro c o k _ h;simp at h
 |cons v r ih =>
  intro c o k h hk;simp at h hk;cases k with
  |zero=>rw[Yi,Ye _ _ _ _ (by left;omega),zU,List.getElem?_set_self (by omega)];rfl
  |succ k =>rw[Yi,show o+(k+1)=o+1+k by omega,ih _ _ _ (by simp;omega) (by omega)];simp
theorem BRel.q0r {ρ:Plc}{n:Nat}{p:Pl}{w:World}{c:List Value}{esz:El}{wr tight:Bool}(h:BRel ρ n p w (.cells c esz wr tight)) (k:Nat) (hk:k<p.ext):(w.cell? ⟨p.blk,p.shift+k,none⟩).isSome=true:=by
 obtain⟨_,_,_,⟨C,e,f,h1,h2⟩,_⟩:=h;have h3:p.shift+k<C.size:=by omega
 simp[World.cell?,h1,h3]
theorem BRel.other {ρ ρ':Plc}{n n':Nat}{q:Pl}{w w':World}{b:Blk}(hn:n<=n') (hρ:∀ i,i<n->∀ p,ρ' i=some p->ρ i=some p) (B:Nat) (C:Array Value) (e:TypeId) (f:Nat×Nat) (hB:w.heap[B]?=some (.cells C e f))
  (az:0<q.ext->B≠q.blk) (hC:∃ C' f',w'.heap[B]?=some (.cells C' e f')/\C.size<=C'.size) (ho:∀ k,k≠B->k<w.heap.size->w'.heap[k]?=w.heap[k]?) (hq:q.blk<w.heap.size) (h:BRel ρ n q w b):BRel ρ' n' q w' b:=by
 by_cases hk:q.blk=B
 .have h0:q.ext=0:=by
   rcases Nat.eq_zero_or_pos q.ext with h'|h'
   .exact h'
   .exact absurd hk.symm (az h')
  cases b with
  |cells c esz wr tight =>
   obtain⟨h1,h2,h3,⟨C0,e0,f0,h4,gJ⟩,h5,h6⟩:=h;have hc:c=[]:=zQ.1 (by omega);obtain⟨C',f',lr,mE⟩:=hC;have sL:C0=C/\e0=e:=by rw[hk,hB] at h4;simp at h4;exact⟨h4.1.symm,h4.2.1.symm⟩
   obtain⟨rfl,rfl⟩:=sL;refine⟨h1,h2,by omega,⟨C',e0,f',by rw[hk];exact lr,by omega,gJ.2⟩,λk v hv=>by simp[hc] at hv,λhw=>⟨(h6 hw).1,λk hk=>by omega⟩⟩
  |obj o wr=>have:=h.1;omega
 .exact h.mono hn hρ (ho _ hk hq)
theorem HRel0.store {ρ:Plc}{U:Heap}{w:World}(h:HRel0 ρ U w) {i:Nat}{p:Pl}{c:List Value}{esz:El}{tight:Bool}(hp:ρ i=some p) (hb:U.get i=some (.cells c esz true tight))
  {o:Nat}{vs cs:List Value}(hv:LRel ρ U.n vs cs) (ho:o+vs.length<=c.length) :
  HRel0 ρ (U.upd i (.cells (Yi c o vs) esz true tight)) (w.setCells p.blk (p.shift+o) cs)/\Ext ρ U w ρ (U.upd i (.cells (Yi c o vs) esz true tight)) (w.setCells p.blk (p.shift+o) cs):=by
 have hi:=U.lt hb;obtain⟨p',bt,hB⟩:=h.live i _ hb;obtain rfl:p=p':=osj (hp.symm.trans bt);obtain⟨h1,h2,h3,⟨C,e,f,h4,gJ⟩,h5,h6⟩:=hB;obtain⟨C',lr,mE⟩:=V4 p.blk cs (p.shift+o) w C e f h4;have cq:vs.length=cs.length:=hv.1;refine⟨⟨λj b hj=>?_,λj hj=>?_,λj q hq=>by rw[Wx];exact h.lt j q hq,λj k q r b cW hq hr cy hw hx=>?_⟩,?_⟩
 .by_cases aN:j=i
  .subst aN;rw[Heap.q0c _ _ hi] at hj;obtain rfl:=osj hj;refine⟨p,hp,h1,h2,by rw[Xb];exact h3,⟨C',e,f,lr,by omega,gJ.2⟩,λk v hk=>?_,λ_=>⟨(h6 rfl).1,λk hk=>by rw[World.frozen?_setCells];exact(h6 rfl).2 k hk⟩⟩;have bh:k<c.length:=by have:=(zg.1 hk).1;rwa [Xb] at this
   by_cases bR:k<o\/o+vs.length<=k
   .rw[Ye _ _ _ _ bR] at hk;obtain⟨u,hu,cG⟩:=h5 k v hk;exact⟨u,by rw[World.cell?_setCells_out _ _ _ _ _ (λ_ _=>by show p.shift+k<p.shift+o\/_;simp;omega)];exact hu,cG⟩
   .have na:k=o+(k-o):=by omega
    rw[na,RP _ _ _ _ ho (by omega)] at hk;obtain⟨u,hu,cG⟩:=hv.get hk;have mF:k-o<cs.length:=(zg.1 hu).1;refine⟨u,?_,cG⟩;have:=World.cell?_setCells_in p.blk cs (p.shift+o) w (λj hj=>by
     rw[zt];exact BRel.q0r (ρ:=ρ) (n:=U.n) ⟨h1,h2,h3,⟨C,e,f,h4,gJ⟩,h5,h6⟩ _ (by omega)) (k-o) mF
    rw[show p.shift+o+(k-o)=p.shift+k by omega] at this;rw[this,<-z6 mF,hu]
  .rw[Heap.q0b _ _ aN] at hj;obtain⟨q,hq,fz⟩:=h.live j b hj;refine⟨q,hq,fz.other (by exact ze _) (λ_ _ _ h=>h) p.blk C e f h4 (λhx=>h.sep i j p q _ (Ne.symm aN) hp hq hb rfl hx) ⟨C',f,lr,by omega⟩ (λk hk _=>XC _ _ _ _ _ hk) (h.lt j q hq)⟩
 .by_cases aN:j=i
  .subst aN;rw[Heap.q0c _ _ hi] at hj;cases hj
  .rw[Heap.q0b _ _ aN] at hj;exact h.dead j hj
 .by_cases aN:j=i
  .subst aN;exact h.sep j k q r _ cW hq hr hb rfl hx
  .rw[Heap.q0b _ _ aN] at cy;exact h.sep j k q r b cW hq hr cy hw hx
 .obtain⟨e1,e2,e3⟩:=Gh p.blk cs (p.shift+o) w;refine⟨e1,e2,e3,by rw[Wx];exact ze _,λB hB hW=>XC _ _ _ _ _ (λe=>hW ⟨i,p,_,hp,hb,rfl,e.symm⟩),?_,ze _,λ_ _ _ h=>h⟩;rintro B _ ⟨j,q,b,hq,ck,hw,rfl⟩;by_cases aN:j=i
  .subst aN;exact⟨j,q,_,hq,hb,rfl,rfl⟩
  .rw[Heap.q0b _ _ aN] at ck;exact⟨j,q,b,hq,ck,hw,rfl⟩
theorem HRel0.onto {ρ:Plc}{U:Heap}{w:World}(h:HRel0 ρ U w) {i:Nat}{p:Pl}{c:List Value}{esz:El}(hp:ρ i=some p) (hb:U.get i=some (.cells c esz true false))
  (o':Nat) {aY vs cs:List Value}(hold:∀ k v,aY[k]?=some v->∃ u,w.cell? ⟨p.blk,p.shift+o'+k,none⟩=some u/\VRel ρ U.n v u) (hv:LRel ρ U.n vs cs) (ho:o'+aY.length+vs.length<=p.ext) :
  ∃ ρ',ρ' U.n=some ⟨p.blk,p.shift+o',p.ext-o',esz,false⟩/\HRel0 ρ' ((U.kill i).push (.cells (aY++vs) esz true false)) (w.setCells p.blk (p.shift+o'+aY.length) cs) /\
   Ext ρ U w ρ' ((U.kill i).push (.cells (aY++vs) esz true false)) (w.setCells p.blk (p.shift+o'+aY.length) cs):=by
 have hi:=U.lt hb;obtain⟨p',bt,hB⟩:=h.live i _ hb;obtain rfl:p=p':=osj (hp.symm.trans bt);have dC:=hB;obtain⟨h1,h2,h3,⟨C,e,f,h4,gJ⟩,h5,h6⟩:=hB;obtain⟨C',lr,mE⟩:=V4 p.blk cs (p.shift+o'+aY.length) w C e f h4;have cq:vs.length=cs.length:=hv.1;let P':Pl:=⟨p.blk,p.shift+o',p.ext-o',esz,false⟩;let ρ':Plc:=(ρ.put i none).put U.n (some P');have gV:ρ' U.n=some P':=by simp[ρ',Plc.put]
 have ga:ρ' i=none:=by simp only[ρ',Plc.put];rw[z1 (by omega)];simp
 have fA:∀ j,j≠U.n->j≠i->ρ' j=ρ j:=λj h1 h2=>by simp[ρ',Plc.put,h1,h2]
 have aQ:∀ j,j<U.n->∀ q,ρ' j=some q->ρ j=some q:=λj hj q hq=>by
  by_cases aN:j=i
  .subst aN;rw[ga] at hq;cases hq
  .rwa [fA j (by omega) aN] at hq
 refine⟨ρ',gV,⟨λj b hj=>?_,λj hj=>?_,λj q hq=>?_,λj k q r b cW hq hr cy hw hx=>?_⟩,?_⟩
 .by_cases aO:j=U.n
  .subst aO;have dN:((U.kill i).push (.cells (aY++vs) esz true false)).get U.n=some (.cells (aY++vs) esz true false):=Heap.q0a (U.kill i) _;rw[dN] at hj;obtain rfl:=osj hj;refine⟨P',gV,rfl,rfl,by simp[P'];omega,⟨C',e,f,lr,by simp[P'];omega,gJ.2⟩,λk v hk=>?_,λ_=>⟨(λh=>by cases h),λk hk=>?_⟩⟩
   .by_cases bR:k<aY.length
    .rw[xg bR] at hk;obtain⟨u,hu,cG⟩:=hold k v hk;exact⟨u,by rw[World.cell?_setCells_out _ _ _ _ _ (λ_ _=>by left;simp[P'];omega)];exact hu,cG.mono (by simp) aQ⟩
    .rw[xm (by omega)] at hk;obtain⟨u,hu,cG⟩:=hv.get hk;have mF:k-aY.length<cs.length:=(zg.1 hu).1;refine⟨u,?_,cG.mono (by simp) aQ⟩;have:=World.cell?_setCells_in p.blk cs (p.shift+o'+aY.length) w (λj hj=>by
      rw[zt,zt];exact dC.q0r _ (by omega)) (k-aY.length) mF
     rw[show p.shift+o'+aY.length+(k-aY.length)=P'.shift+k by simp[P'];omega] at this;rw[this,<-z6 mF,hu]
   .rw[World.frozen?_setCells,show P'.shift+k=p.shift+(o'+k) by simp[P'];omega];exact(h6 rfl).2 _ (by simp[P'] at hk;omega)
  .have dy:(U.kill i).get j=some b:=by rw[<-hj];exact(Heap.q0e (U.kill i) _ aO).symm
   by_cases aN:j=i
   .subst aN;rw[Heap.q0f] at dy;cases dy
   .rw[Heap.q0d _ aN] at dy;obtain⟨q,hq,fz⟩:=h.live j b dy;exact⟨q,by rw[fA j aO aN];exact hq,fz.other (by simp) aQ p.blk C e f h4 (λhx=>h.sep i j p q _ (Ne.symm aN) hp hq hb rfl hx) ⟨C',f,lr,by omega⟩ (λk hk _=>XC _ _ _ _ _ hk) (h.lt j q hq)⟩
 .by_cases aO:j=U.n
  .subst aO;have dN:((U.kill i).push (.cells (aY++vs) esz true false)).get U.n=some (.cells (aY++vs) esz true false):=Heap.q0a (U.kill i) _;rw[dN] at hj;cases hj
  .have dy:(U.kill i).get j=none:=by rw[<-hj];exact(Heap.q0e (U.kill i) _ aO).symm
   by_cases aN:j=i
   .subst aN;exact ga
   .rw[Heap.q0d _ aN] at dy;rw[fA j aO aN];exact h.dead j dy
 .rw[Wx];by_cases aO:j=U.n
  .subst aO;rw[gV] at hq;obtain rfl:=osj hq;exact h.lt i p hp
  .by_cases aN:j=i
   .subst aN;rw[ga] at hq;cases hq
   .rw[fA j aO aN] at hq;exact h.lt j q hq
 .by_cases aO:j=U.n
  .subst aO;rw[gV] at hq;obtain rfl:=osj hq;by_cases kg:k=i
   .subst kg;rw[ga] at hr;cases hr
   .rw[fA k (Ne.symm cW) kg] at hr;exact h.sep i k p r _ (Ne.symm kg) hp hr hb rfl hx
  .have bB:(U.kill i).get j=some b:=by rw[<-cy];exact(Heap.q0e (U.kill i) _ aO).symm
   by_cases aN:j=i
   .subst aN;rw[ga] at hq;cases hq
   rw[Heap.q0d _ aN] at bB;rw[fA j aO aN] at hq;by_cases jl:k=U.n
   .subst jl;rw[gV] at hr;obtain rfl:=osj hr;have nb:0<p.ext:=by simp[P'] at hx;omega
    exact h.sep j i q p b aN hq hp bB hw nb
   .by_cases kg:k=i
    .subst kg;rw[ga] at hr;cases hr
    .rw[fA k jl kg] at hr;exact h.sep j k q r b cW hq hr bB hw hx
 .obtain⟨e1,e2,e3⟩:=Gh p.blk cs (p.shift+o'+aY.length) w;refine⟨e1,e2,e3,by rw[Wx];exact ze _,λB hB hW=>XC _ _ _ _ _ (λe=>hW ⟨i,p,_,hp,hb,rfl,e.symm⟩),?_,by simp,aQ⟩;rintro B _ ⟨j,q,b,hq,ck,hw,rfl⟩;by_cases aO:j=U.n
  .subst aO;rw[gV] at hq;obtain rfl:=osj hq;exact⟨i,p,_,hp,hb,rfl,rfl⟩
  .have bB:(U.kill i).get j=some b:=by rw[<-ck];exact(Heap.q0e (U.kill i) _ aO).symm
   by_cases aN:j=i
   .subst aN;rw[ga] at hq;cases hq
   rw[Heap.q0d _ aN] at bB;rw[fA j aO aN] at hq;exact⟨j,q,b,hq,bB,hw,rfl⟩
section
variable {ρ:Plc}{U:Heap}{w:World}
theorem HRel.store (h:HRel ρ U w) {i:Nat}{p:Pl}{c:List Value}{esz:El}{tight:Bool}(hp:ρ i=some p) (hb:U.get i=some (.cells c esz true tight))
  {o:Nat}{vs cs:List Value}(hv:LRel ρ U.n vs cs) (ho:o+vs.length<=c.length) :
  HRel ρ (U.upd i (.cells (Yi c o vs) esz true tight)) (w.setCells p.blk (p.shift+o) cs)/\Ext ρ U w ρ (U.upd i (.cells (Yi c o vs) esz true tight)) (w.setCells p.blk (p.shift+o) cs) :=
 let ⟨h2,h3⟩:=h.core.store hp hb hv ho
 ⟨h.ext h2 h3,h3⟩
theorem HRel.onto (h:HRel ρ U w) {i:Nat}{p:Pl}{c:List Value}{esz:El}(hp:ρ i=some p) (hb:U.get i=some (.cells c esz true false))
  (o':Nat) {aY vs cs:List Value}(hold:∀ k v,aY[k]?=some v->∃ u,w.cell? ⟨p.blk,p.shift+o'+k,none⟩=some u/\VRel ρ U.n v u) (hv:LRel ρ U.n vs cs) (ho:o'+aY.length+vs.length<=p.ext) :
  ∃ ρ',ρ' U.n=some ⟨p.blk,p.shift+o',p.ext-o',esz,false⟩/\HRel ρ' ((U.kill i).push (.cells (aY++vs) esz true false)) (w.setCells p.blk (p.shift+o'+aY.length) cs) /\
   Ext ρ U w ρ' ((U.kill i).push (.cells (aY++vs) esz true false)) (w.setCells p.blk (p.shift+o'+aY.length) cs) :=
 let ⟨ρ',h1,h2,h3⟩:=h.core.onto hp hb o' hold hv ho
 ⟨ρ',h1,h.ext h2 h3,h3⟩
end
end Go.V
namespace Go.V
open Go
structure Like (ρ:Plc) (w w':World):Prop where
 size:w.heap.size<=w'.heap.size
 blk:∀ i p,ρ i=some p->w'.heap[p.blk]?=w.heap[p.blk]?
 tab:∀ g cs,Q0h g=some cs->w'.heap[g]?=w.heap[g]?
theorem Like.refl (ρ:Plc) (w:World):Like ρ w w:=⟨ze _,λ_ _ _=>rfl,λ_ _ _=>rfl⟩
section inv
variable {ρ:Plc}{n:Nat}{c:Value}
theorem VRel.q0g {k:IntKind}{x:Int}(h:VRel ρ n (.int k x) c):c=.int k x:=by cases h;rfl
theorem VRel.q1c {b:Bool}(h:VRel ρ n (.bool b) c):c=.bool b:=by cases h;rfl
theorem VRel.q0o {s:ByteArray}(h:VRel ρ n (.string s) c):c=.string s:=by cases h;rfl
theorem VRel.q1l {l k:Nat}(h:VRel ρ n (.slice none l k) c):l=0/\k=0/\c=.slice none 0 0:=by cases h;exact⟨rfl,rfl,rfl⟩
theorem VRel.q0w {i o:Nat}{p:Pl}(hp:ρ i=some p) (h:VRel ρ n (.pointer (some ⟨i,o,none⟩)) c):(none:Option Nat)=none/\i<n/\c=.pointer (some ⟨p.blk,p.shift+o,none⟩):=by
 cases h with
 |ptr _ _ a hi h=>exact⟨rfl,hi,by rw[h p hp]⟩
theorem VRel.q1k {cs:Array Value}(h:VRel ρ n (.agg cs) c):∃ ds:Array Value,c=.agg ds/\LRel ρ n cs.toList ds.toList:=by
 cases h with
 |agg _ ds hc h=>exact⟨ds,rfl,LRel.of_array hc h⟩
theorem VRel.q1j {cs:Array Value}(h:VRel ρ n (.tuple cs) c):∃ ds:Array Value,c=.tuple ds/\LRel ρ n cs.toList ds.toList:=by
 cases h with
 |tuple _ ds hc h=>exact⟨ds,rfl,LRel.of_array hc h⟩
end inv
theorem XF {ρ:Plc}{n:Nat}{v:Value}(h:QM v=true):VRel ρ n v v:=by unfold QM at h;split at h<;>first|constructor|cases h
theorem Xn {ρ:Plc}{n:Nat}{l:List Value}(h:l.all QM=true):LRel ρ n l l:=by refine⟨rfl,λi v c hv hc=>?_⟩;obtain rfl:v=c:=osj (hv.symm.trans hc);exact XF (zf.1 h v (zK hv))
theorem VF {ρ:Plc}{n:Nat}{v:Value}(h:Vc v=true):VRel ρ n v v:=by
 unfold Vc at h;split at h
 .rename_i cs;have:=VRel.q1m (Xn (ρ:=ρ) (n:=n) h);simpa using this
 .rename_i cs;have:=VRel.q0j (Xn (ρ:=ρ) (n:=n) h);simpa using this
 .exact XF h
theorem JM {ρ:Plc}{n:Nat}:VRel ρ n undef undef:=VF rfl
theorem Wq {ρ:Plc}{n:Nat}{env:Env}{a:Act}(h:LRel ρ n env a.tmps.toList) {x:Operand}(hx:Xo x=true):VRel ρ n (Q6 env x) (a.eval x):=by
 cases x with
 |tmp t =>
  simp only[Q6,Act.eval];have e:List.length env=a.tmps.size:=by have:=h.1;rw[Array.length_toList] at this;exact this
  rcases zn t (List.length env) with ht|ht
  .have mG:t<a.tmps.size:=by rw[<-e];exact ht
   have:=h.2 t env[t] a.tmps[t] (z6 ht) (by simp[mG]);simpa [List.getD,ht,mG,Array.getD] using this
  .have mG:¬ t<a.tmps.size:=by rw[<-e];exact wB.2 ht
   simp[List.getD,zr ht,Array.getD,mG];exact JM
 |const v=>exact VF hx
 |global g=>exact .glob g 0 0
 |func f=>exact .func _ #[] #[] #[] #[] rfl rfl (λi h1=>by simp at h1) (λi h1=>by simp at h1)
theorem Px {ρ:Plc}{w w':World}(hl:Like ρ w w') {i:Nat}{p:Pl}(hp:ρ i=some p) (o:Nat):w'.cell? ⟨p.blk,o,none⟩=w.cell? ⟨p.blk,o,none⟩ :=
 World.cell?_of_block (a:=⟨p.blk,o,none⟩) (hl.blk i p hp)
section
variable {P:Program}{ρ:Plc}{U:Heap}{w:World}
theorem Vm {t:TypeId}{d:TypeDesc}(h:P.underlying t=some d) (w:World):(isAgg t).run P w=.ok (Us d) w:=by cases d<;>simp[isAgg,run_underlying h,Us]
theorem Qi {t:TypeId}{i:TypeInfo}(h:P.info? t=some i) (w:World):(sizeOf t).run P w=.ok i.size w:=by simp[sizeOf,run_typeInfo w h]
theorem XK (b o n:Nat):(⟨b,o,none⟩:Addr).add n=⟨b,o+n,none⟩:=by unfold Addr.add;split<;>simp_all
theorem Az (hH:HRel ρ U w) {t:TypeId}{ti:TypeInfo}{d:TypeDesc}(h1:P.info? t=some ti) (h2:P.underlying t=some d) {i o:Nat}{c:List Value}{esz:El}{wr tight:Bool}{v x:Value}
  (hb:U.get i=some (.cells c esz wr tight)) (hv:WB (Us d) ti.size c o=some v) (hx:VRel ρ U.n (.pointer (some ⟨i,o,none⟩)) x) :
  ∃ u,VRel ρ U.n v u/\∀ w',Like ρ w w'->(Instr.loadAt t x).run P w'=.ok u w':=by
 obtain⟨p,hp,_,_,_,_,h5,_⟩:=hH.live i _ hb;obtain⟨_,_,rfl⟩:=hx.q0w hp;unfold WB at hv;cases fl:Us d with
 |false =>
  simp[fl] at hv;obtain⟨u,hu,cG⟩:=h5 o v hv;refine⟨u,cG,λw' hl=>?_⟩;have:w'.cell? ⟨p.blk,p.shift+o,none⟩=some u:=by rw[Px hl hp];exact hu
  simp[Instr.loadAt,Instr.sureAddr,loadVar,Vm h2,fl,this]
 |true =>
  simp only[fl,zI] at hv;split at hv
  .rename_i hlen;simp at hv;subst hv;have hex:∃ us:List Value,us.length=ti.size/\∀ k,k<ti.size->∃ u,us[k]?=some u/\w.cell? ⟨p.blk,p.shift+o+k,none⟩=some u/\∀ v,c[o+k]?=some v->VRel ρ U.n v u:=by
    refine⟨(List.range ti.size).map λk=>(w.cell? ⟨p.blk,p.shift+o+k,none⟩).getD undef,by simp,λk hk=>?_⟩;obtain⟨u,hu,cG⟩:=h5 (o+k) _ (z6 (by omega));rw[<-zt] at hu;refine⟨u,by simp[hk,hu],hu,λv hv=>?_⟩;rw[z6 (by omega)] at hv;obtain rfl:=osj hv;exact cG
   obtain⟨us,sM,dO⟩:=hex;refine⟨.agg us.toArray,VRel.q1m ⟨by simp;omega,λk v u hk hu=>?_⟩,λw' hl=>?_⟩
   .have bh:k<ti.size:=by have:=(zg.1 hu).1;omega
    rw[zP,z7 bh,zH] at hk;obtain⟨u',cD,_,gK⟩:=dO k bh;rw[hu] at cD;obtain rfl:=osj cD;exact gK v hk
   .have cN:∀ j v,us[j]?=some v->w'.cell? ((⟨p.blk,p.shift+o,none⟩:Addr).add j)=some v:=λj v hj=>by
     have cm:j<ti.size:=by have:=(zg.1 hj).1;omega
     obtain⟨u',cD,cO,_⟩:=dO j cm;rw[hj] at cD;obtain rfl:=osj cD;rw[XK,Px hl hp];exact cO
    have:=run_loadCells_list (P:=P) w' ⟨p.blk,p.shift+o,none⟩ us cN;rw[sM] at this;simp[Instr.loadAt,Instr.sureAddr,loadVar,Vm h2,fl,Qi h1,this]
  .cases hv
theorem LZ (hH:HRel ρ U w) {t:TypeId}{ti:TypeInfo}{d:TypeDesc}(h1:P.info? t=some ti) (h2:P.underlying t=some d) {g o s:Nat}{c:List Value}{v x:Value}
  (hb:Q0h g=some c) (aQ:c.all QM=true) (hv:WB (Us d) ti.size c o=some v) (hx:VRel ρ U.n (.pointer (some ⟨g,o,some s⟩)) x) :
  ∃ u,VRel ρ U.n v u/\∀ w',Like ρ w w'->(Instr.loadAt t x).run P w'=.ok u w':=by
 obtain⟨⟨e,f,hw⟩,_⟩:=hH.tab g c hb;obtain rfl:x=.pointer (some ⟨g,o,none⟩):=by cases hx;rfl
 have bj:∀ w',Like ρ w w'->∀ k,w'.cell? ⟨g,k,none⟩=c[k]?:=λw' hl k=>by have:=hl.tab g c hb;simp[World.cell?,this,hw]
 unfold WB at hv;cases fl:Us d with
 |false =>
  simp[fl] at hv;refine⟨v,XF (zf.1 aQ v (zK hv)),λw' hl=>?_⟩;have:w'.cell? ⟨g,o,none⟩=some v:=by rw[bj w' hl];exact hv
  simp[Instr.loadAt,Instr.sureAddr,loadVar,Vm h2,fl,this]
 |true =>
  simp only[fl,zI] at hv;split at hv
  .rename_i hlen;simp at hv;subst hv;have ae:((c.drop o).take ti.size).all QM=true:=zf.2 λx hx=>zf.1 aQ x (List.mem_of_mem_drop (List.mem_of_mem_take hx));refine⟨_,VRel.q1m (Xn ae),λw' hl=>?_⟩;have cN:∀ j v,((c.drop o).take ti.size)[j]?=some v->w'.cell? ((⟨g,o,none⟩:Addr).add j)=some v:=λj v hj=>by
    rw[XK,bj w' hl];rw[zP] at hj;split at hj
    .rw[zH] at hj;exact hj
    .cases hj
   have:=run_loadCells_list (P:=P) w' ⟨g,o,none⟩ _ cN;have b9:((c.drop o).take ti.size).length=ti.size:=by rw[wg,wm];omega
   rw[b9] at this;simp[Instr.loadAt,Instr.sureAddr,loadVar,Vm h2,fl,Qi h1,this]
  .cases hv
theorem AZ {t:TypeId}{ti:TypeInfo}{d:TypeDesc}(h1:P.info? t=some ti) (h2:P.underlying t=some d) {cs ds:Array Value}{o:Nat}{v:Value}{n:Nat}
  (hv:WB (Us d) ti.size cs.toList o=some v) (hl:LRel ρ n cs.toList ds.toList):∃ u,VRel ρ n v u/\∀ w',(part t ds o).run P w'=.ok u w':=by
 unfold WB at hv;cases fl:Us d with
 |false =>
  simp only[fl,zD,if_false] at hv;obtain⟨u,hu,cG⟩:=hl.get hv;refine⟨u,cG,λw'=>?_⟩;have:ds[o]?=some u:=by simpa using hu
  simp[part,Vm h2,fl,this]
 |true =>
  simp only[fl,zI] at hv;split at hv
  .rename_i hlen;simp at hv;subst hv;refine⟨.agg (ds.extract o (o+ti.size)),?_,λw'=>by simp[part,Vm h2,fl,Qi h1]⟩;have:LRel ρ n ((cs.toList.drop o).take ti.size) ((ds.toList.drop o).take ti.size):=by
    refine⟨by have:=hl.1;simp at this |-;omega,λk v u hk hu=>?_⟩;rw[zP] at hk hu;split at hk
    .rename_i bh;rw[z7 bh,zH] at hu;rw[zH] at hk;exact hl.2 _ v u hk hu
    .cases hk
   have h3:=VRel.q1m this;have h4:((ds.toList.drop o).take ti.size).toArray=ds.extract o (o+ti.size):=by apply Array.ext';simp[Array.toList_extract,List.extract_eq_take_drop]
   rwa [h4] at h3
  .cases hv
end
end Go.V
namespace Go.V
open Go
theorem DH {ρ:Plc}{n:Nat}{v c:Value}{vs:List Value}(h:Kh v=some vs) (hv:VRel ρ n v c):LRel ρ n vs c.cells.toList:=by
 unfold Kh at h;split at h
 .obtain⟨ds,rfl,hl⟩:=hv.q1k;simp at h;subst h;exact hl
 .cases h
 .cases h
 .rename_i h1 h2 h3;simp at h;subst h;have hc:c.cells.toList=[c]:=by
   cases hv<;>first|rfl|(exact absurd rfl (h1 _))|(exact absurd rfl (h2 _))|(exact absurd rfl (h3 _))
  rw[hc];exact LRel.cons hv (LRel.nil _ _)
theorem Ea (off:Nat):∀ (vs:List Value) (k:Nat) (cells:Array Value),
  (((vs.zipIdx k).foldl (λ(cs:Array Value) (p:Value×Nat)=>cs.setIfInBounds (off+p.2) p.1) cells)).toList=Yi cells.toList (off+k) vs:=by
 intro vs;induction vs with
 |nil=>intro k cells;rfl
 |cons v r ih =>intro k cells;simp only[List.zipIdx_cons,wi];rw[ih,Yi];simp[zt]
theorem Q0w {ρ:Plc}{n:Nat}:∀ (vs us c d:List Value) (o:Nat),LRel ρ n c d->LRel ρ n vs us->LRel ρ n (Yi c o vs) (Yi d o us):=by
 intro vs;induction vs with
 |nil=>intro us c d o hc hv;cases us with
  |nil=>exact hc
  |cons _ _=>have:=hv.1;simp at this
 |cons v r ih =>
  intro us c d o hc hv;cases us with
  |nil=>have:=hv.1;simp at this
  |cons u us =>rw[Yi,Yi];have h0:VRel ρ n v u:=hv.2 0 v u rfl rfl;have hr:LRel ρ n r us:=⟨by have:=hv.1;simpa using this,λi a b ha hb=>hv.2 (i+1) a b (by simpa using ha) (by simpa using hb)⟩;exact ih us _ _ _ (hc.set o h0) hr
theorem S9 {ρ:Plc}{n:Nat}(place:Nat->Option (Nat×Nat)):∀ (l:List (Nat×Nat×Value)) (l':List (Nat×Value)) (c c':List Value) (cells:Array Value),
  l.length=l'.length->(∀ (k:Nat) (a:Nat×Nat×Value) (b:Nat×Value),l[k]?=some a->l'[k]?=some b->place b.1=some (a.1,a.2.1)/\VRel ρ n a.2.2 b.2) ->
  NK c l=some c'->LRel ρ n c cells.toList->∃ bD,Instr.fill place cells l'=some bD/\LRel ρ n c' bD.toList:=by
 intro l;induction l with
 |nil =>
  intro l' c c' cells hl _ hf hc;cases l' with
  |nil=>simp[NK] at hf;subst hf;exact⟨cells,rfl,hc⟩
  |cons _ _=>simp at hl
 |cons a r ih =>
  intro l' c c' cells hl hk hf hc;cases l' with
  |nil=>simp at hl
  |cons b r' =>
   obtain⟨o,s,v⟩:=a;obtain⟨j,u⟩:=b;obtain⟨hp,hv⟩:=hk 0 _ _ rfl rfl;simp only at hp hv;simp only[NK] at hf;split at hf
   .rename_i vs cH;split at hf
    .rename_i aj;obtain⟨hs,hle⟩:=aj;have eH:=DH cH hv;have aC:u.cells.size=s:=by have:=eH.1;simp at this;omega
     have hlen:cells.size=c.length:=by have:=hc.1;simp at this;omega
     obtain⟨bD,h1,h2⟩:=ih r' (Yi c o vs) c' (u.cells.zipIdx.foldl (λcs (c,j)=>cs.setIfInBounds (o+j) c) cells) (by simpa using hl)
      (λk a b ha hb=>hk (k+1) a b (by simpa using ha) (by simpa using hb)) hf (by
       have:=Ea o u.cells.toList 0 cells;rw[<-Array.foldl_toList,Array.toList_zipIdx];rw[show (o+0)=o from rfl] at this;refine Eq.subst (motive:=λx=>LRel ρ n (Yi c o vs) x) this.symm ?_;exact Q0w _ _ _ _ _ hc eH)
     refine⟨bD,?_,h2⟩;simp only[Instr.fill,hp];rw[z1 (by simp;omega)];exact h1
    .cases hf
   .cases hf
theorem SD {ρ:Plc}{n:Nat}{env:Env}{ev:Operand->Value}(hE:∀ x,Xo x=true->VRel ρ n (Q6 env x) (ev x)) {l:List Operand}(h:l.all Xo=true):LRel ρ n (l.map (Q6 env)) (l.map ev):=by
 refine⟨by simp,λi v c hv hc=>?_⟩;rw[zY] at hv hc;cases hx:l[i]? with
 |none=>simp[hx] at hv
 |some x =>simp[hx] at hv hc;subst hv;subst hc;exact hE x (zf.1 h x (zK hx))
theorem Q0 {P:Program}{t:TypeId}{d:TypeDesc}(h:P.underlying t=some d) (w:World):(underlying t).run P w=.ok d w:=run_underlying h w
def C8 (P:Program) (ρ:Plc) (U:Heap) (w:World) (v:Value) (s:Sem Next):Prop :=
 ∃ c,VRel ρ U.n v c/\∀ w',Like ρ w w'->s.run P w'=.ok (.value c) w'
theorem Ws {α β:Type}(f:α->Option β):∀ (l:List α) (r:List β),l.mapM f=some r->r.length=l.length/\∀ (i:Nat) (a:α),l[i]?=some a->∃ b,r[i]?=some b/\f a=some b:=by
 intro l;induction l with
 |nil=>intro r h;simp at h;subst h;exact⟨rfl,λi a h=>by simp at h⟩
 |cons a l ih =>
  intro r h;rw[xx] at h;cases hf:f a with
  |none=>simp[hf] at h
  |some b =>
   cases hm:l.mapM f with
   |none=>simp[hf,hm] at h
   |some r' =>
    simp[hf,hm] at h;subst h;obtain⟨h1,h2⟩:=ih r' hm;refine⟨by simp[h1],λi x hx=>?_⟩;cases i with
    |zero=>simp at hx;subst hx;exact⟨b,rfl,hf⟩
    |succ i=>simp at hx;simpa using h2 i x hx
theorem Q1t {P:Program}{α β:Type}(g:α->Sem β) (f:α->β) (w:World):∀ (l:List α),(∀ a∈l,(g a).run P w=.ok (f a) w)->(l.mapM g).run P w=.ok (l.map f) w:=by
 intro l;induction l with
 |nil=>intro _;rfl
 |cons a l ih =>intro h;rw[xx];simp[h a (by simp),ih (λb hb=>h b (by simp[hb]))]
theorem Y5 {P:Program}{t:TypeId}{z:List Value}(h:zeroOf P t=some z):∃ i zv,P.info? t=some i/\i.zero=some zv/\zv.cells.toList=z/\z.length=i.size/\z.all QM=true:=by
 unfold zeroOf at h;cases hi:P.info? t with
 |none=>simp[hi] at h
 |some i =>
  cases hz:i.zero with
  |none=>simp[hi,hz] at h
  |some zv =>simp[hi,hz] at h;obtain⟨h1,h2⟩:=h;subst h2;exact⟨i,zv,rfl,hz,rfl,by simpa using h1.1,by simpa using h1.2⟩
theorem Zi {P:Program}{t:TypeId}{i:TypeInfo}{zv:Value}(h:P.info? t=some i) (hz:i.zero=some zv) (w:World):(zeroValue t).run P w=.ok zv w:=by simp[zeroValue,run_typeInfo w h,hz]
section
variable {P:Program}{ρ:Plc}{U U':Heap}{w:World}{ev:Operand->Value}{env:Env}{v:Value}
theorem Qs {s:Sem Next}{v c:Value}(h:∀ w',s.run P w'=.ok (.value c) w') (hc:VRel ρ U.n v c):C8 P ρ U w v s:=⟨c,hc,λw' _=>h w'⟩
theorem NI (op:BinOp) (t:TypeId) (x y:Operand) (yt:TypeId) (ty:TypeId) (pos:String) (after:Array Edge) (dst:Option Tmp) (g:Option (Nat×Bool)) {v c a b:Value}(hx:ev x=a) (hy:ev y=b)
  (rL:(∃ k n k' n',a=.int k n/\b=.int k' n')\/(∃ s s',a=.string s/\b=.string s')\/(∃ s s',a=.bool s/\b=.bool s'))
  (h:∀ w',(binOp op t a b).run P w'=.ok c w') (hc:VRel ρ U.n v c):C8 P ρ U w v (execOp ev ⟨dst,.binOp op t x y yt,ty,pos,after,g⟩):=by
 refine Qs (c:=c) (λw'=>?_) hc;have he:∀ w',(eqGuard op t x y a b).run P w'=.ok () w':=λw'=>by rcases rL with⟨k,n,k',n',rfl,rfl⟩|⟨s,s',rfl,rfl⟩|⟨s,s',rfl,rfl⟩<;>(unfold eqGuard;cases op<;>simp)
 simp only[execOp,hx,hy];simp[he,h]
theorem BZ {t:TypeId}(h:P.underlying t=some .bool) (a b:Bool) (d:Nat) (w:World):(Op.equalIn (d+1) t (.bool a) (.bool b)).run P w=.ok (a==b) w:=by simp only[Op.equalIn,zA,Q0 h,zj,xe]
theorem Th {t:TypeId}(h:P.underlying t=some .bool) (a b:Bool) (w:World):(Op.equal t (.bool a) (.bool b)).run P w=.ok (a==b) w :=
 BZ h a b 9999 w
theorem VRel.q1g {n:Nat}{i o:Nat}{c:Value}(h:VRel ρ n (.pointer (some ⟨i,o,none⟩)) c):∃ a:Addr,c=.pointer (some a)/\i<n/\∀ p,ρ i=some p->a=⟨p.blk,p.shift+o,none⟩:=by
 cases h with
 |ptr _ _ a hi h=>exact⟨a,rfl,hi,h⟩
theorem VRel.q1a {n:Nat}{i o len cap:Nat}{c:Value}(h:VRel ρ n (.slice (some ⟨i,o,none⟩) len cap) c):∃ (a:Addr) (aw:Nat),c=.slice (some a) len aw/\i<n /\
  ∀ p,ρ i=some p->cap<=aw/\(p.tight=true->aw=cap)/\(aw=0/\len=0\/∃ o',a=⟨p.blk,p.shift+o',none⟩/\o'+aw*p.esz.sz<=p.ext/\(o'=o\/(len=0/\cap=0))):=by
 cases h with
 |sl _ _ _ _ a aw hi h=>exact⟨a,aw,rfl,hi,h⟩
theorem VRel.q2n {n:Nat}{i o len cap:Nat}{c:Value}(h:VRel ρ n (.slice (some ⟨i,o,some 0⟩) len cap) c):∃ a:Addr,c=.slice (some a) len cap/\i<n/\(∀ p,ρ i=some p->a=⟨p.blk,p.shift+o,none⟩/\o+cap*p.esz.sz<=p.ext)/\VRel ρ n (.slice (some ⟨i,o,none⟩) len cap) c:=by
 cases h with
 |slx _ _ _ _ a hi h=>exact⟨a,rfl,hi,h,.sl _ _ _ _ _ _ hi λp hp=>⟨ze _,λ_=>rfl,.inr ⟨o,(h p hp).1,(h p hp).2,.inl rfl⟩⟩⟩
theorem VRel.q1v {n:Nat}{a:Option Addr}{len cap:Nat}{c:Value}(h:VRel ρ n (.slice a len cap) c):∃ a' aw,c=.slice a' len aw:=by
 cases h with
 |sl _ _ _ _ a aw hi h=>exact⟨_,aw,rfl⟩
 |slx _ _ _ _ a hi h=>exact⟨_,_,rfl⟩
 |nilSl=>exact⟨_,_,rfl⟩
theorem Y3 {op:Option Operand}{d l:Nat}(hE:∀ x,Xo x=true->VRel ρ U.n (Q6 env x) (ev x)) (ai:∀ x,op=some x->Xo x=true) (h:Jh (Q6 env) op d=some l) :
  (op=none/\l=d)\/∃ x k i,op=some x/\ev x=.int k i/\0<=i/\l=i.toNat:=by
 cases op with
 |none=>simp[Jh] at h;exact .inl ⟨rfl,h.symm⟩
 |some x =>
  have hr:=hE x (ai x rfl);simp only[Jh] at h;split at h
  .rename_i k i heq;rw[heq] at hr;split at h
   .rename_i hi;simp at h;exact .inr ⟨x,k,i,rfl,hr.q0g,hi,h.symm⟩
   .cases h
  .cases h
theorem Zj (k:IntKind) (i:Int) (y:Nat) (code:BoundsCode) (h:0<=i) (h':i.toNat<=y) (w:World):(Instr.sliceBound (.int k i) y code).run P w=.ok i.toNat w:=by
 have:i<=y:=by omega
 simp[Instr.sliceBound,asIntOf,h,this]
theorem Ka {lo hi:Option Operand}{isSlice:Bool}{n cap l h:Nat}(pO:(lo=none/\l=0)\/∃ x k i,lo=some x/\ev x=.int k i/\0<=i/\l=i.toNat)
  (lu:(hi=none/\h=n)\/∃ x k i,hi=some x/\ev x=.int k i/\0<=i/\h=i.toNat) (h1:l<=h) (h2:h<=cap) (w:World) :
  (Instr.sliceBounds isSlice n cap (lo.map ev) (hi.map ev) none).run P w=.ok (l,h,cap) w:=by
 rcases pO with⟨rfl,rfl⟩|⟨x,k,i,rfl,hx,pb,rfl⟩<;>rcases lu with⟨rfl,rfl⟩|⟨y,k',i',rfl,hy,fP,rfl⟩
 .simp[Instr.sliceBounds]
 .simp[Instr.sliceBounds,hy,Zj k' i' _ _ fP h2]
 .simp[Instr.sliceBounds,hx,Zj k i _ _ pb h1]
 .simp[Instr.sliceBounds,hx,hy,Zj k i _ _ pb h1,Zj k' i' _ _ fP h2]
set_option maxHeartbeats 1000000 in
theorem CX {o:Oper}{vo:VOp}(hc:VD P o.op = some vo) (hq:vo.quiet = true) (hH:HRel ρ U w) (hE:∀ x, Xo x = true -> VRel ρ U.n (Q6 env x) (ev x))
    (h:Qb vo (Q6 env) U = some (v, U')):U' = U /\ C8 P ρ U w v (execOp ev o):=by
  obtain ⟨dst, op, ty, pos, after, guard⟩:=o;simp only at hc;unfold VD at hc;split at hc
  . cases hc
  rename_i ai;simp only [w4, xR] at ai;cases op <;> simp only [Op.operands] at ai hc
  case move x =>
    have hx:=hE x (by simpa using ai);simp at hc; subst hc;simp [Qb] at h;obtain ⟨rfl, rfl⟩:=h;exact ⟨rfl, Qs (λw' => by simp [execOp]) hx⟩
  case assign x =>
    have hx:=hE x (by simpa using ai);simp at hc; subst hc;simp [Qb] at h;obtain ⟨rfl, rfl⟩:=h;exact ⟨rfl, Qs (λw' => by simp [execOp]) hx⟩
  case pick c a b =>
    simp at ai;have hx:=hE c ai.1;have ha:=hE a ai.2.1;have hb:=hE b ai.2.2;simp at hc; subst hc;simp only [Qb] at h;split at h
    . rename_i t heq
      rw [heq] at hx;simp at h;obtain ⟨h1, rfl⟩:=h;refine ⟨rfl, Qs (c:=if t then ev a else ev b) (λw' => by simp [execOp, hx.q1c, asBool]) ?_⟩;rw [<- h1]; split <;> assumption
    . cases h
  case binOp jF t x y yt =>
    simp at ai;have hx:=hE x ai.1;have hy:=hE y ai.2;split at hc
    .
      cases jF <;> simp at hc <;> subst hc <;> simp only [Qb] at h <;> split at h <;> first
        | (cases h; done)
        | (rename_i k a k' b h1 h2
           rw [h1] at hx; rw [h2] at hy;have ex:=hx.q0g;have ey:=hy.q0g;split at h
           . rename_i aj
             simp at h; obtain ⟨rfl, rfl⟩:=h;refine ⟨rfl, ?_⟩
             first
              | refine NI _ t x y yt ty pos after dst guard ex ey (.inl ⟨_, _, _, _, rfl, rfl⟩) (λw' => ?_) (VRel.int _ _)
              | refine NI _ t x y yt ty pos after dst guard ex ey (.inl ⟨_, _, _, _, rfl, rfl⟩) (λw' => ?_) (VRel.bool _)
             first
              | (obtain rfl:=aj; simp [binOp, Op.intArith, R0]; done)
              | (obtain ⟨rfl, pc⟩:=aj; simp [binOp, Op.intDiv, Q7q, pc]; done)
              | (obtain rfl:=aj; simp [binOp, Op.intBits, Qd]; done)
              | (obtain rfl:=aj; simp [binOp, Op.intCmp, Z1o]; done)
              | (simp [binOp, Op.shift, TT, Int.not_lt.2 aj, Nat.min_def]; done)
           . cases h)
    .
      simp at hc; subst hc;simp only [Qb] at h;split at h
      . rename_i a b h1 h2
        rw [h1] at hx; rw [h2] at hy;have ex:=hx.q0o;have ey:=hy.q0o
        cases jF <;> simp only at h <;> first
          | (cases h; done)
          | (split at h
             . rename_i aG
               simp at h; obtain ⟨rfl, rfl⟩:=h;refine ⟨rfl, NI _ t x y yt ty pos after dst guard ex ey (.inr (.inl ⟨_, _, rfl, rfl⟩)) (c:=.string (a ++ b)) (λw' => ?_) (VRel.string _)⟩;have:¬ (((a.size + b.size:Nat):Int) > IntKind.i64.max):=by
                 have:IntKind.i64.max = 9223372036854775807:=by decide
                 omega
               simp only [binOp, Op.stringOp, z1 this]; rfl
             . cases h)
          | (simp at h; obtain ⟨rfl, rfl⟩:=h
             exact ⟨rfl, NI _ t x y yt ty pos after dst guard ex ey (.inr (.inl ⟨_, _, rfl, rfl⟩)) (λw' => by simp [binOp, Op.stringOp, ByteArray.toList_eq]) (VRel.bool _)⟩)
      . cases h
    .
      rename_i pP
      cases jF <;> simp at hc <;> subst hc <;> simp only [Qb] at h <;> split at h <;> first
        | (cases h; done)
        | (rename_i a b h1 h2
           rw [h1] at hx; rw [h2] at hy;have ex:=hx.q1c;have ey:=hy.q1c;simp at h; obtain ⟨rfl, rfl⟩:=h;refine ⟨rfl, NI _ t x y yt ty pos after dst guard ex ey (.inr (.inr ⟨_, _, rfl, rfl⟩)) (λw' => ?_) (VRel.bool _)⟩;simp [binOp, Th pP])
    . cases hc
  case unOp vw t x =>
    have hx:=hE x (by simpa using ai);simp at hc; subst hc;simp only [Qb] at h
    split at h <;> first
      | (cases h; done)
      | (rename_i h1; rw [h1] at hx; simp at h; obtain ⟨rfl, rfl⟩:=h
         refine ⟨rfl, ?_⟩
         first
          | (have e:=hx.q1c; refine Qs (λw' => ?_) (VRel.bool _); simp [execOp, e, Op.unary]; done)
          | (have e:=hx.q0g; refine Qs (λw' => ?_) (VRel.int _ _); simp [execOp, e, Op.unary, Op.intArith]; done)
          | (have e:=hx.q0g; refine Qs (λw' => ?_) (VRel.int _ _); simp [execOp, e, Op.unary, Op.intBits, Qd]; done))
  case convert s d x =>
    have hx:=hE x (by simpa using ai);split at hc
    . rename_i k0 k hs hd
      simp at hc; subst hc;simp only [Qb] at h;split at h
      . rename_i h1; rw [h1] at hx; simp at h; obtain ⟨rfl, rfl⟩:=h
        exact ⟨rfl, Qs (λw' => by simp [execOp, hx.q0g, convert, Q0 hs, Q0 hd, Conv.intToInt]) (VRel.int _ _)⟩
      . cases h
    . rename_i hs hd
      simp at hc; subst hc;simp only [Qb] at h;split at h
      . rename_i h1; rw [h1] at hx; simp at h; obtain ⟨rfl, rfl⟩:=h
        exact ⟨rfl, Qs (λw' => by simp [execOp, hx.q0o, convert, Q0 hs, Q0 hd]) (VRel.string _)⟩
      . cases h
    . cases hc
  case alloc t =>
    cases hz:zeroOf P t <;> simp [hz] at hc;subst hc; cases hq
  case box t x => simp at hc; subst hc; cases hq
  case buildSlice t len parts =>
    split at hc
    . rename_i e _
      cases hz:zeroOf P e with
      | none => simp [hz] at hc
      | some z =>
        simp only [hz, zT, xt] at hc;split at hc
        . cases hc
        . simp at hc; subst hc; cases hq
    . cases hc
  case store t a x =>
    cases hi:P.info? t <;> simp [hi] at hc;subst hc; cases hq
  case makeSlice t l c =>
    split at hc
    . rename_i e _
      cases hi:P.info? e with
      | none => simp [hi] at hc
      | some ei =>
        cases hz:zeroOf P e with
        | none => simp [hi, hz] at hc
        | some z =>
          simp only [hi, hz, zT, xt] at hc;split at hc
          . cases hc
          . simp at hc; subst hc; cases hq
    . cases hc
  case load t a =>
    have ha:=hE a (by simpa using ai);cases hi:P.info? t with
    | none => simp [hi] at hc
    | some ti =>
      cases hu:P.underlying t with
      | none => simp [hi, hu] at hc
      | some d =>
        simp [hi, hu] at hc; subst hc;simp only [Qb] at h;split at h
        . rename_i g o s h1
          rw [h1] at ha;split at h
          . rename_i c hb
            split at h
            . rename_i ae
              split at h
              . rename_i v0 hv
                simp at h; obtain ⟨rfl, rfl⟩:=h;obtain ⟨u, cG, hr⟩:=LZ hH hi hu hb ae hv ha;exact ⟨rfl, u, cG, λw' hl => by simp [execOp, hr w' hl]⟩
              . cases h
            . cases h
          . cases h
        . rename_i i o h1
          rw [h1] at ha;split at h
          . rename_i c esz wr tight hb
            split at h
            . rename_i v0 hv
              simp at h; obtain ⟨rfl, rfl⟩:=h;obtain ⟨u, cG, hr⟩:=Az hH hi hu hb hv ha;exact ⟨rfl, u, cG, λw' hl => by simp [execOp, hr w' hl]⟩
            . cases h
          . cases h
        . cases h
  case fieldAddr t a f =>
    have ha:=hE a (by simpa using ai);cases hf:DS P t f with
    | none => simp [hf] at hc
    | some fd =>
      cases hi:P.info? fd.type with
      | none => simp [hf, hi] at hc
      | some fi =>
        simp only [hf, hi, zT, xt] at hc;split at hc
        . cases hc
        . rename_i aG
          simp at hc; subst hc;simp only [Qb] at h;split at h
          . rename_i i o h1
            rw [h1] at ha;simp at h; obtain ⟨rfl, rfl⟩:=h;unfold DS at hf;split at hf
            . rename_i fs hu
              simp at aG;obtain ⟨ad, heq, aP, aQ⟩:=ha.q1g;cases hρ:ρ i with
              | none =>refine ⟨rfl, .pointer (some (ad.add fd.offset)), .ptr _ _ _ aP (λp hp => by rw [hρ] at hp; cases hp), λw' _ => ?_⟩;simp [execOp, heq, Instr.fieldAt, Q0 hu, hf, Instr.sureAddr, fieldPlace, Qi hi, aG]
              | some p =>obtain rfl:=aQ p hρ;refine ⟨rfl, .pointer (some ⟨p.blk, p.shift + (o + fd.offset), none⟩), .ptr _ _ _ aP (λq hq => by rw [hρ] at hq; obtain rfl:=osj hq; rfl), λw' _ => ?_⟩;simp [execOp, heq, Instr.fieldAt, Q0 hu, hf, Instr.sureAddr, fieldPlace, Qi hi, aG, XK, zt]
            . cases hf
          . cases h
  case field t x f =>
    have hx:=hE x (by simpa using ai);cases hf:DS P t f with
    | none => simp [hf] at hc
    | some fd =>
      cases hi:P.info? fd.type with
      | none => simp [hf, hi] at hc
      | some fi =>
        cases hu:P.underlying fd.type with
        | none => simp [hf, hi, hu] at hc
        | some d =>
          simp [hf, hi, hu] at hc; subst hc;simp only [Qb] at h;split at h
          . rename_i cs h1
            rw [h1] at hx;obtain ⟨ds, hds, hl⟩:=hx.q1k;split at h
            . rename_i v0 hv
              simp at h; obtain ⟨rfl, rfl⟩:=h;obtain ⟨u, cG, hr⟩:=AZ hi hu hv hl;unfold DS at hf;split at hf
              . rename_i fs pQ
                exact ⟨rfl, u, cG, λw' _ => by simp [execOp, hds, Instr.field, Q0 pQ, hf, asAgg, hr]⟩
              . cases hf
            . cases h
          . cases h
  case makeFunc fn first cap =>
    rw [Array.toList_append, List.all_append, z8] at ai;cases fn <;> simp at hc;rename_i f;subst hc;simp only [Qb] at h;simp at h; obtain ⟨rfl, rfl⟩:=h;have h1:=SD hE (l:=first.toList) ai.1;have h2:=SD hE (l:=cap.toList) ai.2;refine ⟨rfl, Qs (c:=.func (.func f) (first.map ev) (cap.map ev)) (λw' => by simp [execOp, Instr.makeFunc]) ?_⟩;refine .func _ _ _ _ _ (by simp) (by simp) (λi h3 h4 => ?_) (λi h3 h4 => ?_)
    . exact h1.2 i _ _ (by simp at h3 |-; exact ⟨_, x7 h3, rfl⟩) (by simp at h4 |-; exact ⟨_, x7 h4, rfl⟩)
    . exact h2.2 i _ _ (by simp at h3 |-; exact ⟨_, x7 h3, rfl⟩) (by simp at h4 |-; exact ⟨_, x7 h4, rfl⟩)
  case build t parts =>
    cases hz:zeroOf P t with
    | none => simp [hz] at hc
    | some z =>
      obtain ⟨ti, zv, hi, ez, fB, _, jm⟩:=Y5 hz;have aQ:LRel ρ U.n z zv.cells.toList:=by rw [fB]; exact Xn jm
      have eT:∀ q ∈ parts.toList, Xo q.2 = true:=λq hq => zf.1 ai q.2 (by simp; exact ⟨q.1, by simpa using hq⟩);simp only [hz, zT, xt] at hc;split at hc
      . rename_i fs hu
        cases ki:fs.toList.mapM (λf => (P.info? f.type).map λi => (f.offset, i.size)) with
        | none => simp [ki] at hc
        | some places =>
          cases eB:parts.toList.mapM (λq => (places[q.1]?).map λos => (os.1, os.2, q.2)) with
          | none => simp [ki, eB] at hc
          | some ps =>
            simp [ki, eB] at hc; subst hc;simp only [Qb] at h;split at h
            . rename_i cs eI
              simp at h; obtain ⟨rfl, rfl⟩:=h;obtain ⟨eU, ie⟩:=Ws _ _ _ ki;obtain ⟨b9, dj⟩:=Ws _ _ _ eB
              obtain ⟨bD, lx, kj⟩:=S9 (ρ:=ρ) (n:=U.n) (λ(i:Nat) => places[i]?) _ ((parts.map λq => (q.1, ev q.2)).toList) z cs zv.cells (by simp [b9])
                (λk a b ha hb => by
                  simp only [zY, Array.toList_map] at ha hb;cases hq:parts.toList[k]? with
                  | none => simp only [hq, wx] at hb; cases hb
                  | some q =>
                    obtain ⟨c0, mH, fQ⟩:=dj k q hq;simp only [hq, x6, xi] at hb;simp only [mH, x6, xi] at ha;subst hb; subst ha;cases mI:places[q.1]? with
                    | none => simp [mI] at fQ
                    | some os =>
                      simp [mI] at fQ; subst fQ;exact ⟨by simp, hE _ (eT q (zK hq))⟩) eI aQ
              refine ⟨rfl, .agg bD, by have:=VRel.q1m kj; simpa using this, λw' _ => ?_⟩;have aF:(fs.mapM λ(f:Field) => do pure (f.offset, <- sizeOf f.type)).run P w' = .ok places.toArray w':=by
                rw [Array.mapM_eq_mapM_toList];have pg:∀ f ∈ fs.toList, ((do pure (f.offset, <- sizeOf f.type):Sem (Nat × Nat))).run P w' = .ok (f.offset, ((P.info? f.type).map (·.size)).getD 0) w':=λf hf => by
                  obtain ⟨k, hk⟩:=List.getElem?_of_mem hf;obtain ⟨b, hb, cy⟩:=ie k f hk;cases jG:P.info? f.type with
                  | none => simp [jG] at cy
                  | some fi => simp [Qi jG]
                have:=Q1t (P:=P) _ _ w' fs.toList pg;simp only [Sem.run_map, this, zj];congr 2;apply x3;intro k;rw [zY];cases hk:fs.toList[k]? with
                | none =>
                  have:places.length <= k:=by rw [eU]; exact List.getElem?_eq_none_iff.1 hk
                  simp [zr this]
                | some f =>
                  obtain ⟨b, hb, cy⟩:=ie k f hk;cases jG:P.info? f.type with
                  | none => simp [jG] at cy
                  | some fi => simp [jG] at cy |-; rw [hb, <- cy]
              have gb:(λ(i:Nat) => places.toArray[i]?) = (λ(i:Nat) => places[i]?):=by funext i; simp
              simp only [execOp];simp only [Instr.build, zA, Zi hi ez, zj, Q0 hu, aF];have pR:Instr.fill (λ(i:Nat) => places.toArray[i]?) zv.cells (parts.map λq => (q.1, ev q.2)).toList = some bD:=by rw [gb]; exact lx
              simp only [pR];rfl
            . cases h
      . rename_i n e hu
        cases cE:P.info? e with
        | none => simp [cE] at hc
        | some ei =>
          simp [cE] at hc; subst hc;simp only [Qb] at h;split at h
          . rename_i cs eI
            simp at h; obtain ⟨rfl, rfl⟩:=h
            obtain ⟨bD, lx, kj⟩:=S9 (ρ:=ρ) (n:=U.n) (λi => some (i * ei.size, ei.size)) _ ((parts.map λq => (q.1, ev q.2)).toList) z cs zv.cells (by simp)
              (λk a b ha hb => by
                simp only [zY, Array.toList_map] at ha hb;cases hq:parts.toList[k]? with
                | none => simp only [hq, wx] at hb; cases hb
                | some q =>
                  simp only [hq, x6, xi] at ha hb;subst hb; subst ha;exact ⟨rfl, hE _ (eT q (zK hq))⟩) eI aQ
            refine ⟨rfl, .agg bD, by have:=VRel.q1m kj; simpa using this, λw' _ => ?_⟩;simp only [execOp];simp only [Instr.build, zA, Zi hi ez, zj, Q0 hu, Qi cE, lx];rfl
          . cases h
      . cases hc
  case index t x i =>
    simp at ai;have hx:=hE x ai.1;have hi:=hE i ai.2;split at hc
    . rename_i hu
      simp at hc; subst hc;simp only [Qb] at h;split at h
      . rename_i s k n h1 h2
        rw [h1] at hx; rw [h2] at hi;split at h
        . rename_i hn
          split at h
          . rename_i b hb
            simp at h; obtain ⟨rfl, rfl⟩:=h;have cy:s[n.toNat]? = some b:=by rw [<- hb]; simp [getElem?_def]; split <;> rfl
            refine ⟨rfl, Qs (λw' => ?_) (VRel.int _ _)⟩;simp [execOp, hx.q0o, hi.q0g, Instr.index, asIntOf, Q0 hu, hn, cy]
          . cases h
        . cases h
      . cases h
    . rename_i len e hu
      cases cE:P.info? e with
      | none => simp [cE] at hc
      | some ei =>
        cases jH:P.underlying e with
        | none => simp [cE, jH] at hc
        | some d =>
          simp [cE, jH] at hc; subst hc;simp only [Qb] at h;split at h
          . rename_i cs k n h1 h2
            rw [h1] at hx; rw [h2] at hi;obtain ⟨ds, hds, hl⟩:=hx.q1k;split at h
            . rename_i hn
              split at h
              . rename_i v0 hv
                simp at h; obtain ⟨rfl, rfl⟩:=h;obtain ⟨u, cG, hr⟩:=AZ cE jH hv hl;refine ⟨rfl, u, cG, λw' _ => ?_⟩;simp [execOp, hds, hi.q0g, Instr.index, asIntOf, Q0 hu, hn, Qi cE, hr]
              . cases h
            . cases h
          . cases h
    . cases hc
  case indexAddr t x i =>
    simp at ai;have hx:=hE x ai.1;have hi:=hE i ai.2;split at hc
    . rename_i e hu
      cases cE:P.info? e with
      | none => simp [cE] at hc
      | some ei =>
        simp [cE] at hc; subst hc;simp only [Qb] at h;split at h
        . rename_i b o n cap k j h1 h2
          rw [h1] at hx; rw [h2] at hi;split at h
          . rename_i hj
            simp at h; obtain ⟨rfl, rfl⟩:=h;obtain ⟨a, aw, bz, aP, aQ⟩:=hx.q1a;refine ⟨rfl, .pointer (some (a.add (j.toNat * ei.size))), .ptr _ _ _ aP (λp hp => ?_), λw' _ => ?_⟩
            . obtain ⟨_, _, ⟨_, h0⟩ | ⟨o', rfl, _, ho⟩⟩:=aQ p hp
              . omega
              have:o' = o:=by
                rcases ho with ho | ⟨h0, _⟩
                . exact ho
                . omega
              subst this;rw [XK, zt]
            . simp [execOp, bz, hi.q0g, Instr.indexAt, asIntOf, Q0 hu, hj, Qi cE]
          . cases h
        . cases h
    . rename_i len e hu
      cases cE:P.info? e with
      | none => simp [cE] at hc
      | some ei =>
        simp [cE] at hc; subst hc;simp only [Qb] at h;split at h
        . rename_i g o s k j h1 h2
          rw [h1] at hx; rw [h2] at hi;split at h
          . rename_i hj
            simp at h; obtain ⟨rfl, rfl⟩:=h;have bz:ev x = .pointer (some ⟨g, o, none⟩):=by generalize ev x = c at hx; cases hx; rfl
            refine ⟨rfl, .pointer (some ((⟨g, o, none⟩:Addr).add (j.toNat * ei.size))), by rw [XK]; exact .glob _ _ _, λw' _ => ?_⟩;simp [execOp, bz, hi.q0g, Instr.indexAt, Instr.sureAddr, asIntOf, Q0 hu, hj, Qi cE]
          . cases h
        . rename_i b o k j h1 h2
          rw [h1] at hx; rw [h2] at hi;split at h
          . rename_i hj
            simp at h; obtain ⟨rfl, rfl⟩:=h;obtain ⟨a, bz, aP, aQ⟩:=hx.q1g;refine ⟨rfl, .pointer (some (a.add (j.toNat * ei.size))), .ptr _ _ _ aP (λp hp => ?_), λw' _ => ?_⟩
            . obtain rfl:=aQ p hp
              rw [XK, zt]
            . simp [execOp, bz, hi.q0g, Instr.indexAt, Instr.sureAddr, asIntOf, Q0 hu, hj, Qi cE]
          . cases h
        . cases h
    . cases hc
  case slice t x lo hi mx =>
    have ly:Xo x = true:=by simp at ai; exact ai.1
    have gL:∀ y, lo = some y -> Xo y = true:=λy hy => by subst hy; simp at ai; first | exact ai.2.1 | exact ai.2
    have gM:∀ y, hi = some y -> Xo y = true:=λy hy => by subst hy; cases lo <;> simp at ai <;> first | exact ai.2.1 | exact ai.2.2.1 | exact ai.2.2 | exact ai.2
    have hx:=hE x ly;split at hc
    . rename_i e hu
      cases cE:P.info? e with
      | none => simp [cE] at hc
      | some ei =>
        simp [cE] at hc; subst hc;cases mx with
        | some m => simp [VOp.quiet] at hq
        | none =>
          simp only [Qb] at h;split at h
          . rename_i a n cap h1
            rw [h1] at hx;split at h
            . rename_i l hh hl lu _
              have mJ:=Y3 hE gL hl;have mK:=Y3 hE gM lu;unfold WM at h;split at h
              . rename_i heq
                simp at heq; obtain ⟨rfl, rfl, rfl⟩:=heq;obtain ⟨_, _, bz⟩:=hx.q1l;split at h
                . rename_i aj
                  obtain ⟨rfl, rfl, _⟩:=aj;simp at h; obtain ⟨rfl, rfl⟩:=h;refine ⟨rfl, Qs (λw' => ?_) VRel.nilSl⟩;have:=Ka (P:=P) (isSlice:=true) (cap:=0) mJ mK (ze _) (ze _) w';simp [execOp, bz, Instr.sliceAt, Instr.slice, Q0 hu, this, Qi cE]
                . cases h
              . rename_i i o n' jI heq
                simp at heq; obtain ⟨rfl, rfl, rfl⟩:=heq;simp only at h;split at h
                . rename_i c esz wr tight hb
                  split at h
                  . rename_i aj
                    obtain ⟨nc, pS, sN⟩:=aj;simp at h; obtain ⟨rfl, rfl⟩:=h;obtain ⟨ad, aw, bz, aP, aQ⟩:=hx.q1a;obtain ⟨p, hp, hB⟩:=hH.live i _ hb;have dP:=(aQ p hp).1;have b_:=λw' => Ka (P:=P) (isSlice:=true) (cap:=aw) mJ mK pS (x4 sN dP) w';obtain ⟨-, ng, ⟨mH, kn⟩ | ⟨o', rfl, cX, ho⟩⟩:=aQ p hp
                    . have aU:aw = l:=by omega
                      refine ⟨rfl, .slice (some ad) (hh - l) (aw - l), .sl _ _ _ _ _ _ aP (λq hq => ⟨by omega, λ_ => by omega, .inl ⟨by omega, by omega⟩⟩), λw' _ => ?_⟩;simp only [execOp, bz, Instr.sliceAt, zA, Q0 hu, zj, Instr.slice, wx, b_, Qi cE];simp [aU]
                    have dQ:p.esz.sz = ei.size:=by rw [hB.1]; exact nc
                    rw [dQ] at cX;refine ⟨rfl, .slice (some (if aw = l then ⟨p.blk, p.shift + o', none⟩ else ⟨p.blk, p.shift + (o' + l * ei.size), none⟩)) (hh - l) (aw - l), .sl _ _ _ _ _ _ aP (λq hq => ?_), λw' _ => ?_⟩
                    . obtain rfl:p = q:=osj (hp.symm.trans hq)
                      refine ⟨by omega, λht => by have:=ng ht; omega, .inr ?_⟩;rw [dQ];by_cases cq:aw = l
                      . refine ⟨o', by rw [z7 cq], by rw [cq, wh]; omega, .inr (by omega)⟩
                      . refine ⟨o' + l * ei.size, by rw [z1 cq], ?_, ?_⟩
                        . have:aw = l + (aw - l):=by omega
                          rw [this, zO] at cX;omega
                        . rcases ho with rfl | ⟨h0, sO⟩
                          . exact .inl rfl
                          . exact .inr (by omega)
                    . simp only [execOp, bz, Instr.sliceAt, zA, Q0 hu, zj, Instr.slice, wx, b_, Qi cE]
                      by_cases cq:aw = l
                      . simp [cq]
                      . simp [cq, XK, zt]
                  . cases h
                . cases h
              . cases h
            . simp_all
            . cases h
          . cases h
    . rename_i hu
      split at hc
      . rename_i pT
        cases mx with
        | some m => simp at pT
        | none =>
          simp at hc; subst hc;simp only [Qb] at h;split at h
          . rename_i s h1
            rw [h1] at hx;split at h
            . rename_i l hh hl lu
              have mJ:=Y3 hE gL hl;have mK:=Y3 hE gM lu;split at h
              . rename_i aj
                simp at h; obtain ⟨rfl, rfl⟩:=h;refine ⟨rfl, Qs (λw' => ?_) (VRel.string _)⟩;have:=Ka (P:=P) (isSlice:=false) (cap:=s.size) mJ mK aj.1 aj.2 w';simp [execOp, hx.q0o, Instr.sliceAt, Instr.slice, Q0 hu, this]
              . cases h
            . cases h
          . cases h
      . cases hc
    . cases hc
  case makeInterface t x =>
    have hx:=hE x (by simpa using ai);cases hu:P.underlying t with
    | none => simp [hu] at hc
    | some d =>
      have gd:∀ ms, d ≠ .interface ms:=λms e => by subst e; simp [hu] at hc
      have cO:vo = .iface t x:=by cases d <;> simp [hu] at hc <;> exact hc.symm
      subst cO;simp only [Qb] at h;split at h
      . cases h
      . simp at h; obtain ⟨rfl, rfl⟩:=h
        refine ⟨rfl, Qs (λw' => ?_) (VRel.iface t _ _ hx)⟩;have:(Instr.makeInterface t (ev x)).run P w' = .ok (.iface t (ev x)) w':=by cases d <;> first | (exact absurd rfl (gd _)) | simp [Instr.makeInterface, Q0 hu]
        simp [execOp, this]
  case extract x i =>
    have hx:=hE x (by simpa using ai);simp at hc; subst hc;simp only [Qb] at h;split at h
    . rename_i vs h1
      rw [h1] at hx;obtain ⟨ds, hds, hl⟩:=hx.q1j;split at h
      . rename_i v0 hv
        simp at h; obtain ⟨rfl, rfl⟩:=h;obtain ⟨u, hu, cG⟩:=hl.get hv;have cD:ds[i]? = some u:=by simpa using hu
        exact ⟨rfl, u, cG, λw' _ => by simp [execOp, hds, Instr.extract, cD]⟩
      . cases h
    . cases h
  case nilCheck x =>
    have hx:=hE x (by simpa using ai);simp at hc; subst hc;simp only [Qb] at h;split at h
    . rename_i a h1
      rw [h1] at hx;simp at h; obtain ⟨rfl, rfl⟩:=h;have:∃ a', ev x = .pointer (some a'):=by generalize ev x = c at hx;cases hx <;> exact ⟨_, rfl⟩
      obtain ⟨a', ku⟩:=this;exact ⟨rfl, ev x, hx, λw' _ => by simp [execOp, ku]⟩
    . rename_i f first cap h1
      rw [h1] at hx;simp at h; obtain ⟨rfl, rfl⟩:=h;have:∃ g' c', ev x = .func (.func f) g' c':=by generalize ev x = c at hx;cases hx; exact ⟨_, _, rfl⟩
      obtain ⟨g', c', ku⟩:=this;exact ⟨rfl, ev x, hx, λw' _ => by simp [execOp, ku]⟩
    . cases h
  case call c =>
    split at hc
    . simp at hc; subst hc; simp [Qb] at h
    . simp at hc; subst hc; simp [Qb] at h
    . rename_i aL
      split at hc
      . rename_i t x ht aB
        have cP:c.args = #[x]:=by apply Array.ext'; simpa using aB
        have hx:=hE x (by simp [Call.operands, aL, cP] at ai; exact ai);split at hc
        . rename_i hu
          simp at hc; subst hc;simp only [Qb] at h;split at h
          . rename_i s h1
            rw [h1] at hx; simp at h; obtain ⟨rfl, rfl⟩:=h;refine ⟨rfl, Qs (λw' => ?_) (VRel.int _ _)⟩;simp [execOp, resolve, aL, cP, invoke, builtin, Builtin.len_, ht, hx.q0o, Q0 hu, goInt]
          . cases h
        . rename_i e hu
          simp at hc; subst hc;simp only [Qb] at h;split at h
          . rename_i a n cap h1
            rw [h1] at hx; simp at h; obtain ⟨rfl, rfl⟩:=h;obtain ⟨a', aw, bz⟩:=hx.q1v;refine ⟨rfl, Qs (λw' => ?_) (VRel.int _ _)⟩;simp [execOp, resolve, aL, cP, invoke, builtin, Builtin.len_, ht, bz, Q0 hu, goInt]
          . cases h
        . cases hc
      . cases hc
    . rename_i aL
      split at hc
      . rename_i t u s x ht hu aB
        split at hc
        . rename_i e f _ _
          cases hi:P.info? e with
          | none => simp [hi] at hc
          | some ei =>
            cases hz:zeroOf P e with
            | none => simp [hi, hz] at hc
            | some z =>
              simp only [hi, hz, zT, xt] at hc;split at hc
              . cases hc
              . simp at hc; subst hc; cases hq
        . cases hc
      . cases hc
    . rename_i aL
      split at hc
      . rename_i x y aB
        have cP:c.args = #[x, y]:=by apply Array.ext'; simpa using aB
        simp [Call.operands, aL, cP] at ai;have hx:=hE x ai.1;have hy:=hE y ai.2;simp at hc; subst hc;simp only [Qb] at h;split at h
        . rename_i k a k' b h1 h2
          rw [h1] at hx; rw [h2] at hy;split at h
          . simp at h; obtain ⟨rfl, rfl⟩:=h
            refine ⟨rfl, Qs (λw' => ?_) (VRel.int _ _)⟩;simp [execOp, resolve, aL, cP, invoke, builtin, Builtin.max_, Builtin.max2, hx.q0g, hy.q0g]
          . cases h
        . cases h
      . rename_i x y z aB
        have cP:c.args = #[x, y, z]:=by apply Array.ext'; simpa using aB
        simp [Call.operands, aL, cP] at ai;have hx:=hE x ai.1;have hy:=hE y ai.2.1;have hz:=hE z ai.2.2;simp at hc; subst hc;simp only [Qb] at h;split at h
        . rename_i k a k2 b k3 c' k4 d h1 h2 h3 h4
          rw [h1] at hx; rw [h2] at hy; rw [h3] at hz;split at h
          . rename_i hk; obtain ⟨rfl, rfl, rfl⟩:=hk
            simp at h; obtain ⟨rfl, rfl⟩:=h;refine ⟨rfl, Qs (λw' => ?_) (VRel.int _ _)⟩;have sP:=(Value.int.inj (h3.symm.trans h4)).2;subst sP;simp only [Oh];simp [execOp, resolve, aL, cP, invoke, builtin, Builtin.max_, Builtin.max2, hx.q0g, hy.q0g, hz.q0g, FD]
          . cases h
        . cases h
      . rename_i x y z w aB
        have cP:c.args = #[x, y, z, w]:=by apply Array.ext'; simpa using aB
        simp [Call.operands, aL, cP] at ai;have hx:=hE x ai.1;have hy:=hE y ai.2.1;have hz:=hE z ai.2.2.1;have hw:=hE w ai.2.2.2;simp at hc; subst hc;simp only [Qb] at h;split at h
        . rename_i k a k2 b k3 c' k4 d h1 h2 h3 h4
          rw [h1] at hx; rw [h2] at hy; rw [h3] at hz; rw [h4] at hw;split at h
          . rename_i hk; obtain ⟨rfl, rfl, rfl⟩:=hk
            simp at h; obtain ⟨rfl, rfl⟩:=h;refine ⟨rfl, Qs (λw' => ?_) (VRel.int _ _)⟩;simp [execOp, resolve, aL, cP, invoke, builtin, Builtin.max_, Builtin.max2, hx.q0g, hy.q0g, hz.q0g, hw.q0g, FD]
          . cases h
        . cases h
      . cases hc
    . rename_i aL
      split at hc
      . rename_i x y aB
        have cP:c.args = #[x, y]:=by apply Array.ext'; simpa using aB
        simp [Call.operands, aL, cP] at ai;have hx:=hE x ai.1;have hy:=hE y ai.2;simp at hc; subst hc;simp only [Qb] at h;split at h
        . rename_i k a k' b h1 h2
          rw [h1] at hx; rw [h2] at hy;split at h
          . simp at h; obtain ⟨rfl, rfl⟩:=h
            refine ⟨rfl, Qs (λw' => ?_) (VRel.int _ _)⟩;simp [execOp, resolve, aL, cP, invoke, builtin, Builtin.min_, Builtin.min2, hx.q0g, hy.q0g]
          . cases h
        . cases h
      . cases hc
    . cases hc
  all_goals (first | (cases hc; done) | (split at hc <;> cases hc; done))
end
end Go.V
namespace Go.V
open Go
section
variable {P:Program}{ρ:Plc}{U U':Heap}{w:World}{ev:Operand->Value}{env:Env}{v:Value}
def Rt (P:Program) (ρ:Plc) (U:Heap) (w:World) (v:Value) (U':Heap) (s:Sem Next):Prop :=
 ∃ c w' ρ',(s.run P w=.ok (.value c) w'\/(s.run P w=.ok .skip w'/\c=undef))/\VRel ρ' U'.n v c/\HRel ρ' U' w'/\Ext ρ U w ρ' U' w'
theorem Lq (z:List Value) (hz:z≠[]):∀ n,(List.range (n*z.length)).map (λi=>z[i % z.length]!)=(List.replicate n z).flatten:=by
 intro n;have bc:0<z.length:=xB.2 hz;induction n with
 |zero=>simp
 |succ n ih =>
  rw[xC,List.flatten_cons,<-ih,Nat.succ_mul,xW,List.range_add,xI,wA];congr 1
  .apply x3;intro k;by_cases hk:k<z.length
   .simp[hk,xu hk]
   .simp[hk]
  .apply xr;intro i _;simp
theorem Vq (n:Nat) (z:List Value):H9 n z=(List.replicate n z).flatten:=by
 unfold H9;split
 .rename_i x;induction n with
  |zero=>rfl
  |succ n ih=>rw[xC,xC,List.flatten_cons,<-ih];rfl
 .rfl
theorem DK (zero:Array Value) (z:List Value) (h:zero.toList=z) (hz:z≠[]) (n:Nat):((Array.range (n*z.length)).map (λi=>zero[i % zero.size]!)).toList=H9 n z:=by rw[Vq,<-Lq z hz n];subst h;simp;intro a _;rw[getElem!_def];cases zero[a % zero.size]?<;>rfl
theorem Pq (n:Nat) (z:List Value):(H9 n z).length=n*z.length:=by rw[Vq];simp[List.length_flatten,List.map_replicate,List.sum_replicate_nat]
theorem EN (n:Nat) (z:List Value) (h:z.all cellOk=true):(H9 n z).all cellOk=true:=by
 rw[Vq];simp only[zf,List.mem_flatten,List.mem_replicate] at *
 rintro x ⟨l,⟨_,rfl⟩,hx⟩;exact h x hx
theorem DU (n:Nat) (z:List Value) (h:z.all QM=true):(H9 n z).all QM=true:=by rw[Vq,List.all_flatten];simp[List.all_replicate,h]
theorem BP {lo:Option Operand}{yh ym:Operand}{n cap l h m:Nat}{kh km:IntKind}{ih im:Int}(pO:(lo=none/\l=0)\/∃ x k i,lo=some x/\ev x=.int k i/\0<=i/\l=i.toNat)
  (jJ:ev yh=.int kh ih) (ph:0<=ih) (hh:h=ih.toNat) (jK:ev ym=.int km im) (pj:0<=im) (hm:m=im.toNat) (h1:l<=h) (h2:h<=m) (h3:m<=cap) (w:World) :
  (Instr.sliceBounds true n cap (lo.map ev) ((some yh).map ev) ((some ym).map ev)).run P w=.ok (l,h,m) w:=by
 subst hh;subst hm;rcases pO with⟨rfl,rfl⟩|⟨x,k,i,rfl,hx,pb,rfl⟩
 .simp[Instr.sliceBounds,jJ,jK,Zj km im _ _ pj h3,Zj kh ih _ _ ph h2]
 .simp[Instr.sliceBounds,hx,jJ,jK,Zj km im _ _ pj h3,Zj kh ih _ _ ph h2,Zj k i _ _ pb h1]
theorem Lo (hH:HRel ρ U w) {c:List Value}{C:Array Value}{esz:El}(hc:LRel ρ U.n c C.toList) {s:Sem Next}
  (hs:s.run P w=.ok (.value (.pointer (some ⟨w.heap.size,0,none⟩))) (w.alloc (.cells C esz.ty))) :
  Rt P ρ U w (.pointer (some ⟨U.n,0,none⟩)) (U.push (.cells c esz true true)) s:=by
 have hl:c.length=C.size:=by have:=hc.1;simpa using this
 obtain⟨ρ',h1,h2,h3⟩:=hH.alloc c C esz.ty esz true rfl (by
  have:C.toList.take C.size=C.toList:=by rw[<-Array.length_toList];exact List.take_length
  rw[hl,this];exact hc) (by omega)
 refine⟨_,_,ρ',.inl hs,.ptr _ _ _ (by simp) (λp hp=>?_),h2,h3⟩;rw[h1] at hp;obtain rfl:=osj hp;rfl
theorem Pe (hH:HRel ρ U w) {c:List Value}{C:Array Value}{esz:El}{n cap:Nat}(hc:LRel ρ U.n c C.toList) (hn:cap*esz.sz<=C.size) {s:Sem Next}
  (hs:s.run P w=.ok (.value (.slice (some ⟨w.heap.size,0,none⟩) n cap)) (w.alloc (.cells C esz.ty))) :
  Rt P ρ U w (.slice (some ⟨U.n,0,none⟩) n cap) (U.push (.cells c esz true true)) s:=by
 have hl:c.length=C.size:=by have:=hc.1;simpa using this
 obtain⟨ρ',h1,h2,h3⟩:=hH.alloc c C esz.ty esz true rfl (by
  have:C.toList.take C.size=C.toList:=by rw[<-Array.length_toList];exact List.take_length
  rw[hl,this];exact hc) (by omega)
 refine⟨_,_,ρ',.inl hs,.sl _ _ _ _ _ _ (by simp) (λp hp=>?_),h2,h3⟩;rw[h1] at hp;obtain rfl:=osj hp;exact⟨ze _,λ_=>rfl,.inr ⟨0,rfl,by simpa using hn,.inl rfl⟩⟩
theorem TS (hH:HRel ρ U w) {esz n cap:Nat}{a:Option Addr}{xs:List Value}{c:Value}(h:U.sl esz (.slice a n cap)=some xs) (hv:VRel ρ U.n (.slice a n cap) c) :
  xs.length=n*esz/\∃ us:List Value,LRel ρ U.n xs us/\(∃ a' aw,c=.slice a' n aw)/\∀ w',Like ρ w w'->(Builtin.firstCells esz n c).run P w'=.ok us.toArray w':=by
 unfold Heap.sl at h;split at h
 .rename_i heq;simp at heq;obtain⟨rfl,rfl,rfl⟩:=heq;simp at h;subst h;obtain⟨_,_,rfl⟩:=hv.q1l;exact⟨by simp,[],LRel.nil _ _,⟨_,_,rfl⟩,λw' _=>by simp[Builtin.firstCells]⟩
 .rename_i i o n' jI heq;simp at heq;obtain⟨rfl,rfl,rfl⟩:=heq;split at h
  .rename_i c0 e wr tight hb;split at h
   .rename_i aj;obtain⟨nc,hlen⟩:=aj;simp at h;obtain⟨p,hp,_,_,_,_,h5,_⟩:=hH.live i _ hb;obtain⟨ad,aw,rfl,aP,aQ⟩:=hv.q1a;have gf:xs.length=n*esz:=by rw[<-h];simp;omega
    obtain⟨_,_,⟨_,kn⟩|⟨o',rfl,_,ho⟩⟩:=aQ p hp
    .subst kn;rw[Nat.zero_mul] at gf;obtain rfl:=zQ.1 gf;refine⟨by simp,[],.nil _ _,⟨_,_,rfl⟩,λw' hl=>?_⟩;have:=run_loadCells_list (P:=P) w' ad [] (λj v hj=>by simp at hj);simp only[List.length_nil] at this;simp[Builtin.firstCells,this]
    refine⟨gf,?_⟩;have ky:n*esz=0\/o'=o:=by
     rcases ho with ho|⟨h0,_⟩
     .exact .inr ho
     .left;rw[h0,Nat.zero_mul]
    have hex:∀ k,k<n*esz->∃ u,w.cell? ⟨p.blk,p.shift+o'+k,none⟩=some u/\∀ v,xs[k]?=some v->VRel ρ U.n v u:=λk hk=>by have nh:o'=o:=ky.resolve_left (by omega);subst nh;obtain⟨u,hu,cG⟩:=h5 (o'+k) _ (z6 (by omega));rw[<-zt] at hu;refine⟨u,hu,λv hv=>?_⟩;rw[<-h,zP,z7 hk,zH,z6 (by omega)] at hv;obtain rfl:=osj hv;exact cG
    let us:List Value:=(List.range (n*esz)).map λk=>(w.cell? ⟨p.blk,p.shift+o'+k,none⟩).getD undef;have ni:us.length=n*esz:=by simp[us]
    have dO:∀ k,k<n*esz->∀ u,w.cell? ⟨p.blk,p.shift+o'+k,none⟩=some u->us[k]?=some u:=λk hk u hu=>by simp[us,hk,hu]
    refine⟨us,⟨by omega,λk v u hk hu=>?_⟩,⟨_,_,rfl⟩,λw' hl=>?_⟩
    .have bh:k<n*esz:=by have:=(zg.1 hk).1;omega
     obtain⟨u',cD,gK⟩:=hex k bh;rw[dO k bh u' cD] at hu;obtain rfl:=osj hu;exact gK v hk
    .have cN:∀ j v,us[j]?=some v->w'.cell? ((⟨p.blk,p.shift+o',none⟩:Addr).add j)=some v:=λj v hj=>by
      have cm:j<n*esz:=by have:=(zg.1 hj).1;omega
      obtain⟨u',cD,_⟩:=hex j cm;rw[dO j cm u' cD] at hj;obtain rfl:=osj hj;rw[XK,Px hl hp];exact cD
     have:=run_loadCells_list (P:=P) w' ⟨p.blk,p.shift+o',none⟩ us cN;rw[ni] at this;simp[Builtin.firstCells,this]
   .cases h
  .cases h
 .cases h
theorem Et (gg aY:Nat) (h:aY<gg):Builtin.nextslicecap gg aY<=2*gg:=by
 unfold Builtin.nextslicecap;split
 .omega
 .split
  .omega
  .have key:∀ r c,c<=2*gg->256<=gg->Builtin.growBy gg r c<=2*gg:=by
    intro r;induction r with
    |zero=>intro c hc _;exact hc
    |succ r ih =>
     intro c hc h2;unfold Builtin.growBy;split
     .exact hc
     .exact ih _ (by omega) h2
   exact key 4 aY (by omega) (by omega)
theorem Eo {n:Nat}{v c:Value}(h:cellOk v=true) (hv:VRel ρ n v c):c.oneCell'=true:=by cases hv<;>first|rfl|(simp[cellOk,poison] at h)
theorem Ky {n:Nat}{vs cs:List Value}(h:vs.all cellOk=true) (hv:LRel ρ n vs cs):∀ c∈cs,c.oneCell'=true:=by
 intro c hc;obtain⟨k,hk⟩:=List.getElem?_of_mem hc;have bh:k<vs.length:=by have:=(zg.1 hk).1;have:=hv.1;omega
 exact Eo (zf.1 h _ (zp bh)) (hv.2 k _ _ (z6 bh) hk)
theorem X6 {t u e f:TypeId}{ei:TypeInfo}(ht:P.underlying t=some (.slice e)) (hu:P.underlying u=some (.slice f)) (hi:P.info? e=some ei) (ty:TypeId) (base:Option Addr) (n cap m:Nat) (x:Value) (us:List Value)
  (hx:∃ a' aw,x=.slice a' m aw) (fR:(Builtin.firstCells ei.size m x).run P w=.ok us.toArray w) (aZ:n+m<=cap) (w':World)
  (bk:(match base with|some a=>storeCells (a.add (n*ei.size)) us|none=>pure ()).run P w=.ok () w') :
  (Builtin.append_ #[t,u] ty #[.slice base n cap,x]).run P w=.ok (.slice base (n+m) cap) w':=by
 obtain⟨a',aw,rfl⟩:=hx;unfold Builtin.append_;cases base with
 |none =>simp at bk;subst bk;simp[Q0 ht,Q0 hu,Qi hi,Builtin.lenOf,aZ,fR]
 |some a =>simp at bk;simp[Q0 ht,Q0 hu,Qi hi,Builtin.lenOf,aZ,fR,bk]
theorem Xw {t u e f:TypeId}{ei:TypeInfo}{zv:Value}(ht:P.underlying t=some (.slice e)) (hu:P.underlying u=some (.slice f)) (hi:P.info? e=some ei) (hz:ei.zero=some zv) (hb:ei.bytes≠0) (ty:TypeId) (base:Option Addr) (n cap m:Nat) (x:Value) (us os:List Value)
  (hx:∃ a' aw,x=.slice a' m aw) (fR:(Builtin.firstCells ei.size m x).run P w.drew=.ok us.toArray w.drew) (iE:(Builtin.firstCells ei.size n (.slice base n cap)).run P w.drew=.ok os.toArray w.drew)
  (aZ:¬ n+m<=cap) (aG:(n+m)*ei.bytes<=2 ^ 46) :
  ∃ aV,n+m<=aV/\(Builtin.append_ #[t,u] ty #[.slice base n cap,x]).run P w =
   .ok (.slice (some ⟨w.heap.size,0,none⟩) (n+m) aV) (w.drew.alloc (.cells ((os++us).toArray++Builtin.zeroCells zv.cells (aV-(n+m))) e)):=by
 obtain⟨a',aw,rfl⟩:=hx;refine⟨(Question.appendCap (n+m) cap e).cut (w.tape w.drawn (.appendCap (n+m) cap e)),by simp[Question.cut],?_⟩;have h1:¬ (2 ^ 48<Builtin.nextslicecap (n+m) cap*ei.bytes):=by have:=Et (n+m) cap (by omega);have h2:Builtin.nextslicecap (n+m) cap*ei.bytes<=2*(n+m)*ei.bytes:=zx _ this;rw[Nat.mul_assoc] at h2;omega
 have kz:∀ w:World,(typeInfo e).run P w=.ok ei w:=λw=>run_typeInfo w hi;have ez:∀ w:World,(zeroValue e).run P w=.ok zv w:=λw=>Zi hi hz w;unfold Builtin.append_;simp[Q0 ht,Q0 hu,Qi hi,Builtin.lenOf,aZ,kz,hb,h1,Question.forced,iE,fR,ez,newRow];congr 2;apply Array.ext';simp
theorem XX (_hH:HRel ρ U w) (_hE:Ext ρ U w ρ U w) {σ1:Heap}{ρ1:Plc}(jo:HRel ρ1 σ1 w) (fm:Ext ρ U w ρ1 σ1 w) (gN:σ1.n=U.n) {aY xs os us:List Value}{zs:Array Value}{esz:El}{n aV:Nat}
  (ho:LRel ρ U.n aY os) (hx:LRel ρ U.n xs us) (hlen:aY.length+xs.length=n*esz.sz) (eC:zs.size=(aV-n)*esz.sz) (fS:n<=aV) {s:Sem Next}
  (hs:s.run P w=.ok (.value (.slice (some ⟨w.heap.size,0,none⟩) n aV)) (w.drew.alloc (.cells ((os++us).toArray++zs) esz.ty))) :
  Rt P ρ U w (.slice (some ⟨U.n,0,none⟩) n n) (σ1.push (.cells (aY++xs) esz true false)) s:=by
 have hl:(aY++xs).length=(os++us).length:=by simp[ho.1,hx.1]
 have aI:LRel ρ1 σ1.n (aY++xs) (((os++us).toArray++zs).toList.take (aY++xs).length):=by
  have h1:((os++us).toArray++zs).toList.take (aY++xs).length=os++us:=by rw[Array.toList_append,hl];show ((os++us)++zs.toList).take (os++us).length=_;exact List.take_left
  rw[h1];exact(ho.append hx).mono fm.n fm.pl
 have aG:((os++us).toArray++zs).size=n*esz.sz+(aV-n)*esz.sz:=by simp[eC];have:=ho.1;have:=hx.1;omega
 have cq:(aY++xs).length<=((os++us).toArray++zs).size:=by rw[aG,zJ];omega
 obtain⟨ρ',h1,h2,h3⟩:=(jo.drew).alloc (aY++xs) ((os++us).toArray++zs) esz.ty esz false rfl aI cq;have hh:w.drew.heap.size=w.heap.size:=rfl;rw[gN] at h1;refine⟨_,_,ρ',.inl hs,.sl _ _ _ _ _ _ (by simp[gN]) (λp hp=>?_),h2,(fm.trans (Ext.drew ρ1 σ1 w)).trans h3⟩;rw[h1] at hp;obtain rfl:=osj hp;refine⟨fS,⟨λh=>(by cases h),.inr ⟨0,rfl,?_,Or.inl rfl⟩⟩⟩;show 0+aV*esz.sz<=((os++us).toArray++zs).size;rw[aG,<-zO];have:n+(aV-n)=aV:=by omega
 rw[this];omega
theorem SM (hH:HRel ρ U w) {t u e f:TypeId}{ei:TypeInfo}{zv:Value}{z:List Value}(ht:P.underlying t=some (.slice e)) (hu:P.underlying u=some (.slice f)) (hi:P.info? e=some ei) (hz:ei.zero=some zv) (fB:zv.cells.toList=z) (eC:z.length=ei.size) (hb:ei.bytes≠0) (ty:TypeId)
  {s:Value}{a:Option Addr}{m lz:Nat}{xs:List Value}{cs cx:Value}(hs:VRel ρ U.n s cs) (hx:VRel ρ U.n (.slice a m lz) cx) (bE:U.sl z.length (.slice a m lz)=some xs) (ai:xs.all cellOk=true)
  (h:Yz ⟨z.length,e⟩ ei.bytes U s m xs=some (v,U')) {pU:Sem Next}(aS:∀ r w',(Builtin.append_ #[t,u] ty #[cs,cx]).run P w=.ok r w'->pU.run P w=.ok (.value r) w'):Rt P ρ U w v U' pU:=by
 obtain⟨gf,us,dR,eD,fR⟩:=TS (P:=P) hH bE hx;rw[eC] at fR gf;have hL:=Like.refl ρ w;have jL:Like ρ w w.drew:=⟨ze _,λ_ _ _=>rfl,λ_ _ _=>rfl⟩;have ni:us.length=m*ei.size:=by have:=dR.1;omega
 have hzero:∀ k,(Builtin.zeroCells zv.cells k).size=k*z.length:=λk=>by rw[size_zeroCells];rw[<-fB];simp
 unfold Yz at h;split at h
 .
  obtain⟨_,_,rfl⟩:=hs.q1l;split at h
  .rename_i eJ;subst eJ;simp at h;obtain⟨rfl,rfl⟩:=h;have:us=[]:=zQ.1 (by omega);subst this;have hr:=X6 (w:=w) ht hu hi ty none 0 0 0 cx [] eD (fR w hL) (ze _) w rfl;exact⟨_,w,ρ,.inl (aS _ _ hr),VRel.nilSl,hH,Ext.refl _ _ _⟩
  .rename_i eJ;split at h
   .rename_i aG;simp at h;obtain⟨rfl,rfl⟩:=h;obtain⟨aV,fS,hr⟩:=Xw (w:=w) ht hu hi hz hb ty none 0 0 m cx us [] eD (fR _ jL) (by simp[Builtin.firstCells]) (by omega) (by simpa using aG);simp only[xl,xk] at hr fS;have:=XX (P:=P) hH (Ext.refl _ _ _) hH (Ext.refl _ _ _) rfl (LRel.nil ρ U.n) dR (by simp;rw[gf,<-eC]) (esz:=⟨z.length,e⟩) (n:=m) (hzero (aV-m)) fS (s:=pU) (by simpa using aS _ _ hr);simpa using this
   .cases h
 .
  rename_i i o n cap;obtain⟨ad,aw,rfl,aP,aQ⟩:=hs.q1a;split at h
  .rename_i c e' wr tight hblk;obtain⟨p,hp,hB⟩:=hH.live i _ hblk;obtain⟨dP,ng,⟨mH,kn⟩|⟨o',rfl,cX,eW⟩⟩:=aQ p hp
   .
    obtain rfl:cap=0:=by omega
    subst mH kn;split at h
    .rename_i aj;obtain⟨rfl,kA,gh⟩:=aj;dsimp only at gh h;split at h
     .rename_i eJ;subst eJ;simp at h;obtain⟨rfl,rfl⟩:=h;have:us=[]:=zQ.1 (by omega);subst this;have hr:=X6 (w:=w) ht hu hi ty (some ad) 0 0 0 cx [] eD (fR w hL) (ze _) w rfl;exact⟨_,w,ρ,.inl (aS _ _ hr),hs,hH,Ext.refl _ _ _⟩
     .rename_i eJ;split at h
      .omega
      .split at h
       .rename_i aG;have gO:U.sl z.length (.slice (some ⟨i,o,none⟩) 0 0)=some ((c.drop o).take (0*z.length)):=by
         have:o<=c.length:=by omega
         simp[Heap.sl,hblk,this]
        obtain⟨_,os,gi,_,iE⟩:=TS (P:=P) hH gO hs;rw[eC] at iE;have hlen:((c.drop o).take (0*z.length)).length+xs.length=(0+m)*z.length:=by rw[gf,eC];simp
        obtain⟨aV,fS,hr⟩:=Xw (w:=w) ht hu hi hz hb ty (some ad) 0 0 m cx us os eD (fR _ jL) (iE _ jL) (by omega) aG;split at h
        .obtain⟨rfl,rfl⟩:=Prod.mk.inj (osj h);exact XX hH (Ext.refl _ _ _) hH (Ext.refl _ _ _) rfl gi dR hlen (hzero _) fS (aS _ _ hr)
        .split at h
         .obtain⟨rfl,rfl⟩:=Prod.mk.inj (osj h);obtain⟨bp,av⟩:=hH.kill i;exact XX hH (Ext.refl _ _ _) bp av rfl gi dR hlen (hzero _) fS (aS _ _ hr)
         .cases h
       .cases h
    .cases h
   have dQ:p.esz=e':=hB.1;split at h
   .rename_i aj;obtain⟨rfl,kA,gh⟩:=aj;rw[dQ] at cX;dsimp only at cX gh h;split at h
    .
     rename_i eJ;subst eJ;simp at h;obtain⟨rfl,rfl⟩:=h;have:us=[]:=zQ.1 (by omega);subst this;have hr:=X6 (w:=w) ht hu hi ty (some ⟨p.blk,p.shift+o',none⟩) n aw 0 cx [] eD (fR w hL) (by omega) w rfl;exact⟨_,w,ρ,.inl (aS _ _ hr),hs,hH,Ext.refl _ _ _⟩
    .rename_i eJ;split at h
     .
      rename_i aZ;split at h
      .rename_i hw;obtain⟨rfl,dS⟩:=hw;simp at h;obtain⟨rfl,rfl⟩:=h;have ky:o'=o:=by
        rcases eW with h0|⟨_,h0⟩
        .exact h0
        .omega
       subst ky;have hmul:(n+m)*z.length=n*z.length+m*z.length:=zO _ _ _;have sQ:m*ei.size=m*z.length:=by rw[eC]
       obtain⟨h2,h3⟩:=hH.store hp hblk dR (o:=o'+n*z.length) (by omega)
       have bk:=run_storeCells_cells (P:=P) p.blk (p.shift+o'+n*z.length) us 0 w
        (λj hj=>by rw[zU,zt,zt];exact hB.q0r _ (by have:=hB.2.2.1;omega))
        (λj hj=>by rw[zU,zt,zt];exact(hB.2.2.2.2.2 rfl).2 _ (by have:=hB.2.2.1;omega))
        (Ky ai dR)
       have hr:=X6 (w:=w) ht hu hi ty (some ⟨p.blk,p.shift+o',none⟩) n aw m cx us eD (fR w hL) (by omega) _ (by
        simp only[XK,<-eC];exact bk)
       refine⟨_,_,ρ,.inl (aS _ _ hr),.sl _ _ _ _ _ _ aP (λq hq=>?_),by rw[zU,zt];exact h2,by rw[zU,zt];exact h3⟩;obtain rfl:p=q:=osj (hp.symm.trans hq);exact⟨dP,ng,.inr ⟨o',rfl,by rw[dQ];exact cX,.inl rfl⟩⟩
      .cases h
     .rename_i aZ;split at h
      .rename_i aG;have hold:∀ k v,((c.drop o).take (n*z.length))[k]?=some v->∃ u,w.cell? ⟨p.blk,p.shift+o'+k,none⟩=some u/\VRel ρ U.n v u:=λk v hk=>by
        rw[zP] at hk;split at hk
        .rename_i bh;rw[zH] at hk;have ky:o'=o:=by
          rcases eW with h0|⟨h0,_⟩
          .exact h0
          .rw[h0,Nat.zero_mul] at bh;omega
         subst ky;obtain⟨u,hu,cG⟩:=hB.2.2.2.2.1 _ v hk;exact⟨u,by rw[zt];exact hu,cG⟩
        .cases hk
       have eK:((c.drop o).take (n*z.length)).length=n*z.length:=by simp;omega
       have gO:U.sl z.length (.slice (some ⟨i,o,none⟩) n cap)=some ((c.drop o).take (n*z.length)):=by simp[Heap.sl,hblk,gh]
       obtain⟨_,os,gi,_,iE⟩:=TS (P:=P) hH gO hs;rw[eC] at iE;have hlen:((c.drop o).take (n*z.length)).length+xs.length=(n+m)*z.length:=by rw[eK,gf,zO,eC]
       split at h
       .
        rename_i gj;simp at h;obtain⟨rfl,rfl⟩:=h;have pV:aw=cap:=ng (by rw[hB.2.1];exact gj);subst pV;obtain⟨aV,fS,hr⟩:=Xw (w:=w) ht hu hi hz hb ty (some ⟨p.blk,p.shift+o',none⟩) n aw m cx us os eD (fR _ jL) (iE _ jL) aZ aG;exact XX hH (Ext.refl _ _ _) hH (Ext.refl _ _ _) rfl gi dR hlen (hzero _) fS (aS _ _ hr)
       .rename_i gj;have sR:tight=false:=by simpa using gj
        subst sR;split at h
        .rename_i f_;subst f_;simp at h;obtain⟨rfl,rfl⟩:=h;by_cases gk:n+m<=aw
         .
          have hmul:aw*z.length=(n+m)*z.length+(aw-(n+m))*z.length:=by rw[<-zO];congr 1;omega
          have rM:(n+m)*z.length=n*z.length+m*z.length:=zO _ _ _;have sQ:m*ei.size=m*z.length:=by rw[eC]
          obtain⟨ρ',h1,h2,h3⟩:=hH.onto hp hblk o' hold dR (by rw[eK];omega)
          have bk:=run_storeCells_cells (P:=P) p.blk (p.shift+o'+n*z.length) us 0 w
           (λj hj=>by rw[zU,zt,zt];exact hB.q0r _ (by omega))
           (λj hj=>by rw[zU,zt,zt];exact(hB.2.2.2.2.2 rfl).2 _ (by omega))
           (Ky ai dR)
          have hr:=X6 (w:=w) ht hu hi ty (some ⟨p.blk,p.shift+o',none⟩) n aw m cx us eD (fR w hL) gk _ (by
           simp only[XK,<-eC];exact bk)
          refine⟨_,_,ρ',.inl (aS _ _ hr),.sl _ _ _ _ _ _ (by simp) (λq hq=>?_),by rw[zU];rw[eK] at h2;exact h2,by rw[zU];rw[eK] at h3;exact h3⟩;rw[h1] at hq;obtain rfl:=osj hq;refine⟨gk,⟨λh=>(by cases h),.inr ⟨0,rfl,?_,Or.inl rfl⟩⟩⟩;show 0+aw*z.length<=p.ext-o';omega
         .obtain⟨aV,fS,hr⟩:=Xw (w:=w) ht hu hi hz hb ty (some ⟨p.blk,p.shift+o',none⟩) n aw m cx us os eD (fR _ jL) (iE _ jL) gk aG;obtain⟨bp,av⟩:=hH.kill i;exact XX hH (Ext.refl _ _ _) bp av rfl gi dR hlen (hzero _) fS (aS _ _ hr)
        .cases h
      .cases h
   .cases h
  .cases h
 .
  rename_i i o n cap;obtain⟨ad,rfl,aP,aQ,dm⟩:=hs.q2n;split at h
  .rename_i c e' wr tight hblk;obtain⟨p,hp,hB⟩:=hH.live i _ hblk;obtain⟨rfl,cX⟩:=aQ p hp;have dQ:p.esz=e':=hB.1;split at h
   .rename_i aj;obtain⟨rfl,kA,gh,eJ,aG⟩:=aj;rw[dQ] at cX;dsimp only at cX gh h;simp at h;obtain⟨rfl,rfl⟩:=h;have eK:((c.drop o).take (n*z.length)).length=n*z.length:=by simp;omega
    have gO:U.sl z.length (.slice (some ⟨i,o,none⟩) n cap)=some ((c.drop o).take (n*z.length)):=by simp[Heap.sl,hblk,gh]
    obtain⟨_,os,gi,_,iE⟩:=TS (P:=P) hH gO dm;rw[eC] at iE;have hlen:((c.drop o).take (n*z.length)).length+xs.length=(n+m)*z.length:=by rw[eK,gf,zO,eC]
    obtain⟨aV,fS,hr⟩:=Xw (w:=w) ht hu hi hz hb ty (some ⟨p.blk,p.shift+o,none⟩) n cap m cx us os eD (fR _ jL) (iE _ jL) (by omega) aG;exact XX hH (Ext.refl _ _ _) hH (Ext.refl _ _ _) rfl gi dR hlen (hzero _) fS (aS _ _ hr)
   .cases h
  .cases h
 .cases h
set_option maxHeartbeats 1000000 in
theorem F6 {o:Oper}{vo:VOp}(hc:VD P o.op=some vo) (hq:vo.quiet=false) (hH:HRel ρ U w) (hE:∀ x,Xo x=true->VRel ρ U.n (Q6 env x) (ev x))
  (h:Qb vo (Q6 env) U=some (v,U')):Rt P ρ U w v U' (execOp ev o):=by
 obtain⟨dst,op,ty,pos,after,guard⟩:=o;simp only at hc;unfold VD at hc;split at hc
 .cases hc
 rename_i ai;simp only[w4,xR] at ai;cases op<;>simp only[Op.operands] at ai hc
 case alloc t =>
  cases hz:zeroOf P t with
  |none=>simp[hz] at hc
  |some z =>simp[hz] at hc;subst hc;obtain⟨ti,zv,hi,ez,fB,_,jm⟩:=Y5 hz;simp[Qb] at h;obtain⟨rfl,rfl⟩:=h;refine Lo hH (C:=zv.cells) (esz:=⟨z.length,t⟩) (by rw[fB];exact Xn jm) ?_;simp[execOp,Instr.alloc,Zi hi ez,newVar,newRow]
 case box t x =>
  have hx:=hE x (by simpa using ai);simp at hc;subst hc;simp only[Qb] at h;split at h
  .rename_i vs cH;simp at h;obtain⟨rfl,rfl⟩:=h;refine Lo hH (C:=(ev x).cells) (esz:=⟨vs.length,t⟩) (DH cH hx) ?_;simp[execOp,Instr.box,newVar,newRow]
  .cases h
 case buildSlice t len parts =>
  split at hc
  .rename_i e hu;cases hz:zeroOf P e with
   |none=>simp[hz] at hc
   |some z =>
    obtain⟨ti,zv,hi,ez,fB,eC,jm⟩:=Y5 hz;simp only[hz,zT,xt] at hc;split at hc
    .cases hc
    .rename_i aj;simp at aj;obtain⟨ig,hlen⟩:=aj;simp at hc;subst hc;simp only[Qb] at h;split at h
     .rename_i cs eI;simp at h;obtain⟨rfl,rfl⟩:=h;have eT:∀ q∈parts.toList,Xo q.2=true:=λq hq=>zf.1 ai q.2 (by simp;exact⟨q.1,by simpa using hq⟩);have kB:=DK zv.cells z fB ig len
      obtain⟨bD,lx,kj⟩:=S9 (ρ:=ρ) (n:=U.n) (λi=>some (i*z.length,z.length)) _ ((parts.map λq=>(q.1,ev q.2)).toList) (H9 len z) cs ((Array.range (len*z.length)).map (λi=>zv.cells[i % zv.cells.size]!)) (by simp)
       (λk a b ha hb=>by
        simp only[zY,Array.toList_map] at ha hb;cases hq:parts.toList[k]? with
        |none=>simp only[hq,wx] at hb;cases hb
        |some q =>
         simp only[hq,x6,xi] at ha hb;subst hb;subst ha;exact⟨rfl,hE _ (eT q (zK hq))⟩) eI (by rw[kB];exact Xn (DU _ _ jm))
      have cq:cs.length=len*z.length:=by
       have h1:∀ (l:List (Nat×Nat×Value)) (c c':List Value),NK c l=some c'->c'.length=c.length:=by
        intro l;induction l with
        |nil=>intro c c' h;simp[NK] at h;rw[h]
        |cons a r ih =>
         intro c c' h;obtain⟨o1,s1,v1⟩:=a;simp only[NK] at h;split at h
         .split at h
          .rw[ih _ _ h,Xb]
          .cases h
         .cases h
       rw[h1 _ _ _ eI,Pq]
      refine Pe hH (C:=bD) (esz:=⟨z.length,e⟩) kj (by have:=kj.1;simp at this;show len*z.length<=_;omega) ?_;have hle:¬ (len*ti.size > 2 ^ 24):=by
       rw[<-eC];have:(2:Nat) ^ 24=16777216:=by decide
       omega
      have pW:Instr.fill (λi=>some (i*ti.size,ti.size)) ((Array.range (len*ti.size)).map (λi=>zv.cells[i % zv.cells.size]!)) (parts.map λq=>(q.1,ev q.2)).toList=some bD:=by rw[<-eC];exact lx
      by_cases aU:len*ti.size=0
      .have jq:∀ f:Nat->Value,(Array.range 0).map f=#[]:=λf=>by simp
       simp only[execOp];simp only[Instr.buildSlice,zA,Q0 hu,zj,Qi hi,aU,zI,xe];rw[aU,jq] at pW;simp only[jq,pW];simp[newRow]
      .simp only[execOp];simp only[Instr.buildSlice,zA,Q0 hu,zj,Qi hi,z1 hle,z1 aU,Zi hi ez,xe,pW];simp[newRow]
     .cases h
  .cases hc
 case store t a x =>
  simp at ai;have ha:=hE a ai.1;have hx:=hE x ai.2;cases hi:P.info? t with
  |none=>simp[hi] at hc
  |some ti =>
   simp[hi] at hc;subst hc;simp only[Qb] at h;split at h
   .rename_i i o vs h1 cH;rw[h1] at ha;split at h
    .rename_i c e wr tight hb;split at h
     .rename_i aj;obtain⟨rfl,mL,jM,iF⟩:=aj;simp at h;obtain⟨rfl,rfl⟩:=h;obtain⟨p,hp,hB⟩:=hH.live i _ hb;obtain⟨_,aP,pn⟩:=ha.q0w hp;have hl:=DH cH hx;have aC:(ev x).cells.size=ti.size:=by have:=hl.1;simp at this;omega
      obtain⟨h2,h3⟩:=hH.store hp hb hl (o:=o) (by omega);refine⟨undef,_,ρ,.inr ⟨?_,rfl⟩,JM,h2,h3⟩
      have hr:=run_storeCells_cells (P:=P) p.blk (p.shift+o) (ev x).cells.toList 0 w
       (λj hj=>by rw[zU,zt];exact hB.q0r _ (by have:=hB.2.2.1;simp at hj;omega))
       (λj hj=>by rw[zU,zt];exact(hB.2.2.2.2.2 rfl).2 _ (by have:=hB.2.2.1;simp at hj;omega))
       (Ky iF hl)
      simp only[execOp];simp only[Instr.storeAt,pn,Instr.sureAddr,zA,xe,zj,storeVar,Qi hi];rw[z1 (by simp[aC])];rw[hr];rfl
     .cases h
    .cases h
   .cases h
 case makeSlice t l c =>
  simp at ai;have hl:=hE l ai.1;have dP:=hE c ai.2;split at hc
  .rename_i e hu;cases hi:P.info? e with
   |none=>simp[hi] at hc
   |some ei =>
    cases hz:zeroOf P e with
    |none=>simp[hi,hz] at hc
    |some z =>
     obtain⟨ti,zv,cI,ez,fB,eC,jm⟩:=Y5 hz;obtain rfl:ei=ti:=osj (hi.symm.trans cI);simp only[hi,hz,zT,xt] at hc;split at hc
     .cases hc
     .rename_i ig;simp at ig;simp at hc;subst hc;simp only[Qb] at h;split at h
      .rename_i k a k' b h1 h2;rw[h1] at hl;rw[h2] at dP;split at h
       .rename_i aj;obtain⟨vz,rL,nj,bB⟩:=aj;simp at h;obtain⟨rfl,rfl⟩:=h;have kB:=DK zv.cells z fB ig b.toNat;have vA:(2:Int) ^ 46=70368744177664:=by decide
        have vB:(2:Int) ^ 48=281474976710656:=by decide
        have fp:IntKind.i64.wrap a=a:=IntWalk.i64_in _ (by omega);have sS:IntKind.i64.wrap b=b:=IntWalk.i64_in _ (by omega);refine Pe hH (C:=(Array.range (b.toNat*z.length)).map (λi=>zv.cells[i % zv.cells.size]!)) (esz:=⟨z.length,e⟩) (by rw[kB];exact Xn (DU _ _ jm)) (by simp) ?_;have sU:((ei.bytes:Int)*b > 2 ^ 48)=False:=by rw[eq_iff_iff,iff_false,Int.mul_comm];omega
        have pX:(b<0)=False:=by rw[eq_iff_iff,iff_false];omega
        have nk:(a<0)=False:=by rw[eq_iff_iff,iff_false];omega
        have pY:(a > b)=False:=by rw[eq_iff_iff,iff_false];omega
        simp only[execOp];simp only[Instr.makeSlice,zA,Q0 hu,zj,hl.q0g,dP.q0g,asInt,asIntOf,xe,run_typeInfo w hi,fp,sS,sU,pX,nk,pY];simp only[decide_false,xZ,Bool.false_or,zD,if_false,run_askRoom,zA,zj,Qi hi];rw[<-eC];by_cases aU:b.toNat*z.length=0
        .have jq:∀ f:Nat->Value,(Array.range 0).map f=#[]:=λf=>by simp
         simp only[aU,zI,jq];simp[newRow]
        .simp only[aU,if_false,Zi hi ez,zA,xe,zj];simp[newRow]
       .cases h
      .cases h
  .cases hc
 case slice t x lo hi mx =>
  have ly:Xo x=true:=by simp at ai;exact ai.1
  have gL:∀ y,lo=some y->Xo y=true:=λy hy=>by subst hy;simp at ai;first|exact ai.2.1|exact ai.2
  have gM:∀ y,hi=some y->Xo y=true:=λy hy=>by subst hy;cases lo<;>simp at ai<;>first|exact ai.2.1|exact ai.2.2.1|exact ai.2.2|exact ai.2
  have pZ:∀ y,mx=some y->Xo y=true:=λy hy=>by subst hy;cases lo<;>cases hi<;>simp at ai<;>first|exact ai.2.2.2|exact ai.2.2|exact ai.2
  have hx:=hE x ly;split at hc
  .rename_i e hu;cases cE:P.info? e with
   |none=>simp[cE] at hc
   |some ei =>
    simp[cE] at hc;subst hc;cases mx with
    |none=>simp[VOp.quiet] at hq
    |some mo =>
     simp only[Qb] at h;split at h
     .rename_i a n cap h1;rw[h1] at hx;split at h
      .simp_all
      .rename_i l hh vC hl lu sV;split at h
       .rename_i m ho hm;have mJ:=Y3 hE gL hl;have mK:=Y3 hE gM lu;have sW:=Y3 hE pZ hm;obtain⟨ym,km,im,sX,jK,pj,lA⟩:=sW.resolve_left (λhh=>by cases hh.1);obtain rfl:=osj sX;obtain⟨yh,kh,ih,sY,jJ,ph,p5⟩:=mK.resolve_left (λhh=>by cases hh.1);obtain rfl:=osj sY;have jr:=λ(aw:Nat) (h1:l<=hh) (h2:hh<=m) (h3:m<=aw) w'=>BP (P:=P) (n:=n) (cap:=aw) mJ jJ ph p5 jK pj lA h1 h2 h3 w';unfold WM at h;split at h
        .rename_i heq;simp at heq;obtain⟨rfl,rfl,rfl⟩:=heq;obtain⟨_,_,bz⟩:=hx.q1l;split at h
         .rename_i aj;obtain⟨rfl,rfl,eJ⟩:=aj;simp at eJ;simp at h;obtain⟨rfl,rfl⟩:=h;subst eJ;refine⟨.slice none 0 0,w,ρ,.inl ?_,VRel.nilSl,hH,Ext.refl _ _ _⟩;have:=jr 0 (ze _) (ze _) (ze _) w;simp only[x6] at this;simp[execOp,bz,Instr.sliceAt,Instr.slice,Q0 hu,this,Qi cE]
         .cases h
        .rename_i i o n' jI heq;simp at heq;obtain⟨rfl,rfl,rfl⟩:=heq;simp only at h;split at h
         .rename_i c esz wr tight hb;split at h
          .rename_i aj;obtain⟨nc,pS,sZ,eL⟩:=aj;obtain⟨ad,aw,bz,aP,aQ⟩:=hx.q1a;obtain⟨p,hp,hB⟩:=hH.live i _ hb;have dP:=(aQ p hp).1;have b_:=jr aw pS sZ (x4 eL dP) w;simp only[x6] at b_;obtain⟨-,ng,⟨mH,kn⟩|⟨o',rfl,cX,eW⟩⟩:=aQ p hp
           .split at h
            .rename_i iG;subst iG;simp at h;obtain⟨rfl,rfl⟩:=h;have p6:hh=m:=by omega
             subst p6;have gb:∀ j,j<U.n->∀ q,(ρ.put U.n (some ⟨p.blk,p.shift,0,esz,true⟩)) j=some q->ρ j=some q:=λj hj q hq=>by unfold Plc.put at hq;rwa [z1 (by omega)] at hq
             have bq:∀ j,j≠U.n->(ρ.put U.n (some ⟨p.blk,p.shift,0,esz,true⟩)) j=ρ j:=λj hj=>by simp[Plc.put,hj]
             have cY:(ρ.put U.n (some ⟨p.blk,p.shift,0,esz,true⟩)) U.n=some ⟨p.blk,p.shift,0,esz,true⟩:=by simp[Plc.put]
             have f_:∀ B,Wr (ρ.put U.n (some ⟨p.blk,p.shift,0,esz,true⟩)) (U.push (.cells [] esz false true)) B->Wr ρ U B:=by
              rintro B ⟨j,q,b,hq,ck,hw,rfl⟩;by_cases aO:j=U.n
              .subst aO;rw[Heap.q0a] at ck;obtain rfl:=osj ck;cases hw
              .rw[Heap.q0e _ _ aO] at ck;rw[bq j aO] at hq;exact⟨j,q,b,hq,ck,hw,rfl⟩
             refine⟨.slice (some ad) 0 0,w,ρ.put U.n (some ⟨p.blk,p.shift,0,esz,true⟩),.inl ?_,.sl _ _ _ _ _ _ (by simp) (λq hq=>?_),⟨⟨?_,?_,?_,?_⟩,λg cs hg=>⟨(hH.tab g cs hg).1,λhw=>(hH.tab g cs hg).2 (f_ g hw)⟩⟩,
              ⟨rfl,rfl,rfl,ze _,λ_ _ _=>rfl,λB _=>f_ B,by simp,gb⟩⟩
             .simp[execOp,bz,Instr.sliceAt,Instr.slice,Q0 hu,b_,Qi cE]
             .rw[cY] at hq;obtain rfl:=osj hq;exact⟨ze _,λ_=>rfl,.inl ⟨rfl,rfl⟩⟩
             .intro j b hj;by_cases aO:j=U.n
              .subst aO;rw[Heap.q0a] at hj;obtain rfl:=osj hj;obtain⟨C,e0,f0,hC,mE⟩:=hB.2.2.2.1;refine⟨_,cY,rfl,rfl,ze _,⟨C,e0,f0,hC,?_⟩,λk v hk=>by simp at hk,λhw=>by cases hw⟩;refine⟨?_,mE.2⟩;show p.shift+0<=C.size;omega
              .rw[Heap.q0e _ _ aO] at hj;obtain⟨q,hq,fz⟩:=hH.live j b hj;exact⟨q,by rw[bq j aO];exact hq,fz.mono (by simp) gb rfl⟩
             .intro j hj;by_cases aO:j=U.n
              .subst aO;rw[Heap.q0a] at hj;cases hj
              .rw[Heap.q0e _ _ aO] at hj;rw[bq j aO];exact hH.dead j hj
             .intro j q hq;by_cases aO:j=U.n
              .subst aO;rw[cY] at hq;obtain rfl:=osj hq;exact hH.lt i p hp
              .rw[bq j aO] at hq;exact hH.lt j q hq
             .intro j k q r b cW hq hr ck hw nq;by_cases aO:j=U.n
              .subst aO;rw[Heap.q0a] at ck;obtain rfl:=osj ck;cases hw
              .rw[Heap.q0e _ _ aO] at ck;rw[bq j aO] at hq;by_cases jl:k=U.n
               .subst jl;rw[cY] at hr;obtain rfl:=osj hr;simp at nq
               .rw[bq k jl] at hr;exact hH.sep j k q r b cW hq hr ck hw nq
            .omega
           have dQ:p.esz.sz=ei.size:=by rw[hB.1];exact nc
           rw[dQ] at cX;split at h
           .rename_i iG;subst iG;simp at h;obtain⟨rfl,rfl⟩:=h;have p6:hh=m:=by omega
            subst p6;have gb:∀ j,j<U.n->∀ q,(ρ.put U.n (some ⟨p.blk,p.shift+o',0,esz,true⟩)) j=some q->ρ j=some q:=λj hj q hq=>by unfold Plc.put at hq;rwa [z1 (by omega)] at hq
            have bq:∀ j,j≠U.n->(ρ.put U.n (some ⟨p.blk,p.shift+o',0,esz,true⟩)) j=ρ j:=λj hj=>by simp[Plc.put,hj]
            have cY:(ρ.put U.n (some ⟨p.blk,p.shift+o',0,esz,true⟩)) U.n=some ⟨p.blk,p.shift+o',0,esz,true⟩:=by simp[Plc.put]
            have f_:∀ B,Wr (ρ.put U.n (some ⟨p.blk,p.shift+o',0,esz,true⟩)) (U.push (.cells [] esz false true)) B->Wr ρ U B:=by
             rintro B ⟨j,q,b,hq,ck,hw,rfl⟩;by_cases aO:j=U.n
             .subst aO;rw[Heap.q0a] at ck;obtain rfl:=osj ck;cases hw
             .rw[Heap.q0e _ _ aO] at ck;rw[bq j aO] at hq;exact⟨j,q,b,hq,ck,hw,rfl⟩
            refine⟨.slice (some ⟨p.blk,p.shift+o',none⟩) 0 0,w,ρ.put U.n (some ⟨p.blk,p.shift+o',0,esz,true⟩),.inl ?_,.sl _ _ _ _ _ _ (by simp) (λq hq=>?_),⟨⟨?_,?_,?_,?_⟩,λg cs hg=>⟨(hH.tab g cs hg).1,λhw=>(hH.tab g cs hg).2 (f_ g hw)⟩⟩,
             ⟨rfl,rfl,rfl,ze _,λ_ _ _=>rfl,λB _=>f_ B,by simp,gb⟩⟩
            .simp[execOp,bz,Instr.sliceAt,Instr.slice,Q0 hu,b_,Qi cE]
            .rw[cY] at hq;obtain rfl:=osj hq;exact⟨ze _,λ_=>rfl,.inr ⟨0,rfl,by simp,.inl rfl⟩⟩
            .intro j b hj;by_cases aO:j=U.n
             .subst aO;rw[Heap.q0a] at hj;obtain rfl:=osj hj;obtain⟨C,e0,f0,hC,mE⟩:=hB.2.2.2.1;refine⟨_,cY,rfl,rfl,ze _,⟨C,e0,f0,hC,?_⟩,λk v hk=>by simp at hk,λhw=>by cases hw⟩;have h6:o'<=p.ext:=x4 (Nat.le_add_right _ _) cX;refine⟨?_,mE.2⟩;show p.shift+o'+0<=C.size;omega
             .rw[Heap.q0e _ _ aO] at hj;obtain⟨q,hq,fz⟩:=hH.live j b hj;exact⟨q,by rw[bq j aO];exact hq,fz.mono (by simp) gb rfl⟩
            .intro j hj;by_cases aO:j=U.n
             .subst aO;rw[Heap.q0a] at hj;cases hj
             .rw[Heap.q0e _ _ aO] at hj;rw[bq j aO];exact hH.dead j hj
            .intro j q hq;by_cases aO:j=U.n
             .subst aO;rw[cY] at hq;obtain rfl:=osj hq;exact hH.lt i p hp
             .rw[bq j aO] at hq;exact hH.lt j q hq
            .intro j k q r b cW hq hr ck hw nq;by_cases aO:j=U.n
             .subst aO;rw[Heap.q0a] at ck;obtain rfl:=osj ck;cases hw
             .rw[Heap.q0e _ _ aO] at ck;rw[bq j aO] at hq;by_cases jl:k=U.n
              .subst jl;rw[cY] at hr;obtain rfl:=osj hr;simp at nq
              .rw[bq k jl] at hr;exact hH.sep j k q r b cW hq hr ck hw nq
           rename_i iG;split at h
           .rename_i s5;obtain⟨_,rfl⟩:=s5;simp at h;obtain⟨rfl,rfl⟩:=h;have ky:o'=o:=by
             rcases eW with h0|⟨_,h0⟩
             .exact h0
             .omega
            subst ky;refine⟨.slice (some ⟨p.blk,p.shift+(o'+l*ei.size),none⟩) (hh-l) (hh-l),w,ρ,.inl ?_,.slx _ _ _ _ _ aP (λq hq=>?_),hH,Ext.refl _ _ _⟩
            .simp[execOp,bz,Instr.sliceAt,Instr.slice,Q0 hu,b_,Qi cE,iG,XK,zt]
            .obtain rfl:p=q:=osj (hp.symm.trans hq);refine⟨rfl,?_⟩;rw[dQ];have:aw=l+((hh-l)+(aw-hh)):=by omega
             rw[this,zO,zO] at cX;omega
           .simp at h;obtain⟨rfl,rfl⟩:=h;refine⟨.slice (some ⟨p.blk,p.shift+(o'+l*ei.size),none⟩) (hh-l) (m-l),w,ρ,.inl ?_,.sl _ _ _ _ _ _ aP (λq hq=>?_),hH,Ext.refl _ _ _⟩
            .simp[execOp,bz,Instr.sliceAt,Instr.slice,Q0 hu,b_,Qi cE,iG,XK,zt]
            .obtain rfl:p=q:=osj (hp.symm.trans hq);refine⟨ze _,λ_=>rfl,.inr ⟨o'+l*ei.size,rfl,?_,?_⟩⟩
             .rw[dQ];have:aw=l+((m-l)+(aw-m)):=by omega
              rw[this,zO,zO] at cX;omega
             .rcases eW with rfl|⟨h0,sO⟩
              .exact .inl rfl
              .exact .inr (by omega)
          .cases h
         .cases h
        .cases h
       .cases h
      .cases h
     .cases h
  .rename_i hu;split at hc
   .rename_i pT;cases mx with
    |some m=>simp at pT
    |none=>simp at hc;subst hc;simp[VOp.quiet] at hq
   .cases hc
  .cases hc
 case call c =>
  split at hc
  .simp at hc;subst hc;simp[VOp.quiet] at hq
  .simp at hc;subst hc;simp[VOp.quiet] at hq
  .split at hc
   .split at hc
    .simp at hc;subst hc;simp[VOp.quiet] at hq
    .simp at hc;subst hc;simp[VOp.quiet] at hq
    .cases hc
   .cases hc
  .rename_i aL;split at hc
   .rename_i t u s x ht pQ aB;split at hc
    .rename_i e f hu ij;cases hi:P.info? e with
     |none=>simp[hi] at hc
     |some ei =>
      cases hz:zeroOf P e with
      |none=>simp[hi,hz] at hc
      |some z =>
       obtain⟨ti,zv,cI,ez,fB,eC,jm⟩:=Y5 hz;obtain rfl:ei=ti:=osj (hi.symm.trans cI);simp only[hi,hz,zT,xt] at hc;split at hc
       .cases hc
       .rename_i aj;simp at aj;obtain⟨ig,s6⟩:=aj;simp at hc;subst hc;have cP:c.args=#[s,x]:=by apply Array.ext';simpa using aB
        simp[Call.operands,aL,cP] at ai;have hs:=hE s ai.1;have hx:=hE x ai.2;have nr:(Builtin.append_ c.argTypes ty #[ev s,ev x])=(Builtin.append_ #[t,u] ty #[ev s,ev x]):=by unfold Builtin.append_;simp[ht,pQ]
        have aS:∀ r w',(Builtin.append_ #[t,u] ty #[ev s,ev x]).run P w=.ok r w'->(execOp ev {dst:=dst,op:=.call c,type:=ty,pos:=pos,after:=after,guard:=guard}).run P w=.ok (.value r) w':=λr w' hr=>by simp[execOp,resolve,aL,cP,invoke,builtin,nr,hr]
        simp only[Qb] at h;split at h
        .rename_i xs a m lz bE nu;rw[nu] at hx;split at h
         .rename_i lB;rw[nu] at bE;exact SM hH hu ij hi ez fB eC s6 ty hs hx bE lB h aS
         .cases h
        .cases h
    .cases hc
   .cases hc
  .split at hc
   .simp at hc;subst hc;simp[VOp.quiet] at hq
   .simp at hc;subst hc;simp[VOp.quiet] at hq
   .simp at hc;subst hc;simp[VOp.quiet] at hq
   .cases hc
  .split at hc
   .simp at hc;subst hc;simp[VOp.quiet] at hq
   .cases hc
  .cases hc
 case move x=>simp at hc;subst hc;simp[VOp.quiet] at hq
 case assign x=>simp at hc;subst hc;simp[VOp.quiet] at hq
 case pick c a b=>simp at hc;subst hc;simp[VOp.quiet] at hq
 case unOp=>simp at hc;subst hc;simp[VOp.quiet] at hq
 case extract=>simp at hc;subst hc;simp[VOp.quiet] at hq
 case nilCheck=>simp at hc;subst hc;simp[VOp.quiet] at hq
 all_goals
  repeat' first
   |(cases hc;done)
   |(simp at hc;subst hc;simp[VOp.quiet] at hq;done)
   |split at hc
 all_goals simp only[zT,xd,reduceCtorEq,and_false,exists_false] at hc
 all_goals first
  |(obtain⟨_,_,rfl⟩:=hc;simp[VOp.quiet] at hq;done)
  |(obtain⟨_,_,hc⟩:=hc;simp at hc;subst hc;simp[VOp.quiet] at hq;done)
  |(obtain⟨_,_,_,_,hc⟩:=hc;simp at hc;subst hc;simp[VOp.quiet] at hq;done)
  |(obtain⟨_,_,_,_,_,_,hc⟩:=hc;simp at hc;subst hc;simp[VOp.quiet] at hq;done)
  |(obtain⟨d,_,hc⟩:=hc;cases d<;>simp at hc<;>subst hc<;>simp[VOp.quiet] at hq;done)
  |(obtain⟨_,_,_,_,hc⟩:=hc;split at hc<;>simp at hc;subst hc;simp[VOp.quiet] at hq;done)
end
end Go.V
namespace Go.V
open Go
section
variable {P:Program}{ρ:Plc}{U U':Heap}{w:World}{ev:Operand->Value}{env:Env}{v:Value}
theorem VRel.q0n {n:Nat}{c:Value}(h:VRel ρ n (.pointer none) c):c=.pointer none:=by cases h;rfl
theorem VRel.q1h {n:Nat}{a:Addr}{c:Value}(h:VRel ρ n (.pointer (some a)) c):∃ b,c=.pointer (some b):=by cases h<;>exact⟨_,rfl⟩
theorem VRel.q0t {n:Nat}{c:Value}(h:VRel ρ n (.map none) c):c=.map none:=by cases h;rfl
theorem VRel.q1i {n:Nat}{m:Nat}{c:Value}(h:VRel ρ n (.map (some m)) c):∃ r,c=.map (some r)/\m<n/\∀ p,ρ m=some p->r=p.blk:=by
 cases h with
 |map _ r hi h=>exact⟨r,rfl,hi,h⟩
theorem VRel.q0z {n:Nat}{c:Value}(h:VRel ρ n .nilFunc c):c=.nilFunc:=by cases h;rfl
theorem VRel.q1o {n:Nat}{f:Fn}{a b:Array Value}{c:Value}(h:VRel ρ n (.func f a b) c):∃ g a' b',c=.func g a' b':=by cases h<;>exact⟨_,_,_,rfl⟩
theorem VRel.q1q {n:Nat}{a:Addr}{l k:Nat}{c:Value}(h:VRel ρ n (.slice (some a) l k) c):∃ b k',c=.slice (some b) l k':=by cases h<;>exact⟨_,_,rfl⟩
theorem VRel.q0y {n:Nat}{l k:Nat}{c:Value}(h:VRel ρ n (.slice none l k) c):c=.slice none 0 0:=by cases h;rfl
theorem AE (neg:Bool) (t:TypeId) (x y:Operand) (yt:TypeId) (ty:TypeId) (pos:String) (after:Array Edge) (dst:Option Tmp) (g:Option (Nat×Bool)) {a b:Value}{r:Bool}(hx:ev x=a) (hy:ev y=b)
  (hg:∀ op w',(eqGuard op t x y a b).run P w'=.ok () w') (h:∀ w',(binOp (if neg then .neq else .eql) t a b).run P w'=.ok (.bool (if neg then !r else r)) w') :
  C8 P ρ U w (.bool (if neg then !r else r)) (execOp ev ⟨dst,.binOp (if neg then .neq else .eql) t x y yt,ty,pos,after,g⟩):=by
 refine Qs (c:=.bool (if neg then !r else r)) (λw'=>?_) (.bool _);simp only[execOp,hx,hy];simp[hg,h]
theorem S2 (op:BinOp) (t:TypeId) (x y:Operand) {a b:Value}(h:(∀ p q,¬ (a=.nilIface/\b=.nilIface)/\¬ (a=.agg p/\b=.agg q))) (w':World):(eqGuard op t x y a b).run P w'=.ok () w':=by
 have key:∀ op,op=.eql\/op=.neq->(eqGuard op t x y a b).run P w'=.ok () w':=by
  intro op ho;unfold eqGuard;rcases ho with rfl|rfl
  all_goals
   simp only[xY,zD,if_false];split
   .exact absurd ⟨rfl,rfl⟩ (h #[] #[]).1
   .rename_i p q;exact absurd ⟨rfl,rfl⟩ (h p q).2
   .rfl
 cases op<;>first|exact key _ (.inl rfl)|exact key _ (.inr rfl)|rfl
theorem Jr {t:TypeId}{a b:Value}{r:Bool}(h:∀ d w',(Op.equalIn (d+1) t a b).run P w'=.ok r w')
  (hb:∀ neg:Bool,binOp (if neg then .neq else .eql) t a b=(do let r <-Op.equal t a b;pure (.bool (if neg then !r else r)))) (neg:Bool) (w':World) :
  (binOp (if neg then .neq else .eql) t a b).run P w'=.ok (.bool (if neg then !r else r)) w':=by
 rw[hb,zA];have:(Op.equal t a b).run P w'=.ok r w':=h 9999 w';rw[this];rfl
theorem F9 {kd:Nat}{t:TypeId}{a b c d:Value}{r:Bool}(hH:HRel ρ U w) (hk:(kd=0/\∃ e i,P.underlying t=some (.pointer e)/\P.info? e=some i)\/(kd=1/\∃ e,P.underlying t=some (.slice e)) \/
   (kd=2/\∃ k e,P.underlying t=some (.map k e))\/(kd=3/\∃ p q s,P.underlying t=some (.func p q s)))
  (ha:VRel ρ U.n a c) (hb:VRel ρ U.n b d) (h:Jp kd a b U=some r):(∀ (neg:Bool) w',(binOp (if neg then .neq else .eql) t c d).run P w'=.ok (.bool (if neg then !r else r)) w')/\(∀ p q,¬ (c=.nilIface/\d=.nilIface)/\¬ (c=.agg p/\d=.agg q)):=by
 unfold Jp at h;split at h
 .obtain rfl:=ha.q0n;obtain rfl:=hb.q0n;simp at h;subst h;rcases hk with⟨_,e,i,h1,h2⟩|⟨h0,_⟩|⟨h0,_⟩|⟨h0,_⟩<;>try (cases h0)
  exact⟨Jr (λd w'=>by simp[Op.equalIn,Q0 h1]) (λneg=>by cases neg<;>rfl),by simp⟩
 .obtain rfl:=ha.q0n;obtain⟨q,rfl⟩:=hb.q1h;simp at h;subst h;rcases hk with⟨_,e,i,h1,h2⟩|⟨h0,_⟩|⟨h0,_⟩|⟨h0,_⟩<;>try (cases h0)
  exact⟨Jr (λd w'=>by simp[Op.equalIn,Q0 h1]) (λneg=>by cases neg<;>rfl),by simp⟩
 .obtain⟨q,rfl⟩:=ha.q1h;obtain rfl:=hb.q0n;simp at h;subst h;rcases hk with⟨_,e,i,h1,h2⟩|⟨h0,_⟩|⟨h0,_⟩|⟨h0,_⟩<;>try (cases h0)
  exact⟨Jr (λd w'=>by simp[Op.equalIn,Q0 h1]) (λneg=>by cases neg<;>rfl),by simp⟩
 .rename_i i o j q;split at h
  .rename_i hc;obtain⟨rfl,rfl,hs⟩:=hc;simp at h;subst h;rcases hk with⟨_,e,i',h1,h2⟩|⟨h0,_⟩|⟨h0,_⟩|⟨h0,_⟩<;>try (cases h0)
   obtain⟨blk,hblk⟩:=Option.isSome_iff_exists.1 hs;obtain⟨p,hp,_⟩:=hH.live _ _ hblk;obtain⟨_,_,rfl⟩:=ha.q0w hp;obtain⟨_,_,rfl⟩:=hb.q0w hp;exact⟨Jr (λd w'=>by simp[Op.equalIn,Q0 h1,sizeOf,typeInfo,h2,run_sameAddr_same]) (λneg=>by cases neg<;>rfl),by simp⟩
  .cases h
 .obtain rfl:=ha.q0y;obtain rfl:=hb.q0y;simp at h;subst h;rcases hk with⟨h0,_⟩|⟨_,e,h1⟩|⟨h0,_⟩|⟨h0,_⟩<;>try (cases h0)
  exact⟨Jr (λd w'=>by simp[Op.equalIn,Q0 h1]) (λneg=>by cases neg<;>rfl),by simp⟩
 .obtain rfl:=ha.q0y;obtain⟨_,_,rfl⟩:=hb.q1q;simp at h;subst h;rcases hk with⟨h0,_⟩|⟨_,e,h1⟩|⟨h0,_⟩|⟨h0,_⟩<;>try (cases h0)
  exact⟨Jr (λd w'=>by simp[Op.equalIn,Q0 h1]) (λneg=>by cases neg<;>rfl),by simp⟩
 .obtain⟨_,_,rfl⟩:=ha.q1q;obtain rfl:=hb.q0y;simp at h;subst h;rcases hk with⟨h0,_⟩|⟨_,e,h1⟩|⟨h0,_⟩|⟨h0,_⟩<;>try (cases h0)
  exact⟨Jr (λd w'=>by simp[Op.equalIn,Q0 h1]) (λneg=>by cases neg<;>rfl),by simp⟩
 .obtain rfl:=ha.q0t;obtain rfl:=hb.q0t;simp at h;subst h;rcases hk with⟨h0,_⟩|⟨h0,_⟩|⟨_,k,e,h1⟩|⟨h0,_⟩<;>try (cases h0)
  exact⟨Jr (λd w'=>by simp[Op.equalIn,Q0 h1]) (λneg=>by cases neg<;>rfl),by simp⟩
 .obtain rfl:=ha.q0t;obtain⟨_,rfl,_⟩:=hb.q1i;simp at h;subst h;rcases hk with⟨h0,_⟩|⟨h0,_⟩|⟨_,k,e,h1⟩|⟨h0,_⟩<;>try (cases h0)
  exact⟨Jr (λd w'=>by simp[Op.equalIn,Q0 h1]) (λneg=>by cases neg<;>rfl),by simp⟩
 .obtain⟨_,rfl,_⟩:=ha.q1i;obtain rfl:=hb.q0t;simp at h;subst h;rcases hk with⟨h0,_⟩|⟨h0,_⟩|⟨_,k,e,h1⟩|⟨h0,_⟩<;>try (cases h0)
  exact⟨Jr (λd w'=>by simp[Op.equalIn,Q0 h1]) (λneg=>by cases neg<;>rfl),by simp⟩
 .obtain rfl:=ha.q0z;obtain rfl:=hb.q0z;simp at h;subst h;rcases hk with⟨h0,_⟩|⟨h0,_⟩|⟨h0,_⟩|⟨_,p,q,s,h1⟩<;>try (cases h0)
  exact⟨Jr (λd w'=>by simp[Op.equalIn,Q0 h1]) (λneg=>by cases neg<;>rfl),by simp⟩
 .obtain rfl:=ha.q0z;obtain⟨_,_,_,rfl⟩:=hb.q1o;simp at h;subst h;rcases hk with⟨h0,_⟩|⟨h0,_⟩|⟨h0,_⟩|⟨_,p,q,s,h1⟩<;>try (cases h0)
  exact⟨Jr (λd w'=>by simp[Op.equalIn,Q0 h1]) (λneg=>by cases neg<;>rfl),by simp⟩
 .obtain⟨_,_,_,rfl⟩:=ha.q1o;obtain rfl:=hb.q0z;simp at h;subst h;rcases hk with⟨h0,_⟩|⟨h0,_⟩|⟨h0,_⟩|⟨_,p,q,s,h1⟩<;>try (cases h0)
  exact⟨Jr (λd w'=>by simp[Op.equalIn,Q0 h1]) (λneg=>by cases neg<;>rfl),by simp⟩
 .cases h
def Z0l (ρ:Plc) (n:Nat) (e:MapEntry) (kv:JD):Prop:=e.key=kv.1/\e.born=kv.2.2/\VRel ρ n kv.2.1 e.val
def LERel (ρ:Plc) (n:Nat) (E:List MapEntry) (es:List JD):Prop:=E.length=es.length/\∀ (k:Nat) (e:MapEntry) (kv:JD),E[k]?=some e->es[k]?=some kv->Z0l ρ n e kv
theorem LERel.cons_inv {n:Nat}{E:List MapEntry}{es:List JD}{kv:JD}(h:LERel ρ n E (kv::es)):∃ e E',E=e::E'/\Z0l ρ n e kv/\LERel ρ n E' es:=by
 cases E with
 |nil=>have:=h.1;simp at this
 |cons e E'=>exact⟨e,E',rfl,h.2 0 e kv rfl rfl,by have:=h.1;simpa using this,λk a b ha hb=>h.2 (k+1) a b (by simpa using ha) (by simpa using hb)⟩
theorem ORel.q0p {n:Nat}{es:List JD}{clock:Nat}{O:Obj}:ORel ρ n (.map es clock) O<->∃ entries,O=.map entries clock/\LERel ρ n entries.toList es:=by
 constructor
 .rintro⟨entries,h1,h2,h3⟩;refine⟨entries,h1,by simpa using h2,λk e kv he dz=>?_⟩;obtain⟨e',h4,h5,h6,h7⟩:=h3 k kv dz;have:e=e':=by
   rw[Array.getElem?_toList] at he;exact osj (he.symm.trans h4)
  subst this;exact⟨h5,h6,h7⟩
 .rintro⟨entries,h1,h2,h3⟩;refine⟨entries,h1,by simpa using h2,λk kv dz=>?_⟩;have hk:k<es.length:=(zg.1 dz).1;have na:k<entries.toList.length:=by omega
  obtain⟨h4,h5,h6⟩:=h3 k entries.toList[k] kv (z6 na) dz;exact⟨entries.toList[k],by rw[<-Array.getElem?_toList];exact z6 na,h4,h5,h6⟩
theorem XJ:∀ {s:List MK}{l:List Value},fits s l=true->l.length=s.length
 |[],[],_=>rfl
 |_::s,_::l,h=>by simp only[fits,z8] at h;simp[XJ h.2]
 |[],_::_,h=>by cases h
 |_::_,[],h=>by cases h
theorem VZ:∀ {s r:List MK}{l:List Value},fits (s++r) l=true->fits s (l.take s.length)=true/\fits r (l.drop s.length)=true
 |[],r,l,h=>by simpa [fits] using h
 |k::s,r,[],h=>by cases h
 |k::s,r,v::l,h=>by simp only[xF,fits,z8] at h;obtain⟨h1,h2⟩:=VZ h.2;simp only[zS,wu,wC,fits,z8];exact⟨⟨h.1,h1⟩,h2⟩
theorem Nz:∀ (n:Nat) (l m:List Value),l.length=m.length->Qt l m=(Qt (l.take n) (m.take n)&&Qt (l.drop n) (m.drop n))
 |0,l,m,_=>by simp[Qt]
 |n+1,[],[],_=>by simp[Qt]
 |n+1,a::l,b::m,h=>by simp only[Qt,wu,wC];rw[Nz n l m (by simpa using h),Bool.and_assoc]
 |n+1,[],_::_,h=>by simp at h
 |n+1,_::_,[],h=>by simp at h
def mkT (P:Program) (t:TypeId) (cs:List Value):Value:=match P.underlying t with
 |some (.struct _)=>.agg cs.toArray
 |some (.array _ _)=>.agg cs.toArray
 |_=>cs.headD undef
theorem Md {m:Nat}{t:TypeId}{s:List MK}(hs:shp P m t=some s) (hc:P.cellsOf t=s.length) {xs:Array Value}{off:Nat}(hf:fits s ((xs.toList.drop off).take s.length)=true) (w:World) :
  (part t xs off).run P w=.ok (mkT P t ((xs.toList.drop off).take s.length)) w:=by
 cases m with
 |zero=>simp[shp] at hs
 |succ m =>
  simp only[shp] at hs;have plain:∀ kd,P.underlying t=some kd->(∀ n e,kd≠.array n e)->(∀ fs,kd≠.struct fs)->s.length=1->(part t xs off).run P w=.ok (mkT P t ((xs.toList.drop off).take s.length)) w:=λkd hu h1 h2 h3=>by
   have hl:=XJ hf;rw[h3] at hl |-;have ah:off<xs.size:=by rw[wg,wm] at hl;simp at hl;omega
   have e:(xs.toList.drop off).take 1=[xs[off]]:=by rw[wc (by simpa using ah)];simp
   rw[e];have:mkT P t [xs[off]]=xs[off]:=by
    unfold mkT;split
    .rename_i fs cD;rw[hu] at cD;exact absurd (osj cD) (h2 _)
    .rename_i n e cD;rw[hu] at cD;exact absurd (osj cD) (h1 _ _)
    .rfl
   rw[this];cases kd<;>first|(exact absurd rfl (h1 _ _))|(exact absurd rfl (h2 _))|simp[part,isAgg,run_underlying hu,x7 ah]
  have agg:∀ kd,P.underlying t=some kd->((∃ n e,kd=.array n e)\/∃ fs,kd=.struct fs)->(part t xs off).run P w=.ok (mkT P t ((xs.toList.drop off).take s.length)) w:=λkd hu hk=>by
   obtain⟨i,hi⟩:=info_of_underlying hu;have hl:(xs.extract off (off+P.cellsOf t))=((xs.toList.drop off).take s.length).toArray:=by apply Array.toList_inj.1;rw[Array.toList_extract,hc];simp[List.extract]
   rcases hk with⟨n,e,rfl⟩|⟨fs,rfl⟩<;>simp[part,isAgg,run_underlying hu,run_sizeOf w hi,hl,mkT,hu]
  cases hu:P.underlying t with
  |none=>rw[hu] at hs;cases hs
  |some kd =>
   rw[hu] at hs;cases kd
   case bool=>obtain rfl:=osj hs;exact plain _ hu (by simp) (by simp) rfl
   case int q=>obtain rfl:=osj hs;exact plain _ hu (by simp) (by simp) rfl
   case string=>obtain rfl:=osj hs;exact plain _ hu (by simp) (by simp) rfl
   case array n e=>exact agg _ hu (.inl ⟨_,_,rfl⟩)
   case struct fs=>exact agg _ hu (.inr ⟨_,rfl⟩)
   all_goals cases hs
theorem A6 {g:TypeId->Option (List MK)}{m d:Nat}(hg:g=shp P m) (ih:∀ t s,shp P m t=some s->∀ (w:World) (cs ds:List Value),fits s cs=true->fits s ds=true->(Op.equalIn (d+m) t (mkT P t cs) (mkT P t ds)).run P w=.ok (Qt cs ds) w) {xs ys:Array Value}(w:World) :
  ∀ (fs:List Field) (off:Nat) (ss:List MK),CM P g fs off=some ss->fits ss (xs.toList.drop off)=true->fits ss (ys.toList.drop off)=true->(Op.eqFields (d+m) xs ys fs).run P w=.ok (Qt (xs.toList.drop off) (ys.toList.drop off)) w
 |[],off,ss,h,h1,h2=>by simp only[CM,xi] at h;subst h;have e1:=XJ h1;have e2:=XJ h2;rw[List.eq_nil_of_length_eq_zero e1];simp[Op.eqFields,Qt]
 |f::r,off,ss,h,h1,h2=>by
  simp only[CM] at h;split at h
  .rename_i hn;obtain⟨hn,rfl⟩:=hn;split at h
   .rename_i s hs;split at h
    .rename_i hc;obtain⟨q,hq,rfl⟩:=zw.1 h;obtain⟨a1,a2⟩:=VZ h1;obtain⟨b1,b2⟩:=VZ h2;rw[List.drop_drop] at a2 b2;rw[hg] at hs;have p1:=Md hs hc a1 w;have p2:=Md hs hc b1 w;have p3:=ih f.type s hs w _ _ a1 b1;have hr:=A6 hg ih w r (f.offset+s.length) q hq a2 b2;rw[Nz s.length _ _ (by rw[XJ h1,XJ h2]),List.drop_drop,List.drop_drop];simp only[Op.eqFields,hn,ne_eq,not_false_eq_true,zI,zA,p1,p2,p3,zj];cases hb:Qt (List.take s.length (List.drop f.offset xs.toList)) (List.take s.length (List.drop f.offset ys.toList)) with
     |false=>simp
     |true=>simpa using hr
    .cases h
   .cases h
  .cases h
theorem P3 {m d:Nat}{e:TypeId}{s:List MK}(hs:shp P m e=some s) (hc:P.cellsOf e=s.length) (ih:∀ (w:World) (cs ds:List Value),fits s cs=true->fits s ds=true->(Op.equalIn (d+m) e (mkT P e cs) (mkT P e ds)).run P w=.ok (Qt cs ds) w) {xs ys:Array Value}(w:World) :
  ∀ (k i:Nat),fits (List.replicate k s).flatten (xs.toList.drop (i*s.length))=true->fits (List.replicate k s).flatten (ys.toList.drop (i*s.length))=true->(Op.eqItems (d+m) e (P.cellsOf e) xs ys (List.range' i k)).run P w=.ok (Qt (xs.toList.drop (i*s.length)) (ys.toList.drop (i*s.length))) w
 |0,i,h1,h2=>by have e1:=XJ h1;have e2:=XJ h2;simp only[List.replicate_zero,List.flatten_nil,List.length_nil] at e1 e2;rw[List.eq_nil_of_length_eq_zero e1];simp[Op.eqItems,Qt]
 |k+1,i,h1,h2=>by
  rw[xC,List.flatten_cons] at h1 h2;obtain⟨a1,a2⟩:=VZ h1;obtain⟨b1,b2⟩:=VZ h2;rw[List.drop_drop,<-Nat.succ_mul] at a2 b2;have p1:=Md hs hc a1 w;have p2:=Md hs hc b1 w;have p3:=ih w _ _ a1 b1;have hr:=P3 hs hc ih w k (i+1) a2 b2;rw[Nz s.length _ _ (by rw[XJ h1,XJ h2]),List.drop_drop,List.drop_drop,<-Nat.succ_mul];rw[hc] at hr |-;simp only[List.range'_succ,Op.eqItems,zA,p1,p2,p3,zj];cases hb:Qt (List.take s.length (List.drop (i*s.length) xs.toList)) (List.take s.length (List.drop (i*s.length) ys.toList)) with
  |false=>simp
  |true=>simpa using hr
theorem VS (d:Nat):∀ (m:Nat) (t:TypeId) (s:List MK),shp P m t=some s->∀ (w:World) (cs ds:List Value),fits s cs=true->fits s ds=true->(Op.equalIn (d+m) t (mkT P t cs) (mkT P t ds)).run P w=.ok (Qt cs ds) w
 |0,t,s,h=>by simp[shp] at h
 |m+1,t,s,h=>by
  intro w cs ds h1 h2;simp only[shp] at h;have one:∀ {k:MK}{cs:List Value},fits [k] cs=true->∃ a,cs=[a]/\Eg k a=true:=λ{k cs} h=>by
   cases cs with
   |nil=>cases h
   |cons a l =>
    cases l with
    |nil=>exact⟨a,rfl,by simpa [fits] using h⟩
    |cons b l=>simp[fits] at h
  cases hu:P.underlying t with
  |none=>rw[hu] at h;cases h
  |some kd =>
   rw[hu] at h;cases kd
   case bool =>
    obtain rfl:=osj h;obtain⟨a,rfl,ha⟩:=one h1;obtain⟨b,rfl,hb⟩:=one h2;cases a<;>first|(cases ha;done)|skip
    cases b<;>first|(cases hb;done)|skip
    simp only[mkT,hu,List.headD_cons,Qt,Ki,xT];exact run_equalIn_bool' w (d+m) t _ _ hu
   case int q =>
    obtain rfl:=osj h;obtain⟨a,rfl,ha⟩:=one h1;obtain⟨b,rfl,hb⟩:=one h2;cases a<;>first|(cases ha;done)|skip
    cases b<;>first|(cases hb;done)|skip
    simp only[Eg,zC] at ha hb;subst ha;subst hb;simp only[mkT,hu,List.headD_cons,Qt,Ki,xT];exact run_equalIn_int w (d+m) t _ _ _ _ hu
   case string =>
    obtain rfl:=osj h;obtain⟨a,rfl,ha⟩:=one h1;obtain⟨b,rfl,hb⟩:=one h2;cases a<;>first|(cases ha;done)|skip
    cases b<;>first|(cases hb;done)|skip
    simp only[mkT,hu,List.headD_cons,Qt,Ki,xT];rw[<-ByteArray.toList_eq,<-ByteArray.toList_eq];exact run_equalIn_string w (d+m) t _ _ hu
   case array n e =>
    simp only at h;split at h
    .rename_i s' a8;split at h
     .rename_i hc;obtain rfl:=osj h;obtain⟨i,hi⟩:∃ i,P.info? e=some i:=by
       cases m with
       |zero=>simp[shp] at a8
       |succ m =>
        simp only[shp] at a8;cases jH:P.underlying e with
        |none=>rw[jH] at a8;cases a8
        |some _=>exact info_of_underlying jH
      simp only[mkT,hu];rw[show d+(m+1)=(d+m)+1 from rfl,run_equalIn_array w (d+m) _ _ hu hi,List.range_eq_range'];have:=P3 (d:=d) a8 hc (VS d m e s' a8) (xs:=cs.toArray) (ys:=ds.toArray) w n 0 (by simpa using h1) (by simpa using h2);simpa using this
     .cases h
    .cases h
   case struct fs =>
    simp only at h;split at h
    .cases h
    .rename_i bk;have pg:P.fieldsOf t=fs:=by simp[Program.fieldsOf,hu]
     simp only[mkT,hu];rw[show d+(m+1)=(d+m)+1 from rfl,run_equalIn_struct w (d+m) t _ _ (by rw[pg];exact hu) (by simpa using bk),pg];have:=A6 (d:=d) rfl (VS d m) (xs:=cs.toArray) (ys:=ds.toArray) w fs.toList 0 s h (by simpa using h1) (by simpa using h2);simpa using this
   all_goals cases h
theorem Ha {n:Nat}:∀ {s:List MK}{l m:List Value},fits s l=true->LRel ρ n l m->m=l
 |[],[],m,_,hr=>by have:=hr.1;cases m with|nil=>rfl|cons=>simp at this
 |k::s,v::l,[],_,hr=>by have:=hr.1;simp at this
 |k::s,v::l,c::m,h,hr=>by
  simp only[fits,z8] at h;have h0:=hr.2 0 v c rfl rfl;have e:c=v:=by cases k<;>cases v<;>first|(cases h.1;done)|(cases h0;rfl)
  have lC:LRel ρ n l m:=⟨by have:=hr.1;simpa using this,λi a b ha hb=>hr.2 (i+1) a b (by simpa using ha) (by simpa using hb)⟩;rw[e,Ha h.2 lC]
 |[],_::_,_,h,_=>by cases h
 |_::_,[],_,h,_=>by cases h
def Q1w (P:Program) (t:TypeId):MK->TypeDesc->Prop
 |.int k,d=>d=.int k
 |.string,d=>d=.string
 |.bool,d=>d=.bool
 |.agg s,d=>shp P 8 t=some s/\((∃ fs,d=.struct fs)\/∃ n e,d=.array n e)
theorem Nt {t:TypeId}{mk:MK}(h:Lx P t=some mk):∃ d,P.underlying t=some d/\Q1w P t mk d:=by
 unfold Lx at h;split at h
 .rename_i k hk;simp at h;subst h;exact⟨_,hk,rfl⟩
 .rename_i hk;simp at h;subst h;exact⟨_,hk,rfl⟩
 .rename_i hk;simp at h;subst h;exact⟨_,hk,rfl⟩
 .rename_i fs hk;obtain⟨s,hs,rfl⟩:=zw.1 h;exact⟨_,hk,hs,.inl ⟨fs,rfl⟩⟩
 .rename_i n e hk;obtain⟨s,hs,rfl⟩:=zw.1 h;exact⟨_,hk,hs,.inr ⟨n,e,rfl⟩⟩
 .cases h
theorem Y9 {n:Nat}{v c:Value}(h:QM v=true) (hv:VRel ρ n v c):c=v:=by cases hv<;>first|rfl|(simp[QM,poison] at h)
theorem PT {mk:MK}{k c:Value}{n:Nat}(h:ZC mk k=true) (hv:VRel ρ n k c):c=k:=by
 unfold ZC at h;split at h<;>first|(cases h;done)|(exact Y9 rfl hv)|skip
 obtain⟨ds,rfl,hl⟩:=hv.q1k;have:=Ha h hl;congr 1;exact Array.toList_inj.1 this
def MK.plain:MK->Bool
 |.agg _=>false
 |_=>true
theorem Ef {mk:MK}(hp:mk.plain=true) {t:TypeId}{d:TypeDesc}(hd:Q1w P t mk d) {a b:Value}(ha:ZC mk a=true) (hb:ZC mk b=true):Instr.sameNow d a b=some (XN a b):=by
 cases mk
 case agg=>cases hp
 all_goals
  cases a<;>first|(cases ha;done)|skip
  cases b<;>first|(cases hb;done)|skip
  simp only[Q1w] at hd;subst hd
 .simp[ZC] at ha hb;subst ha;subst hb;simp[Instr.sameNow,XN]
 .simp[Instr.sameNow,XN,beq_toListBytes,ByteArray.toList_eq]
 .simp[Instr.sameNow,XN]
theorem Rk:∀ {s:List MK}{l m:List Value},fits s l=true->fits s m=true->Qt l m=true->((m.zip l).all λp=>Instr.sameBits 9999 p.1 p.2)=true
 |[],[],[],_,_,_=>rfl
 |k::s,a::l,b::m,h1,h2,h3=>by
  simp only[fits,Qt,z8] at h1 h2 h3;simp only[List.zip_cons_cons,zZ,z8];refine⟨?_,Rk h1.2 h2.2 h3.2⟩;obtain⟨h1,_⟩:=h1;obtain⟨h2,_⟩:=h2;obtain⟨h3,_⟩:=h3;cases k<;>cases a<;>first|(cases h1;done)|(cases b<;>first|(cases h2;done)|skip)
  .simp only[Eg,zC] at h1 h2;subst h1;subst h2;simp only[Ki,z_] at h3;subst h3;simp[Instr.sameBits]
  .simp only[Ki,z_] at h3;simp[Instr.sameBits,beq_toListBytes,ByteArray.toList_eq,h3]
  .simp only[Ki,z_] at h3;subst h3;simp[Instr.sameBits]
 |[],_::_,_,h,_,_=>by cases h
 |[],[],_::_,_,h,_=>by cases h
 |_::_,[],_,h,_,_=>by cases h
 |_::_,_::_,[],_,h,_=>by cases h
theorem Gc {mk:MK}{a b:Value}(ha:ZC mk a=true) (hb:ZC mk b=true) (h:XN a b=true):Instr.sameBits 10000 b a=true:=by
 cases mk
 case agg s =>
  cases a<;>first|(cases ha;done)|skip
  cases b<;>first|(cases hb;done)|skip
  rename_i x y;simp only[ZC] at ha hb;simp only[XN] at h;simp only[Instr.sameBits,z8,z_];have h1:=XJ ha;have h2:=XJ hb;exact⟨by simp at h1 h2;omega,Rk ha hb h⟩
 all_goals
  cases a<;>first|(cases ha;done)|skip
  cases b<;>first|(cases hb;done)|skip
 .simp[ZC] at ha hb;subst ha;subst hb;simp[XN] at h;subst h;simp[Instr.sameBits]
 .simp[XN] at h;simp[Instr.sameBits,beq_toListBytes,ByteArray.toList_eq,h]
 .simp[XN] at h;simp[Instr.sameBits,h]
theorem YP {t:TypeId}{d:TypeDesc}(hd:P.underlying t=some d) {a:Value}(hm:(∃ k,d=.int k)\/d=.string\/d=.bool) (e:Bool) (n:Nat) (w':World):(Instr.checkKey e (n+1) t a).run P w'=.ok () w':=by simp only[Instr.checkKey,zA,Q0 hd,zj];rcases hm with⟨k,rfl⟩|rfl|rfl<;>rfl
theorem Ac {e:Bool}{g:TypeId->Option (List MK)}{m d:Nat}(hg:g=shp P m) (ih:∀ t s,shp P m t=some s->∀ (w:World) (cs:List Value),fits s cs=true->(Instr.checkKey e (d+m) t (mkT P t cs)).run P w=.ok () w) {xs:Array Value}(w:World) :
  ∀ (fs:List Field) (off:Nat) (ss:List MK),CM P g fs off=some ss->fits ss (xs.toList.drop off)=true->(forIn fs PUnit.unit λf (_:PUnit)=>(do
   if f.name≠"_" then Instr.checkKey e (d+m) f.type (<-part f.type xs f.offset)
   pure (ForInStep.yield PUnit.unit):Sem (ForInStep PUnit))).run P w=.ok PUnit.unit w
 |[],off,ss,h,h1=>by simp
 |f::r,off,ss,h,h1=>by
  simp only[CM] at h;split at h
  .rename_i hn;obtain⟨hn,rfl⟩:=hn;split at h
   .rename_i s hs;split at h
    .rename_i hc;obtain⟨q,hq,rfl⟩:=zw.1 h;obtain⟨a1,a2⟩:=VZ h1;rw[List.drop_drop] at a2;rw[hg] at hs;have p1:=Md hs hc a1 w;have p3:=ih f.type s hs w _ a1;have hr:=Ac hg ih w r (f.offset+s.length) q hq a2;simp only[List.forIn_cons,zA,hn,ne_eq,not_false_eq_true,zI,zj,p1,p3,xe];exact hr
    .cases h
   .cases h
  .cases h
theorem PS (e:Bool) (d:Nat):∀ (m:Nat) (t:TypeId) (s:List MK),shp P m t=some s->∀ (w:World) (cs:List Value),fits s cs=true->(Instr.checkKey e (d+m) t (mkT P t cs)).run P w=.ok () w
 |0,t,s,h=>by simp[shp] at h
 |m+1,t,s,h=>by
  intro w cs h1;simp only[shp] at h;cases hu:P.underlying t with
  |none=>rw[hu] at h;cases h
  |some kd =>
   rw[hu] at h;cases kd
   case bool=>rw[show d+(m+1)=(d+m)+1 from rfl];exact YP hu (by simp) e (d+m) w
   case int q=>rw[show d+(m+1)=(d+m)+1 from rfl];exact YP hu (by simp) e (d+m) w
   case string=>rw[show d+(m+1)=(d+m)+1 from rfl];exact YP hu (by simp) e (d+m) w
   case array n el =>
    simp only at h;split at h
    .rename_i s' a8;split at h
     .rename_i hc;obtain rfl:=osj h;obtain⟨i,hi⟩:∃ i,P.info? el=some i:=by
       cases m with
       |zero=>simp[shp] at a8
       |succ m =>
        simp only[shp] at a8;cases jH:P.underlying el with
        |none=>rw[jH] at a8;cases a8
        |some _=>exact info_of_underlying jH
      simp only[mkT,hu];rw[show d+(m+1)=(d+m)+1 from rfl,Instr.checkKey];simp only[zA,run_underlying hu,zj];simp only[Std.Legacy.Range.forIn_eq_forIn_range',Std.Legacy.Range.size,Nat.sub_zero,Nat.add_one_sub_one,Nat.div_one]
      have key:∀ (k i:Nat),fits (List.replicate k s').flatten (cs.drop (i*s'.length))=true->(forIn (List.range' i k) PUnit.unit λi (_:PUnit)=>(do
        Instr.checkKey e (d+m) el (<-part el cs.toArray (i*(<-sizeOf el)))
        pure (ForInStep.yield PUnit.unit):Sem (ForInStep PUnit))).run P w=.ok PUnit.unit w:=by
       intro k;induction k with
       |zero=>intro i _;simp
       |succ k s7 =>intro i hf;rw[xC,List.flatten_cons] at hf;obtain⟨a1,a2⟩:=VZ hf;rw[List.drop_drop,<-Nat.succ_mul] at a2;have p1:=Md (xs:=cs.toArray) (off:=i*s'.length) a8 hc (by simpa using a1) w;have p2:=PS e d m el s' a8 w _ a1;have hr:=s7 (i+1) a2;simp only[List.range'_succ,List.forIn_cons,zA,run_sizeOf w hi,hc,zj,p1,p2,xe];exact hr
      have:=key n 0 (by simpa using h1);simp at this |-;rw[this];rfl
     .cases h
    .cases h
   case struct fs =>
    simp only at h;split at h
    .cases h
    .simp only[mkT,hu];rw[show d+(m+1)=(d+m)+1 from rfl,Instr.checkKey];simp only[zA,run_underlying hu,zj];rw[<-Array.forIn_toList];have:=Ac (e:=e) (d:=d) rfl (PS e d m) (xs:=cs.toArray) w fs.toList 0 s h (by simpa using h1);simp at this |-;rw[this];rfl
   all_goals cases h
theorem CR {t:TypeId}{d:TypeDesc}(hd:P.underlying t=some d) (hk:(∃ fs,d=.struct fs)\/∃ n e,d=.array n e) (a:Array Value):mkT P t a.toList=.agg a:=by unfold mkT;rcases hk with⟨fs,rfl⟩|⟨n,e,rfl⟩<;>simp[hd]
theorem ZF {mk:MK}{t:TypeId}{d:TypeDesc}(hd:P.underlying t=some d) (hm:Q1w P t mk d) {a:Value}(ha:ZC mk a=true) (e:Bool) (w':World):(Instr.checkKey e 10000 t a).run P w'=.ok () w':=by
 cases mk
 case agg s =>
  cases a<;>first|(cases ha;done)|skip
  rename_i x;have:=PS (P:=P) e 9992 8 t s hm.1 w' x.toList ha;rw[CR hd hm.2] at this;exact this
 all_goals (cases a<;>first|(cases ha;done)|(simp only[Q1w] at hm;subst hm;exact YP hd (by simp) e 9999 w'))
theorem Fl {mk:MK}(hp:mk.plain=true) {t:TypeId}{d:TypeDesc}(hd:Q1w P t mk d) {k:Value}(hk:ZC mk k=true) (nv:Value) (c:Nat) {n:Nat}:∀ (es:List JD) (E:List MapEntry) (i:Nat),LERel ρ n E es->es.all (λe=>ZC mk e.1)=true ->
  (Qp k es=none/\Instr.findNow d k E i=some none/\QC k nv c es=(es++[(k,nv,c)],c+1)) \/
  (∃ j e e',Qp k es=some e/\es[j]?=some e/\E[j]?=some e'/\Instr.findNow d k E i=some (some (i+j,e'.val))/\XN k e.1=true/\QC k nv c es=(es.set j (k,nv,e.2.2),c)):=by
 intro es;induction es with
 |nil =>
  intro E i hE _;have:E=[]:=by have:=hE.1;simpa using this
  subst this;exact .inl ⟨rfl,rfl,rfl⟩
 |cons kv es ih =>
  intro E i hE ae;obtain⟨e,E',rfl,he,b6⟩:=hE.cons_inv;simp only[zZ,z8] at ae;have hs:Instr.sameNow d k e.key=some (XN k kv.1):=by rw[he.1];exact Ef hp hd hk ae.1
  cases hq:XN k kv.1 with
  |true =>refine .inr ⟨0,kv,e,by simp[Qp,hq],rfl,rfl,?_,hq,by simp[QC,hq]⟩;simp[Instr.findNow,hs,hq]
  |false =>
   rcases ih E' (i+1) b6 ae.2 with⟨h1,h2,h3⟩|⟨j,a,a',h1,h2,h3,h4,h5,h6⟩
   .refine .inl ⟨by simp[Qp,hq,h1],by simp[Instr.findNow,hs,hq,h2],by simp[QC,hq,h3]⟩
   .refine .inr ⟨j+1,a,a',by simp[Qp,hq,h1],by simpa using h2,by simpa using h3,?_,h5,by simp[QC,hq,h6]⟩;simp[Instr.findNow,hs,hq,h4];omega
theorem Ge {t:TypeId}{d:TypeDesc}(hd:P.underlying t=some d) {k:Value}{E:List MapEntry}{r:Option (Nat×Value)}(h:Instr.findNow d k E 0=some r) (w':World):(Instr.findKey t k E).run P w'=.ok r w':=by simp[Instr.findKey,Q0 hd,h]
theorem Fh {s:List MK}{t:TypeId}{d:TypeDesc}(hu:P.underlying t=some d) (hd:Q1w P t (.agg s) d) {k:Value}(hk:ZC (.agg s) k=true) (nv:Value) (c:Nat) {n:Nat}:∀ (es:List JD) (E:List MapEntry) (i:Nat),LERel ρ n E es->es.all (λe=>ZC (.agg s) e.1)=true ->
  (Qp k es=none/\(∀ w',(Instr.findAsking t k E i).run P w'=.ok none w')/\QC k nv c es=(es++[(k,nv,c)],c+1)) \/
  (∃ j e e',Qp k es=some e/\es[j]?=some e/\E[j]?=some e'/\(∀ w',(Instr.findAsking t k E i).run P w'=.ok (some (i+j,e'.val)) w')/\XN k e.1=true/\QC k nv c es=(es.set j (k,nv,e.2.2),c)):=by
 intro es;induction es with
 |nil =>
  intro E i hE _;have:E=[]:=by have:=hE.1;simpa using this
  subst this;exact .inl ⟨rfl,λw'=>by simp[Instr.findAsking],rfl⟩
 |cons kv es ih =>
  intro E i hE ae;obtain⟨e,E',rfl,he,b6⟩:=hE.cons_inv;simp only[zZ,z8] at ae;have hs:∀ w',(Op.equal t k e.key).run P w'=.ok (XN k kv.1) w':=λw'=>by
   rw[he.1];have h1:=ae.1;cases k<;>first|(cases hk;done)|skip
   rename_i x;generalize dz:kv.1=y at h1 |-;cases y<;>first|(cases h1;done)|skip
   rename_i y;have:=VS 9992 8 t s hd.1 w' x.toList y.toList hk h1;rw[CR hu hd.2,CR hu hd.2] at this;exact this
  cases hq:XN k kv.1 with
  |true =>refine .inr ⟨0,kv,e,by simp[Qp,hq],rfl,rfl,λw'=>?_,hq,by simp[QC,hq]⟩;simp[Instr.findAsking,hs,hq]
  |false =>
   rcases ih E' (i+1) b6 ae.2 with⟨h1,h2,h3⟩|⟨j,a,a',h1,h2,h3,h4,h5,h6⟩
   .refine .inl ⟨by simp[Qp,hq,h1],λw'=>by simp[Instr.findAsking,hs,hq,h2],by simp[QC,hq,h3]⟩
   .refine .inr ⟨j+1,a,a',by simp[Qp,hq,h1],by simpa using h2,by simpa using h3,λw'=>?_,h5,by simp[QC,hq,h6]⟩;simp[Instr.findAsking,hs,hq,h4];omega
theorem CE {t:TypeId}{s:List MK}{d:TypeDesc}(hd:Q1w P t (.agg s) d) {k:Value}{e:MapEntry}{E:List MapEntry}{i:Nat}:Instr.findNow d k (e::E) i=none:=by rcases hd.2 with⟨fs,rfl⟩|⟨n,el,rfl⟩<;>simp[Instr.findNow,Instr.sameNow]
theorem K0 {mk:MK}{t:TypeId}{d:TypeDesc}(hu:P.underlying t=some d) (hd:Q1w P t mk d) {k:Value}(hk:ZC mk k=true) (nv:Value) (c:Nat) {n:Nat}(es:List JD) (E:List MapEntry) (hE:LERel ρ n E es) (ae:es.all (λe=>ZC mk e.1)=true) :
  (Qp k es=none/\(∀ w',(Instr.findKey t k E).run P w'=.ok none w')/\QC k nv c es=(es++[(k,nv,c)],c+1)) \/
  (∃ j e e',Qp k es=some e/\es[j]?=some e/\E[j]?=some e'/\(∀ w',(Instr.findKey t k E).run P w'=.ok (some (0+j,e'.val)) w')/\XN k e.1=true/\QC k nv c es=(es.set j (k,nv,e.2.2),c)):=by
 cases hp:mk.plain with
 |true =>
  rcases Fl hp hd hk nv c es E 0 hE ae with⟨h1,h2,h3⟩|⟨j,a,a',h1,h2,h3,h4,h5,h6⟩
  .exact .inl ⟨h1,Ge hu h2,h3⟩
  .exact .inr ⟨j,a,a',h1,h2,h3,Ge hu h4,h5,h6⟩
 |false =>
  cases mk with
  |agg s =>
   have e1:∀ w',(Instr.findKey t k E).run P w'=(Instr.findAsking t k E 0).run P w':=λw'=>by
    cases E with
    |nil=>simp[Instr.findKey,Q0 hu,Instr.findNow,Instr.findAsking]
    |cons e E=>simp[Instr.findKey,Q0 hu,CE hd]
   rcases Fh hu hd hk nv c es E 0 hE ae with⟨h1,h2,h3⟩|⟨j,a,a',h1,h2,h3,h4,h5,h6⟩
   .exact .inl ⟨h1,λw'=>by rw[e1];exact h2 w',h3⟩
   .exact .inr ⟨j,a,a',h1,h2,h3,λw'=>by rw[e1];exact h4 w',h5,h6⟩
  |_=>cases hp
theorem Xy {m:Nat}{es:List JD}{clock:Nat}{wr:Bool}(h:U.mapAt m=some (es,clock,wr)):U.get m=some (.obj (.map es clock) wr):=by
 unfold Heap.mapAt at h;split at h
 .rename_i he;simp at h;obtain⟨rfl,rfl,rfl⟩:=h;exact he
 .cases h
theorem XI (hH:HRel ρ U w) {m:Nat}{es:List JD}{clock:Nat}{wr:Bool}(h:U.mapAt m=some (es,clock,wr)) {c:Value}(hv:VRel ρ U.n (.map (some m)) c) :
  ∃ p entries,c=.map (some p.blk)/\ρ m=some p/\w.heap[p.blk]?=some (.map entries clock)/\LERel ρ U.n entries.toList es:=by
 obtain⟨p,hp,_,O,h1,h2⟩:=hH.live m _ (Xy h);obtain⟨entries,rfl,h3⟩:=ORel.q0p.1 h2;obtain⟨r,rfl,_,hr⟩:=hv.q1i;exact⟨p,entries,by rw[hr p hp],hp,h1,h3⟩
theorem QG {w':World}{r:Nat}{O:Obj}(h:w'.heap[r]?=some O) (hc:∀ c e f,O≠.cells c e f):(getObj r).run P w'=.ok O w':=by cases O<;>first|(exact absurd rfl (hc _ _ _))|simp[getObj,Sem.run,h]
theorem Z2 {w':World}{r:Nat}{O O':Obj}(h:w'.heap[r]?=some O) (hc:∀ c e f,O≠.cells c e f):(setObj r O').run P w'=.ok () (Pb w' r O'):=by cases O<;>first|(exact absurd rfl (hc _ _ _))|simp[setObj,Sem.run,h,Pb]
theorem Rc {xs:List Value}{s:ByteArray}(h:BI xs=some s):∃ ns:List Int,xs=ns.map (Value.int .u8)/\s=⟨(ns.map λn=>n.toNat.toUInt8).toArray⟩:=by
 unfold BI at h;rw[zw] at h;obtain⟨bs,h1,rfl⟩:=h;have key:∀ (xs:List Value) (bs:List UInt8),xs.mapM Cm=some bs->∃ ns:List Int,xs=ns.map (Value.int .u8)/\bs=ns.map λn=>n.toNat.toUInt8:=by
  intro xs;induction xs with
  |nil=>intro bs h;simp at h;subst h;exact⟨[],rfl,rfl⟩
  |cons x xs ih =>
   intro bs h;rw[xx] at h;cases hx:Cm x with
   |none=>simp[hx] at h
   |some b =>
    cases hm:xs.mapM Cm with
    |none=>simp[hx,hm] at h
    |some vD =>
     simp[hx,hm] at h;obtain⟨ns,h1,h2⟩:=ih _ hm;unfold Cm at hx;split at hx
     .rename_i n;simp at hx;exact⟨n::ns,by simp[h1],by rw[<-h,h2,<-hx];rfl⟩
     .cases hx
 obtain⟨ns,h2,h3⟩:=key xs bs h1;exact⟨ns,h2,by rw[h3]⟩
theorem Q12 {n:Nat}{ns:List Int}{us:List Value}(h:LRel ρ n (ns.map (Value.int .u8)) us):us=ns.map (Value.int .u8):=by
 apply x3;intro i;cases hi:(ns.map (Value.int .u8))[i]? with
 |none =>have h1:(ns.map (Value.int .u8)).length<=i:=List.getElem?_eq_none_iff.1 hi;exact List.getElem?_eq_none_iff.2 (by rw[<-h.1];exact h1)
 |some v =>
  obtain⟨c,hc,hv⟩:=h.get hi;rw[hc];rw[zY] at hi;cases hn:ns[i]? with
  |none=>rw[hn] at hi;cases hi
  |some x=>rw[hn] at hi;obtain rfl:=osj hi;rw[hv.q0g]
theorem Fm (ns:List Int):∀ (acc:ByteArray),ns.foldl (λr n=>r.push (UInt8.ofNat n.toNat)) acc=⟨acc.data++(ns.map λn=>n.toNat.toUInt8).toArray⟩:=by
 induction ns with
 |nil=>intro acc;simp
 |cons n ns ih =>intro acc;rw[wi,ih];apply ByteArray.ext;simp[ByteArray.push]
theorem Q1j {n:Nat}(b:Nat):∀ (es:List JD) (E:List MapEntry),LERel ρ n E es->∀ e,es.find? (λe=>e.2.2==b)=some e->∃ e',E.find? (λx=>x.born==b)=some e'/\Z0l ρ n e' e:=by
 intro es;induction es with
 |nil=>intro E _ e h;simp at h
 |cons kv es ih =>
  intro E hE e h;obtain⟨x,E',rfl,hx,b6⟩:=hE.cons_inv;cases hb:kv.2.2==b with
  |true =>simp only[List.find?_cons,hb] at h;obtain rfl:=osj h;exact⟨x,by simp only[List.find?_cons,hx.2.1,hb],hx⟩
  |false =>simp only[List.find?_cons,hb] at h;obtain⟨e',h1,h2⟩:=ih E' b6 e h;exact⟨e',by simp only[List.find?_cons,hx.2.1,hb];exact h1,h2⟩
theorem EE {u:TypeId}(hc:P.cellsOf u≠0) (n off:Nat) (h0:off=0) (hn:P.cellsOf u<=n):liesAt P P.depth u (n / P.cellsOf u) off u 1=true:=by have hd:P.depth=(2*(P.types.size+Made.depth)+1)+1:=rfl;have h1:1<=n / P.cellsOf u:=(Nat.one_le_div_iff (by omega)).2 hn;subst h0;rw[hd];simp only[liesAt,zy];left;rw[hd];simp[rowAt,hc,sameLayout,h1]
set_option maxHeartbeats 1000000 in
theorem Ll {o:Oper}{xo:XOp}(hc:Tk P o.op=some xo) (hq:xo.quiet=true) (hH:HRel ρ U w) (hE:∀ x,Xo x=true->VRel ρ U.n (Q6 env x) (ev x))
  (h:ZA xo (Q6 env) U=some (v,U')):U'=U/\C8 P ρ U w v (execOp ev o):=by
 obtain⟨dst,op,ty,pos,after,guard⟩:=o;simp only at hc;unfold Tk at hc;split at hc
 .cases hc
 rename_i ai;simp only[w4,xR] at ai;cases op<;>simp only[Op.operands] at ai hc
 case binOp jF t x y yt =>
  simp at ai;have hx:=hE x ai.1;have hy:=hE y ai.2
  have key:∀ (kd:Nat) (neg:Bool),jF=(if neg then .neq else .eql)->((kd=0/\∃ e i,P.underlying t=some (.pointer e)/\P.info? e=some i)\/(kd=1/\∃ e,P.underlying t=some (.slice e)) \/
   (kd=2/\∃ k e,P.underlying t=some (.map k e))\/(kd=3/\∃ p q s,P.underlying t=some (.func p q s)))->xo=.eqNil kd neg x y->U'=U/\C8 P ρ U w v (execOp ev ⟨dst,.binOp jF t x y yt,ty,pos,after,guard⟩):=by
   intro kd neg lD hk mM;subst mM;simp only[ZA] at h;split at h
   .rename_i r hs;simp at h;obtain⟨rfl,rfl⟩:=h;obtain⟨h1,h2⟩:=F9 hH hk hx hy hs;rw[lD];exact⟨rfl,AE neg t x y yt ty pos after dst guard rfl rfl (λop w'=>S2 op t x y h2 w') (h1 neg)⟩
   .cases h
  have jN:∀ (neg:Bool),jF=(if neg then .neq else .eql)->((∃ fs,P.underlying t=some (.struct fs))\/∃ n e,P.underlying t=some (.array n e))->PY P neg t x y=some xo->U'=U/\C8 P ρ U w v (execOp ev ⟨dst,.binOp jF t x y yt,ty,pos,after,guard⟩):=by
   intro neg lD hk mM;unfold PY at mM;split at mM
   .cases mM
   .rename_i pY;obtain⟨s,hs,rfl⟩:=zw.1 mM;simp only[ZA] at h;split at h
    .rename_i a b ha hb;split at h
     .rename_i dS;simp at h;obtain⟨rfl,rfl⟩:=h;rw[ha] at hx;rw[hb] at hy;obtain⟨ca,s8,nw⟩:=hx.q1k;obtain⟨cb,s9,po⟩:=hy.q1k;have ea:=Ha dS.1 nw;have eb:=Ha dS.2 po;have e1:mkT P t a.toList=.agg a:=by
       unfold mkT;rcases hk with⟨fs,hu⟩|⟨n,e,hu⟩<;>simp[hu]
      have e2:mkT P t b.toList=.agg b:=by unfold mkT;rcases hk with⟨fs,hu⟩|⟨n,e,hu⟩<;>simp[hu]
      have aS:=λw'=>VS 9992 8 t s hs w' a.toList b.toList dS.1 dS.2;rw[e1,e2] at aS;have s_:ev x=.agg a:=by rw[s8];congr 1;rw[<-Array.toList_inj];simpa using ea
      have ta:ev y=.agg b:=by rw[s9];congr 1;rw[<-Array.toList_inj];simpa using eb
      rw[lD];refine⟨rfl,AE neg t x y yt ty pos after dst guard s_ ta (λop w'=>run_eqGuard_agg w' op t x y a b (by simpa using pY)) (λw'=>?_)⟩;have hr:=aS w';cases neg
      .simp only[zD,if_false];rw[run_eql_struct w' t a b,show (10000:Nat)=9992+8 from rfl,hr];rfl
      .simp only[zI];rw[run_neq_struct w' t a b,show (10000:Nat)=9992+8 from rfl,hr];rfl
     .cases h
    .cases h
  split at hc
  .rename_i e hu;cases hi:P.info? e with
   |none=>simp[hi] at hc
   |some i =>simp[hi] at hc;exact key 0 false rfl (.inl ⟨rfl,e,i,hu,hi⟩) hc.2.symm
  .rename_i e hu;cases hi:P.info? e with
   |none=>simp[hi] at hc
   |some i =>simp[hi] at hc;exact key 0 true rfl (.inl ⟨rfl,e,i,hu,hi⟩) hc.2.symm
  .rename_i e hu;simp at hc;exact key 1 false rfl (.inr (.inl ⟨rfl,e,hu⟩)) hc.symm
  .rename_i k e hu;simp at hc;exact key 2 false rfl (.inr (.inr (.inl ⟨rfl,k,e,hu⟩))) hc.symm
  .rename_i p q r hu;simp at hc;exact key 3 false rfl (.inr (.inr (.inr ⟨rfl,p,q,r,hu⟩))) hc.symm
  .rename_i e hu;simp at hc;exact key 1 true rfl (.inr (.inl ⟨rfl,e,hu⟩)) hc.symm
  .rename_i k e hu;simp at hc;exact key 2 true rfl (.inr (.inr (.inl ⟨rfl,k,e,hu⟩))) hc.symm
  .rename_i p q r hu;simp at hc;exact key 3 true rfl (.inr (.inr (.inr ⟨rfl,p,q,r,hu⟩))) hc.symm
  .rename_i fs hu;exact jN false rfl (.inl ⟨fs,hu⟩) hc
  .rename_i fs hu;exact jN true rfl (.inl ⟨fs,hu⟩) hc
  .rename_i n e hu;exact jN false rfl (.inr ⟨n,e,hu⟩) hc
  .rename_i n e hu;exact jN true rfl (.inr ⟨n,e,hu⟩) hc
  .cases hc
 case makeMap t r=>cases r<;>simp at hc;subst hc;cases hq
 case mapUpdate t m k x =>
  split at hc
  .rename_i kt e hu;cases hk:Lx P kt with
   |none=>simp[hk] at hc
   |some mk=>simp[hk] at hc;subst hc;cases hq
  .cases hc
 case insert t m k x =>
  split at hc
  .rename_i kt e hu;cases hk:Lx P kt with
   |none=>simp[hk] at hc
   |some mk=>simp[hk] at hc;subst hc;cases hq
  .cases hc
 case mapEntry t m k =>
  split at hc
  .rename_i kt e hu;cases hk:Lx P kt with
   |none=>simp[hk] at hc
   |some mk =>
    cases cg:P.info? e with
    |none=>simp[hk,cg] at hc
    |some inf =>
     cases hz:inf.zero with
     |none=>simp[hk,cg,hz] at hc
     |some z=>simp[hk,cg,hz] at hc;obtain⟨_,rfl⟩:=hc;cases hq
  .cases hc
 case entryStore t m s x=>simp at hc;subst hc;cases hq
 case range t x =>
  split at hc
  .simp at hc;subst hc;cases hq
  .cases hc
 case next x b=>cases b<;>simp at hc;subst hc;cases hq
 case lookup t x i jt =>
  simp at ai;have hx:=hE x ai.1;have hi:=hE i ai.2;split at hc
  .rename_i kt e hu;cases hk:Lx P kt with
   |none=>simp[hk] at hc
   |some mk =>
    cases cg:P.info? e with
    |none=>simp[hk,cg] at hc
    |some inf =>
     cases hz:inf.zero with
     |none=>simp[hk,cg,hz] at hc
     |some z =>
      simp[hk,cg,hz] at hc;obtain⟨lE,rfl⟩:=hc;obtain⟨d,hd,dT⟩:=Nt hk;have kB:∀ w',(zeroValue e).run P w'=.ok z w':=λw'=>Zi cg hz w';have ez:VRel ρ U.n z z:=VF lE;simp only[ZA] at h;split at h
      .rename_i bR;have p7:ev i=Q6 env i:=PT bR hi;split at h
       .rename_i bz;rw[bz] at hx;obtain cA:=hx.q0t;simp at h;obtain⟨rfl,rfl⟩:=h;refine⟨rfl,if jt then .tuple #[z,.bool false] else z,?_,λw' _=>?_⟩
        .cases jt
         .exact ez
         .exact VRel.q0j (LRel.cons ez (LRel.cons (.bool _) (LRel.nil _ _)))
        .simp only[execOp];simp only[Instr.lookup,zA,Q0 hu,zj,cA,xe,p7,ZF hd dT bR];rw[Ge hd (r:=none) rfl];cases jt<;>simp[kB]
       .rename_i m bz;rw[bz] at hx;split at h
        .rename_i es clock wr aF;split at h
         .rename_i ae;obtain⟨p,entries,cA,hp,hblk,aI⟩:=XI hH aF hx;have aS:∀ w',Like ρ w w'->(getObj p.blk).run P w'=.ok (.map entries clock) w':=λw' hl =>
           QG (by rw[hl.blk m p hp];exact hblk) (λ_ _ _ e=>by cases e)
          rcases K0 hd dT bR (.bool true) 0 es entries.toList aI ae with⟨h1,h2,_⟩|⟨j,a,a',h1,h2,h3,h4,_,_⟩
          .rw[h1] at h;simp at h;obtain⟨rfl,rfl⟩:=h;refine⟨rfl,if jt then .tuple #[z,.bool false] else z,?_,λw' hl=>?_⟩
           .cases jt
            .exact ez
            .exact VRel.q0j (LRel.cons ez (LRel.cons (.bool _) (LRel.nil _ _)))
           .simp only[execOp];simp only[Instr.lookup,zA,Q0 hu,zj,cA,aS w' hl,xe,p7,ZF hd dT bR];rw[h2];cases jt<;>simp[kB]
          .rw[h1] at h;simp at h;obtain⟨rfl,rfl⟩:=h;have ny:=(aI.2 j a' a h3 h2).2.2;refine⟨rfl,if jt then .tuple #[a'.val,.bool true] else a'.val,?_,λw' hl=>?_⟩
           .cases jt
            .exact ny
            .exact VRel.q0j (LRel.cons ny (LRel.cons (.bool _) (LRel.nil _ _)))
           .simp only[execOp];simp only[Instr.lookup,zA,Q0 hu,zj,cA,aS w' hl,xe,p7,ZF hd dT bR];rw[h4];cases jt<;>simp
         .cases h
        .cases h
       .cases h
      .cases h
  .cases hc
 case entry x =>
  simp at ai;have hx:=hE x ai;simp at hc;subst hc;simp only[ZA] at h;split at h
  .rename_i i bz;rw[bz] at hx;split at h
   .rename_i m since seen last wr hb;split at h
    .rename_i es clock lF b aF dU;split at h
     .rename_i cq;split at h
      .rename_i e cZ;split at h
       rotate_left
       .cases h
       rename_i aQ;simp at h;obtain⟨rfl,rfl⟩:=h;obtain⟨p,hp,⟨_,eE⟩,O,hO,rm,rfl,pq⟩:=hH.live i _ hb;obtain⟨q,entries,iH,cF,hblk,aI⟩:=XI hH aF pq;simp at iH;obtain⟨_,_,cA⟩:=hx.q0w hp;rw[eE] at cA;obtain⟨e',gP,eX⟩:=Q1j b es entries.toList aI e cZ;rw[Array.find?_toList] at gP;have eM:(seen.toArray).back?=some b:=by simpa using dU
       have dz:VRel ρ U.n e.1 e'.key:=by rw[eX.1];exact VF aQ
       refine⟨rfl,.tuple #[e'.key,e'.val],VRel.q0j (LRel.cons dz (LRel.cons eX.2.2 (LRel.nil _ _))),λw' hl=>?_⟩;have h1:=QG (P:=P) (w':=w') (r:=p.blk) (by rw[hl.blk i p hp];exact hO) (λ_ _ _ e=>by cases e);have h2:=QG (P:=P) (w':=w') (r:=q.blk) (by rw[hl.blk m q cF];exact hblk) (λ_ _ _ e=>by cases e);simp only[execOp];simp only[Instr.entry,cA,xl,zA,h1,zj,eM];rw[iH,];simp[h2,cq,gP]
      .cases h
     .cases h
    .cases h
   .cases h
  .cases h
 case convert s d x =>
  simp at ai;have hx:=hE x ai;split at hc
  .rename_i t hs hd;cases hi:P.info? t with
   |none=>simp[hi] at hc
   |some inf =>
    simp[hi] at hc;obtain⟨aG,rfl⟩:=hc;simp only[ZA] at h;split at h
    .rename_i bz;rw[bz] at hx;obtain cA:=hx.q0n;simp at h;obtain⟨rfl,rfl⟩:=h;refine⟨rfl,Qs (c:=.pointer none) (λw'=>?_) .nilPtr⟩;simp[execOp,cA,convert,Q0 hs,Q0 hd,Conv.unsafePointer]
    .rename_i i o bz;rw[bz] at hx;split at h
     .rename_i c e wr tight hb;split at h
      .rename_i ah;simp at h;obtain⟨rfl,rfl⟩:=h;obtain⟨p,hp,_,_,hl,⟨C,e',f,hC,pr,_⟩,_,_⟩:=hH.live i _ hb;obtain⟨_,_,cA⟩:=hx.q0w hp;refine⟨rfl,ev x,hx,λw' p8=>?_⟩;have eE:w'.shape? p.blk=some (e',C.size):=by
        have:w'.heap[p.blk]?=some (.cells C e' f):=by rw[p8.blk i p hp];exact hC
        simp[World.shape?,this]
       simp only[execOp,cA];have:=Go.Lib.run_to_unsafe (P:=P) w' (src:=s) (dst:=d) ⟨p.blk,p.shift+o,none⟩ hs hd hi (by simpa using aG) eE (by show p.shift+o<C.size;omega);simp[this]
      .cases h
     .cases h
    .cases h
  .rename_i u hs hd;cases hi:P.info? u with
   |none=>simp[hi] at hc
   |some inf =>
    simp[hi] at hc;obtain⟨⟨aG,tc⟩,rfl⟩:=hc;simp only[ZA] at h;split at h
    .rename_i bz;rw[bz] at hx;obtain cA:=hx.q0n;simp at h;obtain⟨rfl,rfl⟩:=h;refine⟨rfl,Qs (c:=.pointer none) (λw'=>?_) .nilPtr⟩;simp[execOp,cA,convert,Q0 hs,Q0 hd,Conv.unsafePointer]
    .rename_i i o bz;rw[bz] at hx;split at h
     .rename_i c e hb;split at h
      .rename_i ah;obtain⟨rfl,het,hle⟩:=ah;simp at h;obtain⟨rfl,rfl⟩:=h;obtain⟨p,hp,_,_,hl,⟨C,e',f,hC,pr,lG⟩,_,h6⟩:=hH.live i _ hb;obtain⟨_,_,cA⟩:=hx.q0w hp;have td:=(h6 rfl).1 rfl;refine⟨rfl,ev x,hx,λw' p8=>?_⟩;have eE:w'.shape? p.blk=some (u,C.size):=by
        have:w'.heap[p.blk]?=some (.cells C e' f):=by rw[p8.blk i p hp];exact hC
        simp[World.shape?,this,lG,het]
       simp only[execOp,cA];rw[zU] at *
       have:=Go.Lib.run_from_unsafe (P:=P) w' (src:=s) (dst:=d) ⟨p.blk,p.shift,none⟩ hs hd hi eE (EE tc _ _ td (by omega));simp[this]
      .cases h
     .cases h
    .cases h
  .rename_i e hs hd;split at hc
   .rename_i he;simp at hc;subst hc;simp only[ZA] at h;split at h
    .rename_i a n c bz;rw[bz] at hx;split at h
     .rename_i xs bE;split at h
      .rename_i s' p9;simp at h;obtain⟨rfl,rfl⟩:=h;obtain⟨ns,mN,rfl⟩:=Rc p9;subst mN;obtain⟨hlen,us,dO,⟨a',aw,cA⟩,aS⟩:=TS hH bE hx;have nz:=Q12 dO;refine⟨rfl,.string ⟨(ns.map λn=>n.toNat.toUInt8).toArray⟩,.string _,λw' hl=>?_⟩;have hr:=aS w' hl;rw[cA] at hr;simp only[execOp,cA];cases a' with
       |none =>
        simp[Builtin.firstCells] at hr;have:ns=[]:=by rw[nz] at hr;simpa using hr.symm
        subst this;simp[convert,Q0 hs,Q0 hd,Q0 he,Conv.bytesToString];rfl
       |some a' =>simp only[Builtin.firstCells,wG] at hr;rw[nz] at hr;have:=run_bytesToString (P:=P) w' a' n aw ns hr;rw[Fm] at this;simp[convert,Q0 hs,Q0 hd,Q0 he,this]
      .cases h
     .cases h
    .cases h
   .cases hc
  .split at hc
   .simp at hc;subst hc;cases hq
   .cases hc
  .cases hc
 case call c =>
  split at hc
  .rename_i aL;split at hc
   .rename_i t x dJ cP;split at hc
    .rename_i kt e hu;simp at hc;subst hc;have bI:c.args=#[x]:=Array.ext' (by simpa using cP);have hx:VRel ρ U.n (Q6 env x) (ev x):=hE x (by simpa [Call.operands,aL,bI] using ai);simp only[ZA] at h;split at h
     .rename_i bz;rw[bz] at hx;obtain cA:=hx.q0t;simp at h;obtain⟨rfl,rfl⟩:=h;refine⟨rfl,Qs (c:=.int .i64 0) (λw'=>?_) (.int _ _)⟩;simp[execOp,resolve,aL,bI,invoke,builtin,Builtin.len_,dJ,cA,Q0 hu,goInt]
     .rename_i m bz;rw[bz] at hx;split at h
      .rename_i es clock wr aF;simp at h;obtain⟨rfl,rfl⟩:=h;obtain⟨p,entries,cA,hp,hblk,aI⟩:=XI hH aF hx;refine⟨rfl,.int .i64 es.length,.int _ _,λw' hl=>?_⟩;have h1:=QG (P:=P) (w':=w') (r:=p.blk) (by rw[hl.blk m p hp];exact hblk) (λ_ _ _ e=>by cases e);have h2:entries.size=es.length:=by have:=aI.1;simpa using this
       simp[execOp,resolve,aL,bI,invoke,builtin,Builtin.len_,dJ,cA,Q0 hu,goInt,h1,h2]
      .cases h
     .cases h
    .cases hc
   .cases hc
  .split at hc
   .split at hc
    .rename_i kt e hu;cases hk:Lx P kt with
     |none=>simp[hk] at hc
     |some mk=>simp[hk] at hc;subst hc;cases hq
    .cases hc
   .cases hc
  .split at hc
   .split at hc
    .rename_i e hu;cases hi:P.info? e with
     |none=>simp[hi] at hc
     |some inf=>simp[hi] at hc;subst hc;cases hq
    .cases hc
   .cases hc
  .split at hc
   .split at hc
    .rename_i e hu;cases hz:zeroOf P e with
     |none=>simp[hz] at hc
     |some z=>simp[hz] at hc;obtain⟨_,rfl⟩:=hc;cases hq
    .cases hc
   .cases hc
  .rename_i aL;split at hc
   .rename_i x cP;simp at hc;subst hc;have bI:c.args=#[x]:=Array.ext' (by simpa using cP);have hx:VRel ρ U.n (Q6 env x) (ev x):=hE x (by simpa [Call.operands,aL,bI] using ai);simp only[ZA] at h;split at h
    .rename_i bz;rw[bz] at hx;obtain cA:=hx.q0y;simp at h;obtain⟨rfl,rfl⟩:=h;refine⟨rfl,Qs (c:=.pointer none) (λw'=>?_) .nilPtr⟩;simp[execOp,resolve,aL,bI,invoke,builtin,cA,Go.Lib.run_unsafeSliceData_nil]
    .rename_i i o n cap bz;rw[bz] at hx;split at h
     .rename_i cu;simp at h;obtain⟨rfl,rfl⟩:=h;obtain⟨cu,hs⟩:=cu;obtain⟨blk,hblk⟩:=Option.isSome_iff_exists.1 hs;obtain⟨p,hp,_⟩:=hH.live _ _ hblk;obtain⟨a,aw,cA,aP,aQ⟩:=hx.q1a;obtain⟨h1,_,⟨mH,_⟩|⟨o',rfl,_,ho⟩⟩:=aQ p hp
      .omega
      have eW:o'=o:=ho.resolve_right (λhh=>cu hh.2);subst eW;refine⟨rfl,.pointer (some ⟨p.blk,p.shift+o',none⟩),.ptr _ _ _ aP (λq hq=>by rw[hp] at hq;obtain rfl:=osj hq;rfl),λw' _=>?_⟩;simp[execOp,resolve,aL,bI,invoke,builtin,cA,Go.Lib.run_unsafeSliceData_row w' _ _ _ n aw (by omega)]
     .cases h
    .cases h
   .cases hc
  .split at hc
   .split at hc
    .split at hc
     .simp at hc;subst hc;cases hq
     .cases hc
    .cases hc
   .cases hc
  .cases hc
 all_goals cases hc
theorem getElem?_modify_list {α:Type}(l:List α) (j:Nat) (f:α->α) (k:Nat):(l.modify j f)[k]?=if j=k then (l[k]?).map f else l[k]?:=by rw[List.getElem?_modify];split<;>simp_all
theorem GZ {n:Nat}{E:List MapEntry}{es:List JD}(h:LERel ρ n E es) (j:Nat) (f:MapEntry->MapEntry) (kv:JD) (hf:∀ e,E[j]?=some e->Z0l ρ n (f e) kv):LERel ρ n (E.modify j f) (es.set j kv):=by
 refine⟨by simp[h.1],λk e tf he dz=>?_⟩;rw[getElem?_modify_list] at he;rw[xH] at dz;by_cases cW:j=k
 .subst cW;simp only[zI] at he dz;split at dz
  .simp at dz;subst dz;rw[zw] at he;obtain⟨e0,lH,rfl⟩:=he;exact hf e0 lH
  .cases dz
 .simp only[cW,if_false] at he dz;exact h.2 k e tf he dz
theorem DF {n:Nat}{E:List MapEntry}{es:List JD}(h:LERel ρ n E es) {e:MapEntry}{kv:JD}(he:Z0l ρ n e kv):LERel ρ n (E++[e]) (es++[kv]):=by
 refine⟨by simp[h.1],λk a b ha hb=>?_⟩;have hl:=h.1;rw[List.getElem?_append] at ha hb;split at ha<;>split at hb<;>try omega
 .exact h.2 k a b ha hb
 .have hk:k-E.length=k-es.length:=by omega
  rw[hk] at ha;cases hz:k-es.length with
  |zero=>rw[hz] at ha hb;simp at ha hb;subst ha;subst hb;exact he
  |succ m=>rw[hz] at ha;simp at ha
theorem SA {γ:Sort _}(f:Option Addr->Value->γ) (g:Array Value->γ) (p:Option Addr) (l:Value):Builtin.unsafeString_.match_3 (motive:=λ_=>γ) #[.pointer p,l] f g=f p l:=rfl
theorem Sx (ts:Array TypeId) (ty pt:TypeId) (h0:ts[0]?=some pt) (p:Option Addr) (w:World):(Builtin.unsafeString_ ts ty #[.pointer p,.int .i64 0]).run P w=.ok (.string .empty) w:=by
 have iI:IntKind.i64.max=9223372036854775807:=rfl;cases p with
 |none =>delta Builtin.unsafeString_;rw[SA];simp[asInt,asIntOf,iI,h0]
 |some a =>delta Builtin.unsafeString_;rw[SA];simp[asInt,asIntOf,iI,h0]
theorem SH:∀ (ns:List Int) (a:Addr) (acc:ByteArray) (w:World),(∀ j n,ns[j]?=some n->w.cell? (a.add j)=some (.int .u8 n)) ->
  (loadBytes a acc ns.length).run P w=.ok ⟨acc.data++(ns.map λn=>n.toNat.toUInt8).toArray⟩ w
 |[],a,acc,w,_=>by simp[loadBytes]
 |n::ns,a,acc,w,h=>by
  have h0:w.cell? a=some (.int .u8 n):=by have:=h 0 n rfl;simpa [Addr.add] using this
  have ih:=SH ns (a.add 1) (acc.push n.toNat.toUInt8) w (λj y hy=>by
   have:=h (j+1) y (by simpa using hy);have e:(a.add 1).add j=a.add (j+1):=by
    unfold Addr.add;by_cases hj:j=0
    .subst hj;simp
    .simp[hj];omega
   rw[e];exact this)
  simp only[zS,loadBytes,zA,run_load,h0,Result.andThen];rw[ih];congr 1;apply ByteArray.ext;simp[ByteArray.push]
theorem RZ {e:TypeId}(hc:P.cellsOf e=1) (count off n:Nat) (hn:off+n<=count):liesAt P P.depth e count off e n=true:=by have hd:P.depth=(2*(P.types.size+Made.depth)+1)+1:=rfl;rw[hd];simp only[liesAt,zy];left;rw[hd];simp[rowAt,hc,hn,sameLayout,Nat.mod_one]
theorem Q1k (ts:Array TypeId) (ty pt e:TypeId) (h0:ts[0]?=some pt) (hp:P.underlying pt=some (.pointer e)) (hc:P.cellsOf e=1) (a:Addr) (cells:Nat) (w:World) (eE:w.shape? a.block=some (e,cells)) (ns:List Int) (k:Int) (hk:0<k) (mO:ns.length=k.toNat) (hn:a.off+ns.length<=cells)
  (vE:k<=2 ^ 62) (bj:∀ j n,ns[j]?=some n->w.cell? (a.add j)=some (.int .u8 n)) :
  (Builtin.unsafeString_ ts ty #[.pointer (some a),.int .i64 k]).run P w=.ok (.string ⟨(ns.map λn=>n.toNat.toUInt8).toArray⟩) (w.freeze a k.toNat):=by
 have iI:IntKind.i64.max=9223372036854775807:=rfl;have vF:(2:Int) ^ 62=4611686018427387904:=by decide
 have po:=SH (P:=P) ns a .empty w bj;have kC:=RZ (P:=P) hc (cells / P.cellsOf e) a.off ns.length (by rw[hc];simpa using hn);have h1:¬ k<0:=by omega
 have h2:¬ (9223372036854775807:Int)<k:=by omega
 have h3:¬ k=0:=by omega
 rw[<-mO];rw[mO] at po kC;delta Builtin.unsafeString_;rw[SA];simp[asInt,asIntOf,iI,h0,h1,h2,h3,variablesAt,eE,elemOf,Q0 hp,kC,po,mO]
theorem HRel.freeze (hH:HRel ρ U w) {i:Nat}{p:Pl}{c:List Value}{e:El}{tight:Bool}(hp:ρ i=some p) (hb:U.get i=some (.cells c e true tight)) (off n:Nat) :
  HRel ρ (U.upd i (.cells c e false tight)) (w.freeze ⟨p.blk,off,none⟩ n)/\Ext ρ U w ρ (U.upd i (.cells c e false tight)) (w.freeze ⟨p.blk,off,none⟩ n):=by
 have hi:=U.lt hb;obtain⟨p',bt,hB⟩:=hH.live i _ hb;obtain rfl:p=p':=osj (hp.symm.trans bt);obtain⟨h1,h2,h3,⟨C,e',f,h4,gJ⟩,h5,h6⟩:=hB;have a_:∀ k,k≠p.blk->(w.freeze ⟨p.blk,off,none⟩ n).heap[k]?=w.heap[k]?:=λk hk=>by
  unfold World.freeze;split
  .rfl
  .simp only[Array.getElem?_modify];rw[z1 (Ne.symm hk)]
 have aG:(w.freeze ⟨p.blk,off,none⟩ n).heap.size=w.heap.size:=by
  unfold World.freeze;split
  .rfl
  .simp
 obtain⟨f',dV⟩:∃ f',(w.freeze ⟨p.blk,off,none⟩ n).heap[p.blk]?=some (.cells C e' f'):=by
  unfold World.freeze;split
  .exact⟨f,h4⟩
  .simp only[Array.getElem?_modify,zI,h4];obtain⟨lo,cI⟩:=f;exact⟨_,rfl⟩
 have bj:∀ o,(w.freeze ⟨p.blk,off,none⟩ n).cell? ⟨p.blk,o,none⟩=w.cell? ⟨p.blk,o,none⟩:=λo=>by simp[World.cell?,dV,h4]
 have p_:(w.freeze ⟨p.blk,off,none⟩ n).os=w.os/\(w.freeze ⟨p.blk,off,none⟩ n).tape=w.tape/\(w.freeze ⟨p.blk,off,none⟩ n).output=w.output:=by unfold World.freeze;split<;>exact⟨rfl,rfl,rfl⟩
 have hE:Ext ρ U w ρ (U.upd i (.cells c e false tight)) (w.freeze ⟨p.blk,off,none⟩ n):=by
  .refine⟨p_.1,p_.2.1,p_.2.2,by rw[aG];exact ze _,λB hB hW=>a_ B (λe=>hW ⟨i,p,_,hp,hb,rfl,e.symm⟩),?_,ze _,λ_ _ _ h=>h⟩;rintro B _ ⟨j,q,b,hq,ck,hw,rfl⟩;by_cases aN:j=i
   .subst aN;exact⟨j,q,_,hq,hb,rfl,rfl⟩
   .rw[Heap.q0b _ _ aN] at ck;exact⟨j,q,b,hq,ck,hw,rfl⟩
 refine⟨hH.ext ⟨λj b hj=>?_,λj hj=>?_,λj q hq=>by rw[aG];exact hH.lt j q hq,λj k q r b cW hq hr cy hw hx=>?_⟩ hE,hE⟩
 .by_cases aN:j=i
  .subst aN;rw[Heap.q0c _ _ hi] at hj;obtain rfl:=osj hj;exact⟨p,hp,h1,h2,h3,⟨C,e',f',dV,gJ⟩,λk v hk=>by rw[bj];exact h5 k v hk,λh=>by cases h⟩
  .rw[Heap.q0b _ _ aN] at hj;obtain⟨q,hq,fz⟩:=hH.live j b hj;exact⟨q,hq,fz.other (ze _) (λ_ _ _ h=>h) p.blk C e' f h4 (λhx=>hH.sep i j p q _ (Ne.symm aN) hp hq hb rfl hx) ⟨C,f',dV,ze _⟩ (λk hk _=>a_ k hk) (hH.lt j q hq)⟩
 .by_cases aN:j=i
  .subst aN;rw[Heap.q0c _ _ hi] at hj;cases hj
  .rw[Heap.q0b _ _ aN] at hj;exact hH.dead j hj
 .by_cases aN:j=i
  .subst aN;rw[Heap.q0c _ _ hi] at cy;obtain rfl:=osj cy;cases hw
  .rw[Heap.q0b _ _ aN] at cy;exact hH.sep j k q r b cW hq hr cy hw hx
theorem HRel.freezeOut (hH:HRel ρ U w) {i:Nat}{p:Pl}{c:List Value}{e:El}{tight:Bool}(hp:ρ i=some p) (hb:U.get i=some (.cells c e true tight)) {C:Array Value}{e':TypeId}{f:Nat×Nat}(hC:w.heap[p.blk]?=some (.cells C e' f)) (hf:f.1=f.2) :
  HRel ρ U (w.freeze ⟨p.blk,C.size,none⟩ 1)/\Ext ρ U w ρ U (w.freeze ⟨p.blk,C.size,none⟩ 1):=by
 have a_:∀ k,k≠p.blk->(w.freeze ⟨p.blk,C.size,none⟩ 1).heap[k]?=w.heap[k]?:=λk hk=>by unfold World.freeze;rw[z1 (by omega)];simp only[Array.getElem?_modify];rw[z1 (Ne.symm hk)]
 have aG:(w.freeze ⟨p.blk,C.size,none⟩ 1).heap.size=w.heap.size:=by unfold World.freeze;rw[z1 (by omega)];simp
 have dV:(w.freeze ⟨p.blk,C.size,none⟩ 1).heap[p.blk]?=some (.cells C e' (C.size,C.size+1)):=by unfold World.freeze;rw[z1 (by omega)];simp only[Array.getElem?_modify,zI,hC];obtain⟨lo,cI⟩:=f;obtain rfl:lo=cI:=hf;simp
 have bj:∀ o,(w.freeze ⟨p.blk,C.size,none⟩ 1).cell? ⟨p.blk,o,none⟩=w.cell? ⟨p.blk,o,none⟩:=λo=>by simp[World.cell?,dV,hC]
 have hE:Ext ρ U w ρ U (w.freeze ⟨p.blk,C.size,none⟩ 1):=by refine⟨?_,?_,?_,by rw[aG];exact ze _,λB hB hW=>a_ B (λe=>hW ⟨i,p,_,hp,hb,rfl,e.symm⟩),λ_ _ h=>h,ze _,λ_ _ _ h=>h⟩<;>(unfold World.freeze;rw[z1 (by omega)])
 refine⟨hH.ext ⟨λj b hj=>?_,hH.dead,λj q hq=>by rw[aG];exact hH.lt j q hq,hH.sep⟩ hE,hE⟩;obtain⟨q,hq,fz⟩:=hH.live j b hj;refine⟨q,hq,?_⟩;by_cases hk:q.blk=p.blk
 .cases b with
  |cells c0 e0 tg t0 =>
   obtain⟨h1,h2,h3,⟨C0,e1,f1,h4,h5⟩,h6,h7⟩:=fz;rw[hk,hC] at h4;obtain⟨rfl,rfl,rfl⟩:=(by simpa using h4:C=C0/\e'=e1/\f=f1);refine⟨h1,h2,h3,⟨C,e',_,by rw[hk];exact dV,h5⟩,λk v hv=>?_,λhw=>⟨(h7 hw).1,λk na=>?_⟩⟩
   .rw[hk,bj,<-hk];exact h6 k v hv
   .unfold World.frozen?;rw[show (⟨q.blk,q.shift+k,none⟩:Addr).block=p.blk from hk,dV];have:¬ C.size<=q.shift+k:=by omega
    simp[this]
  |obj o tg =>obtain⟨_,O,h4,h5⟩:=fz;rw[hk,hC] at h4;obtain rfl:=osj h4;exact absurd h5 ORel.q1u
 .exact fz.mono (ze _) (λ_ _ _ h=>h) (a_ _ hk)
theorem Cu (hH:HRel ρ U w) {s:ByteArray}{st d e:TypeId}(hs:P.underlying st=some .string) (hd:P.underlying d=some (.slice e)) (he:P.underlying e=some (.int .u8)) {s0:Sem Next}(h0:s0=(do let v <-convert st d (.string s);pure (.value v))) :
  Rt P ρ U w (.slice (some ⟨U.n,0,none⟩) s.size s.size) (U.push (.cells (s.data.toList.map λb=>.int .u8 b.toNat) ⟨1,e⟩ true false)) s0:=by
 obtain⟨cap,cu⟩:∃ cap,cap=(Question.appendCap s.size 0 e).cut (w.tape w.drawn (.appendCap s.size 0 e)):=⟨_,rfl⟩;have hle:s.size<=cap:=by rw[cu];simp[Question.cut]
 let C:Array Value:=(s.data.map λb=>Value.int .u8 b.toNat)++Array.replicate (cap-s.size) (.int .u8 0);have pr:C.size=cap:=by have:s.data.size=s.size:=rfl;simp[C,this];omega
 have nB:=hH.drew;have aI:LRel ρ U.n (s.data.toList.map λb=>Value.int .u8 b.toNat) (C.toList.take (s.data.toList.map λb=>Value.int .u8 b.toNat).length):=by
  have:C.toList.take (s.data.toList.map λb=>Value.int .u8 b.toNat).length=s.data.toList.map λb=>Value.int .u8 b.toNat:=by simp[C]
  rw[this];exact Xn (zf.2 λx hx=>by obtain⟨b,_,rfl⟩:=zu.1 hx;rfl)
 obtain⟨ρ',h1,h2,h3⟩:=nB.alloc (s.data.toList.map λb=>Value.int .u8 b.toNat) C e ⟨1,e⟩ false rfl aI (by
  have:s.data.size=s.size:=rfl;simp[pr,this];exact hle)
 have hblk:(w.drew.alloc (.cells C e)).heap[w.drew.heap.size]?=some (.cells C e (0,0)):=by show (w.drew.heap.push _)[w.drew.heap.size]?=_;rw[Array.getElem?_push_size]
 obtain⟨h4,h5⟩:=h2.freezeOut (i:=U.n) h1 (Heap.q0a _ _) hblk rfl;refine⟨.slice (some ⟨w.heap.size,0,none⟩) s.size cap,_,ρ',.inl ?_,.sl _ _ _ _ _ _ (by simp) (λp hp=>?_),h4,((Ext.drew ρ U w).trans h3).trans h5⟩
 .subst h0;have eE:(w.drew.alloc (.cells C e)).shape? w.drew.heap.size=some (e,C.size):=by
   unfold World.shape?;rw[hblk]
  have hq:(Question.appendCap s.size 0 e).forced=false:=rfl;have rN:w.drew.heap.size=w.heap.size:=rfl;simp only[convert,zA,Q0 hs,Q0 hd,Q0 he,zj,Conv.stringToBytes,run_choose_drew,hq,zD,if_false,<-cu,newRow,run_newObj_alloc,xe,markStringish,run_shape,rN];rw[rN] at eE;have qa:(w.drew.alloc (.cells ((s.data.map λb=>Value.int .u8 b.toNat)++Array.replicate (cap-s.size) (.int .u8 0)) e)).shape? w.heap.size=some (e,C.size):=eE;rw[qa];rfl
 .rw[h1] at hp;obtain rfl:=osj hp;refine⟨hle,(λh=>by cases h),.inr ⟨0,rfl,?_,.inl rfl⟩⟩;show 0+cap*1<=C.size;omega
set_option maxHeartbeats 1000000 in
theorem R2 {k nv:Value}{c:Nat}:∀ {es:List JD}{e:JD},Qp k es=some e->∃ j,es[j]?=some e/\QC k nv c es=(es.set j (k,nv,e.2.2),c)/\KI k es=es.eraseIdx j
 |[],e,h=>by cases h
 |a::es,e,h=>by
  simp only[Qp] at h;split at h
  .rename_i he;obtain rfl:=osj h;exact⟨0,rfl,by simp[QC,he],by simp[KI,he]⟩
  .rename_i he;obtain⟨j,h1,h2,h3⟩:=R2 (nv:=nv) (c:=c) h;exact⟨j+1,by simpa using h1,by simp[QC,he,h2],by simp[KI,he,h3]⟩
theorem P8 {k:Value}:∀ {es:List JD},Qp k es=none->KI k es=es
 |[],_=>rfl
 |a::es,h=>by
  simp only[Qp] at h;split at h
  .cases h
  .rename_i he;simp[KI,he,P8 h]
def Z1v:Value->Nat
 |.int _ n=>n.natAbs
 |_=>0
theorem Ag {e:JD}:∀ {es:List JD},e∈es->Z1v e.2.1<=(es.map λx=>Z1v x.2.1).sum
 |a::es,h=>by
  rw[zG,xO];rcases zk.1 h with rfl|h
  .omega
  .have:=Ag h;omega
theorem OC (es:List JD):∃ nv:Value,∀ e∈es,e.2.1≠nv :=
 ⟨.int .i64 ((es.map λx=>Z1v x.2.1).sum+1:Nat),λe he h=>by
  have h1:=Ag he;rw[h] at h1;simp only[Z1v] at h1;omega⟩
theorem Q5b {es:List JD}{i j:Nat}{x y:JD}(hi:i<es.length) (_hj:j<es.length) (h:es.set i x=es.set j y) (hx:∀ e∈es,e.2.1≠x.2.1):i=j:=by
 by_cases e:j=i
 .exact e.symm
 .have h1:(es.set i x)[i]?=(es.set j y)[i]?:=by rw[h]
  rw[List.getElem?_set_self hi,List.getElem?_set_ne e,z6 hi] at h1;have h2:=osj h1;exact(hx _ (zp hi) (by rw[<-h2])).elim
theorem Cn {n:Nat}{E:List MapEntry}{es:List JD}(h:LERel ρ n E es) (j:Nat):LERel ρ n (E.eraseIdx j) (es.eraseIdx j):=by
 refine⟨by rw[List.length_eraseIdx,List.length_eraseIdx,h.1],λk e kv he dz=>?_⟩;rw[List.getElem?_eraseIdx] at he dz;split at he
 .rename_i ah;rw[z7 ah] at dz;exact h.2 _ _ _ he dz
 .rename_i ah;rw[z1 ah] at dz;exact h.2 _ _ _ he dz
theorem CF {o:Oper}{xo:XOp}(hc:Tk P o.op = some xo) (hq:xo.quiet = false) (hH:HRel ρ U w) (hE:∀ x, Xo x = true -> VRel ρ U.n (Q6 env x) (ev x))
    (h:ZA xo (Q6 env) U = some (v, U')):Rt P ρ U w v U' (execOp ev o):=by
  obtain ⟨dst, op, ty, pos, after, guard⟩:=o;simp only at hc;unfold Tk at hc;split at hc
  . cases hc
  rename_i ai;simp only [w4, xR] at ai;cases op <;> simp only [Op.operands] at ai hc
  case binOp jF t x y yt =>
    have nA:∀ neg, PY P neg t x y = some xo -> False:=λneg hx => by
      unfold PY at hx;split at hx
      . cases hx
      . obtain ⟨s, _, rfl⟩:=zw.1 hx; cases hq
    split at hc <;> first
      | exact (nA _ hc).elim
      | (simp at hc; subst hc; cases hq; done)
      | (rename_i e hu
         cases hi:P.info? e with
         | none => simp [hi] at hc
         | some i => simp [hi] at hc; obtain ⟨_, rfl⟩:=hc; cases hq)
      | cases hc
  case makeMap t r =>
    cases r with
    | some _ => cases hc
    | none =>
      simp at hc; subst hc;simp [ZA] at h;obtain ⟨rfl, rfl⟩:=h;obtain ⟨ρ', h1, h2, h3⟩:=hH.newObj (.map [] 0) (.map #[] 0) (ORel.q0p.2 ⟨#[], rfl, rfl, λk e kv he => by simp at he⟩);refine ⟨.map (some w.heap.size), _, ρ', .inl ?_, .map _ _ (by simp) (λp hp => ?_), h2, h3⟩
      . simp [execOp, Instr.makeMap]
      . rw [h1] at hp; obtain rfl:=osj hp; rfl
  case lookup t x i jt =>
    split at hc
    . rename_i kt e hu
      cases hk:Lx P kt with
      | none => simp [hk] at hc
      | some mk =>
        cases cg:P.info? e with
        | none => simp [hk, cg] at hc
        | some inf =>
          cases hz:inf.zero with
          | none => simp [hk, cg, hz] at hc
          | some z => simp [hk, cg, hz] at hc; obtain ⟨_, rfl⟩:=hc; cases hq
    . cases hc
  case mapUpdate t m k x =>
    simp at ai;have hm:=hE m ai.1;have fT:=hE k ai.2.1;have hx:=hE x ai.2.2;split at hc
    . rename_i kt e hu
      cases hk:Lx P kt with
      | none => simp [hk] at hc
      | some mk =>
        simp [hk] at hc; subst hc;obtain ⟨d, hd, dT⟩:=Nt hk;simp only [ZA] at h;split at h
        . rename_i i iq
          rw [iq] at hm;split at h
          . rename_i es clock aF
            split at h
            . rename_i aj
              simp only [z8] at aj;obtain ⟨bR, ae⟩:=aj;simp at h; obtain ⟨rfl, rfl⟩:=h;obtain ⟨p, entries, eL, hp, hblk, aI⟩:=XI hH aF hm;have fq:ev k = Q6 env k:=PT bR fT;have bS:(getObj p.blk).run P w = .ok (.map entries clock) w:=QG hblk (λ_ _ _ e => by cases e);have aW:∀ O', (setObj p.blk O').run P w = .ok () (Pb w p.blk O'):=λO' => Z2 hblk (λ_ _ _ e => by cases e);rcases K0 hd dT bR (Q6 env x) clock es entries.toList aI ae with ⟨h1, h2, h3⟩ | ⟨j, a, a', h1, h2, h3, h4, h5, h6⟩
              . rw [h3]
                obtain ⟨k1, k2⟩:=hH.setObj (i:=i) (p:=p) hp (Xy aF) (o':=.map (es ++ [(Q6 env k, Q6 env x, clock)]) (clock + 1))
                  (O':=.map (entries.push { key:=ev k, val:=ev x, born:=clock }) (clock + 1)) (ORel.q0p.2 ⟨_, rfl, by
                    rw [Array.toList_push];exact DF aI ⟨fq, rfl, hx⟩⟩)
                refine ⟨undef, _, ρ, .inr ⟨?_, rfl⟩, JM, k1, k2⟩;simp only [execOp];simp only [Instr.mapUpdate, zA, Q0 hu, zj, eL, bS, fq, ZF hd dT bR];rw [h2];simp only [zj, aW, xe]
              . rw [h6]
                have iJ:((entries[j]?).map (·.key)).getD (Q6 env k) = a.1:=by
                  rw [<- Array.getElem?_toList, h3];simp [(aI.2 j a' a h3 h2).1]
                have fC:ZC mk a.1 = true:=zf.1 ae a (zK h2)
                obtain ⟨k1, k2⟩:=hH.setObj (i:=i) (p:=p) hp (Xy aF) (o':=.map (es.set j (Q6 env k, Q6 env x, a.2.2)) clock)
                  (O':=.map (entries.modify (0 + j) λe => { e with key:=Q6 env k, val:=ev x }) clock) (ORel.q0p.2 ⟨_, rfl, by
                    rw [Array.toList_modify, xl];exact GZ aI j _ _ (λe he => by
                      obtain rfl:a' = e:=osj (h3.symm.trans he);exact ⟨rfl, (aI.2 j a' a h3 h2).2.1, hx⟩)⟩)
                refine ⟨undef, _, ρ, .inr ⟨?_, rfl⟩, JM, k1, k2⟩;simp only [execOp];simp only [Instr.mapUpdate, zA, Q0 hu, zj, eL, bS, fq, ZF hd dT bR];rw [h4];simp only [zj, zA, xl, iJ];have bk:(Instr.keyThatStays a.1 (Q6 env k)).run P w = .ok (Q6 env k) w:=by unfold Instr.keyThatStays;rw [z7 (Gc bR fC h5)];rfl
                rw [bk];simp only [zj, aW, xe]
            . cases h
          . cases h
        . cases h
    . cases hc
  case insert t m k x =>
    simp at ai;have hm:=hE m ai.1;have fT:=hE k ai.2.1;have hx:=hE x ai.2.2;split at hc
    . rename_i kt e hu
      cases hk:Lx P kt with
      | none => simp [hk] at hc
      | some mk =>
        simp [hk] at hc; subst hc;obtain ⟨d, hd, dT⟩:=Nt hk;simp only [ZA] at h;split at h
        . rename_i i iq
          rw [iq] at hm;split at h
          . rename_i es clock aF
            split at h
            . rename_i aj
              simp only [z8] at aj;obtain ⟨bR, ae⟩:=aj;simp at h; obtain ⟨rfl, rfl⟩:=h;obtain ⟨p, entries, eL, hp, hblk, aI⟩:=XI hH aF hm;have fq:ev k = Q6 env k:=PT bR fT;have bS:(getObj p.blk).run P w = .ok (.map entries clock) w:=QG hblk (λ_ _ _ e => by cases e);have aW:∀ O', (setObj p.blk O').run P w = .ok () (Pb w p.blk O'):=λO' => Z2 hblk (λ_ _ _ e => by cases e);rcases K0 hd dT bR (Q6 env x) clock es entries.toList aI ae with ⟨h1, h2, h3⟩ | ⟨j, a, a', h1, h2, h3, h4, h5, h6⟩
              . rw [h3]
                obtain ⟨k1, k2⟩:=hH.setObj (i:=i) (p:=p) hp (Xy aF) (o':=.map (es ++ [(Q6 env k, Q6 env x, clock)]) (clock + 1))
                  (O':=.map (entries.push { key:=ev k, val:=ev x, born:=clock }) (clock + 1)) (ORel.q0p.2 ⟨_, rfl, by
                    rw [Array.toList_push];exact DF aI ⟨fq, rfl, hx⟩⟩)
                refine ⟨undef, _, ρ, .inr ⟨?_, rfl⟩, JM, k1, k2⟩;simp only [execOp];simp only [Instr.mapUpdate, zA, Q0 hu, zj, eL, bS, fq, ZF hd dT bR];rw [h2];simp only [zj, aW, xe]
              . rw [h6]
                have iJ:((entries[j]?).map (·.key)).getD (Q6 env k) = a.1:=by
                  rw [<- Array.getElem?_toList, h3];simp [(aI.2 j a' a h3 h2).1]
                have fC:ZC mk a.1 = true:=zf.1 ae a (zK h2)
                obtain ⟨k1, k2⟩:=hH.setObj (i:=i) (p:=p) hp (Xy aF) (o':=.map (es.set j (Q6 env k, Q6 env x, a.2.2)) clock)
                  (O':=.map (entries.modify (0 + j) λe => { e with key:=Q6 env k, val:=ev x }) clock) (ORel.q0p.2 ⟨_, rfl, by
                    rw [Array.toList_modify, xl];exact GZ aI j _ _ (λe he => by
                      obtain rfl:a' = e:=osj (h3.symm.trans he);exact ⟨rfl, (aI.2 j a' a h3 h2).2.1, hx⟩)⟩)
                refine ⟨undef, _, ρ, .inr ⟨?_, rfl⟩, JM, k1, k2⟩;simp only [execOp];simp only [Instr.mapUpdate, zA, Q0 hu, zj, eL, bS, fq, ZF hd dT bR];rw [h4];simp only [zj, zA, xl, iJ];have bk:(Instr.keyThatStays a.1 (Q6 env k)).run P w = .ok (Q6 env k) w:=by unfold Instr.keyThatStays;rw [z7 (Gc bR fC h5)];rfl
                rw [bk];simp only [zj, aW, xe]
            . cases h
          . cases h
        . cases h
    . cases hc
  case mapEntry t m k =>
    simp at ai;have hm:=hE m ai.1;have fT:=hE k ai.2;split at hc
    . rename_i kt e hu
      cases hk:Lx P kt with
      | none => simp [hk] at hc
      | some mk =>
      cases cg:P.info? e with
      | none => simp [hk, cg] at hc
      | some inf =>
      cases hz:inf.zero with
      | none => simp [hk, cg, hz] at hc
      | some z =>
        simp [hk, cg, hz] at hc;obtain ⟨lE, rfl⟩:=hc;obtain ⟨d, hd, dT⟩:=Nt hk;have kB:∀ w', (zeroValue e).run P w' = .ok z w':=λw' => Zi cg hz w';have ez:VRel ρ U.n z z:=VF lE;simp only [ZA] at h;split at h
        . rename_i i iq
          rw [iq] at hm;split at h
          . rename_i es clock aF
            split at h
            . rename_i aj
              simp only [z8] at aj;obtain ⟨bR, ae⟩:=aj;obtain ⟨p, entries, eL, hp, hblk, aI⟩:=XI hH aF hm;have fq:ev k = Q6 env k:=PT bR fT;have bS:(getObj p.blk).run P w = .ok (.map entries clock) w:=QG hblk (λ_ _ _ e => by cases e);have aW:∀ O', (setObj p.blk O').run P w = .ok () (Pb w p.blk O'):=λO' => Z2 hblk (λ_ _ _ e => by cases e);split at h
              . rename_i e0 hf
                simp at h; obtain ⟨rfl, rfl⟩:=h;rcases K0 hd dT bR e0.2.1 clock es entries.toList aI ae with ⟨h1, h2, h3⟩ | ⟨j, a, a', h1, h2, h3, h4, h5, h6⟩
                . rw [hf] at h1; cases h1
                . obtain rfl:e0 = a:=by rw [hf] at h1; exact osj h1
                  rw [h6];have lJ:entries[j]? = some a':=by rw [<- Array.getElem?_toList]; exact h3
                  have iJ:((entries[j]?).map (·.key)).getD (Q6 env k) = e0.1:=by
                    rw [lJ]; simp [(aI.2 j a' e0 h3 h2).1]
                  have qb:((entries[j]?).map λx => (x.born:Int)).getD 0 = (e0.2.2:Int):=by rw [lJ]; simp [(aI.2 j a' e0 h3 h2).2.1]
                  have fC:ZC mk e0.1 = true:=zf.1 ae e0 (zK h2);have ny:=(aI.2 j a' e0 h3 h2).2.2
                  obtain ⟨k1, k2⟩:=hH.setObj (i:=i) (p:=p) hp (Xy aF) (o':=.map (es.set j (Q6 env k, e0.2.1, e0.2.2)) clock)
                    (O':=.map (entries.modify (0 + j) λe => { e with key:=Q6 env k }) clock) (ORel.q0p.2 ⟨_, rfl, by
                      rw [Array.toList_modify, xl];exact GZ aI j _ _ (λe he => by
                        obtain rfl:a' = e:=osj (h3.symm.trans he);exact ⟨rfl, (aI.2 j a' e0 h3 h2).2.1, ny⟩)⟩)
                  refine ⟨.tuple #[a'.val, .int .i64 e0.2.2], _, ρ, .inl ?_, VRel.q0j (LRel.cons ny (LRel.cons (.int _ _) (LRel.nil _ _))), k1, k2⟩;simp only [execOp];simp only [Instr.mapEntry, zA, Q0 hu, zj, eL, bS, fq, ZF hd dT bR];rw [h4];simp only [zj, zA, xl, iJ, qb];have bk:(Instr.keyThatStays e0.1 (Q6 env k)).run P w = .ok (Q6 env k) w:=by unfold Instr.keyThatStays;rw [z7 (Gc bR fC h5)];rfl
                  rw [bk];simp only [zj, aW, xe];rfl
              . rename_i hf
                simp at h; obtain ⟨rfl, rfl⟩:=h;rcases K0 hd dT bR z clock es entries.toList aI ae with ⟨h1, h2, h3⟩ | ⟨j, a, a', h1, h2, h3, h4, h5, h6⟩
                . rw [h3]
                  obtain ⟨k1, k2⟩:=hH.setObj (i:=i) (p:=p) hp (Xy aF) (o':=.map (es ++ [(Q6 env k, z, clock)]) (clock + 1))
                    (O':=.map (entries.push { key:=Q6 env k, val:=z, born:=clock }) (clock + 1)) (ORel.q0p.2 ⟨_, rfl, by
                      rw [Array.toList_push];exact DF aI ⟨rfl, rfl, ez⟩⟩)
                  refine ⟨.tuple #[z, .int .i64 clock], _, ρ, .inl ?_, VRel.q0j (LRel.cons ez (LRel.cons (.int _ _) (LRel.nil _ _))), k1, k2⟩;simp only [execOp];simp only [Instr.mapEntry, zA, Q0 hu, zj, eL, bS, fq, ZF hd dT bR];rw [h2];simp only [zj, zA, kB, aW, xe];rfl
                . rw [hf] at h1; cases h1
            . cases h
          . cases h
        . cases h
    . cases hc
  case entryStore t m s x =>
    simp at ai;have hm:=hE m ai.1;have hs:=hE s ai.2.1;have hx:=hE x ai.2.2;simp at hc; subst hc;simp only [ZA] at h;split at h
    . rename_i i n iq qc
      rw [iq] at hm;rw [qc] at hs;split at h
      . rename_i es clock aF
        split at h
        . rename_i j jG
          split at h
          . rename_i e0 lH
            simp at h; obtain ⟨rfl, rfl⟩:=h;obtain ⟨p, entries, eL, hp, hblk, aI⟩:=XI hH aF hm;have nC:ev s = .int .i64 n:=Y9 rfl hs;have bS:(getObj p.blk).run P w = .ok (.map entries clock) w:=QG hblk (λ_ _ _ e => by cases e);have aW:∀ O', (setObj p.blk O').run P w = .ok () (Pb w p.blk O'):=λO' => Z2 hblk (λ_ _ _ e => by cases e);have nD:entries.toList.map (λx => (x.born:Int)) = es.map (λe => (e.2.2:Int)):=by
              refine x3 λq => ?_;rw [zY, zY];cases h1:entries.toList[q]? with
              | none =>
                have:es[q]? = none:=by rw [List.getElem?_eq_none_iff] at h1 |-; rw [<- aI.1]; exact h1
                rw [this]; rfl
              | some a =>
                cases h2:es[q]? with
                | none => rw [List.getElem?_eq_none_iff, <- aI.1, <- List.getElem?_eq_none_iff, h1] at h2; cases h2
                | some b => simp [(aI.2 q a b h1 h2).2.1]
            have qd:entries.findIdx? (λe => (e.born:Int) == n) = some j:=by
              have e1:entries.toList.findIdx? (λe => (e.born:Int) == n) = (entries.toList.map (λx => (x.born:Int))).findIdx? (λb => b == n):=by rw [List.findIdx?_map]; rfl
              have e2:es.findIdx? (λe => (e.2.2:Int) == n) = (es.map (λe => (e.2.2:Int))).findIdx? (λb => b == n):=by rw [List.findIdx?_map]; rfl
              have e3:entries.findIdx? (λe => (e.born:Int) == n) = entries.toList.findIdx? (λe => (e.born:Int) == n):=by rw [<- List.findIdx?_toArray, Array.toArray_toList]
              rw [e3, e1, nD, <- e2, jG]
            have cm:j < entries.toList.length:=by rw [aI.1]; exact (zg.1 lH).1
            have lJ:=z6 cm
            obtain ⟨k1, k2⟩:=hH.setObj (i:=i) (p:=p) hp (Xy aF) (o':=.map (es.set j (e0.1, Q6 env x, e0.2.2)) clock)
              (O':=.map (entries.modify j λe => { e with val:=ev x }) clock) (ORel.q0p.2 ⟨_, rfl, by
                rw [Array.toList_modify];exact GZ aI j _ _ (λe he => by
                  have hr:=aI.2 j e e0 he lH;exact ⟨hr.1, hr.2.1, hx⟩)⟩)
            refine ⟨undef, _, ρ, .inr ⟨?_, rfl⟩, JM, k1, k2⟩;simp only [execOp];simp only [Instr.entryStore, eL, zA, bS, zj, nC];simp [asInt, asIntOf, qd, aW]
          . cases h
        . cases h
      . cases h
    . cases h
  case range t x =>
    simp at ai;have hx:=hE x ai;split at hc
    . rename_i kt e hu
      simp at hc; subst hc;simp only [ZA] at h;split at h
      . rename_i m bz
        rw [bz] at hx;split at h
        . rename_i es clock wr aF
          simp at h; obtain ⟨rfl, rfl⟩:=h;obtain ⟨p, entries, eL, hp, hblk, aI⟩:=XI hH aF hx;rw [eL] at hx;obtain ⟨ρ', h1, h2, h3⟩:=hH.newObj (.iter m clock [] clock) (.mapIter (some p.blk) clock #[] clock) ⟨p.blk, rfl, hx⟩;have bS:(getObj p.blk).run P w = .ok (.map entries clock) w:=QG hblk (λ_ _ _ e => by cases e);refine ⟨.pointer (some ⟨w.heap.size, 0, none⟩), _, ρ', .inl ?_, .ptr _ _ _ (by simp) (λq hq => ?_), h2, h3⟩
          . simp [execOp, Instr.range, Q0 hu, eL, bS]
          . rw [h1] at hq; obtain rfl:=osj hq; rfl
        . cases h
      . cases h
    . cases hc
  case next x b => cases b <;> simp at hc; subst hc; simp [ZA] at h
  case entry x => simp at hc; subst hc; cases hq
  case convert s d x =>
    split at hc
    . rename_i t hs hd
      cases hi:P.info? t with
      | none => simp [hi] at hc
      | some inf => simp [hi] at hc; obtain ⟨_, rfl⟩:=hc; cases hq
    . rename_i u hs hd
      cases hi:P.info? u with
      | none => simp [hi] at hc
      | some inf => simp [hi] at hc; obtain ⟨_, rfl⟩:=hc; cases hq
    . split at hc
      . simp at hc; subst hc; cases hq
      . cases hc
    . rename_i e hs hd
      split at hc
      . rename_i he
        simp at hc; subst hc;simp only [ZA] at h;split at h
        . rename_i s' bz
          split at h
          . simp at h; obtain ⟨rfl, rfl⟩:=h
            have hx:=hE x (by simpa using ai);rw [bz] at hx;refine Cu hH hs hd he ?_;simp only [execOp, hx.q0o]
          . cases h
        . cases h
      . cases hc
    . cases hc
  case call c =>
    split at hc
    . split at hc
      . split at hc
        . simp at hc; subst hc; cases hq
        . cases hc
      . cases hc
    . rename_i aL
      split at hc
      . rename_i t mm kk dJ cP
        split at hc
        . rename_i kt e hu
          cases hk:Lx P kt with
          | none => simp [hk] at hc
          | some mk =>
            simp [hk] at hc; subst hc;obtain ⟨d, hd, dT⟩:=Nt hk;have bI:c.args = #[mm, kk]:=Array.ext' (by simpa using cP);have c_:Xo mm = true /\ Xo kk = true:=by simpa [Call.operands, aL, bI] using ai
            have hm:=hE mm c_.1;have fT:=hE kk c_.2;simp only [ZA] at h;split at h
            . rename_i i iq
              rw [iq] at hm;split at h
              . rename_i es clock aF
                split at h
                . rename_i aj
                  simp only [z8] at aj;obtain ⟨bR, ae⟩:=aj;simp at h; obtain ⟨rfl, rfl⟩:=h;obtain ⟨p, entries, eL, hp, hblk, aI⟩:=XI hH aF hm;have fq:ev kk = Q6 env kk:=PT bR fT;have bS:(getObj p.blk).run P w = .ok (.map entries clock) w:=QG hblk (λ_ _ _ e => by cases e);have aW:∀ O', (setObj p.blk O').run P w = .ok () (Pb w p.blk O'):=λO' => Z2 hblk (λ_ _ _ e => by cases e);obtain ⟨nv, nE⟩:=OC es;rcases K0 hd dT bR nv clock es entries.toList aI ae with ⟨h1, h2, h3⟩ | ⟨j, a, a', h1, h2, h3, h4, h5, h6⟩
                  . rw [P8 h1]
                    obtain ⟨k1, k2⟩:=hH.setObj (i:=i) (p:=p) hp (Xy aF) (o':=.map es clock) (O':=.map entries clock) (ORel.q0p.2 ⟨_, rfl, aI⟩);refine ⟨.tuple #[], _, ρ, .inl ?_, VRel.q0j (LRel.nil _ _), k1, k2⟩;simp only [execOp];simp [resolve, aL, bI, invoke, builtin, Builtin.delete_, dJ, Q0 hu, eL, bS, fq, ZF hd dT bR, h2, aW]
                  . obtain ⟨j0, g1, g2, g3⟩:=R2 (nv:=nv) (c:=clock) h1
                    have hj:j = j0:=by rw [g2] at h6;have hs:=congrArg (λx:List JD × Nat => x.1) h6;exact (Q5b (zg.1 g1).1 (zg.1 h2).1 hs nE).symm
                    subst hj;rw [g3];obtain ⟨k1, k2⟩:=hH.setObj (i:=i) (p:=p) hp (Xy aF) (o':=.map (es.eraseIdx j) clock) (O':=.map (entries.eraseIdxIfInBounds (0 + j)) clock) (ORel.q0p.2 ⟨_, rfl, by
                      have cm:j < entries.size:=by have:=(zg.1 h3).1;simpa using this
                      rw [xl];have e:(entries.eraseIdxIfInBounds j).toList = entries.toList.eraseIdx j:=by simp
                      rw [e];exact Cn aI j⟩)
                    refine ⟨.tuple #[], _, ρ, .inl ?_, VRel.q0j (LRel.nil _ _), k1, k2⟩;simp only [execOp];simp [resolve, aL, bI, invoke, builtin, Builtin.delete_, dJ, Q0 hu, eL, bS, fq, ZF hd dT bR, h4, aW]
                . cases h
              . cases h
            . cases h
        . cases hc
      . cases hc
    . rename_i aL
      split at hc
      . rename_i t dd ss dJ cP
        split at hc
        . rename_i e hu
          cases hi:P.info? e with
          | none => simp [hi] at hc
          | some inf =>
            simp [hi] at hc; subst hc;have bI:c.args = #[dd, ss]:=Array.ext' (by simpa using cP);have c_:Xo dd = true /\ Xo ss = true:=by simpa [Call.operands, aL, bI] using ai
            have hd:=hE dd c_.1;have hs:=hE ss c_.2;simp only [ZA] at h;split at h
            . rename_i db dn dc sb sn sc qe qc
              rw [qe] at hd; rw [qc] at hs;obtain ⟨da, th, qf⟩:=hd.q1v;obtain ⟨sa, nF, nC⟩:=hs.q1v;split at h
              . rename_i h0
                simp at h; obtain ⟨rfl, rfl⟩:=h;refine ⟨.int .i64 0, w, ρ, .inl ?_, .int _ _, hH, Ext.refl _ _ _⟩;simp only [execOp];have rO:Nat.min sn dn = 0:=h0;cases sa <;> cases da <;> simp [resolve, aL, bI, invoke, builtin, Builtin.copy_, dJ, qf, nC, Q0 hu, Qi hi, Builtin.lenOf, rO, Builtin.firstCells, loadCells, loadCellsFrom, storeCells, goInt]
              . rename_i h0
                split at h
                . rename_i i o xs bE
                  split at h
                  . rename_i cc e' wr tight hb
                    split at h
                    . rename_i aj
                      obtain ⟨rfl, nc, jM, iF⟩:=aj;simp at h; obtain ⟨rfl, rfl⟩:=h;have a8:VRel ρ U.n (.slice sb (min sn dn) sc) (.slice sa (min sn dn) nF):=by
                        rw [nC] at hs;cases hs with
                        | nilSl => exact absurd (by simp) h0
                        | slx _ _ _ _ _ iK cQ => exact .slx _ _ _ _ _ iK cQ
                        | sl i2 o2 _ _ a2 _ iK cQ =>
                          refine .sl _ _ _ _ _ _ iK λp hp => ?_;obtain ⟨k1, k2, ⟨k0, vG⟩ | ⟨o', k3, k4, k5⟩⟩:=cQ p hp
                          . exact ⟨k1, k2, .inl ⟨k0, by omega⟩⟩
                          exact ⟨k1, k2, .inr ⟨o', k3, k4, k5.imp id (λhh => ⟨by rw [hh.1]; simp, hh.2⟩)⟩⟩
                      obtain ⟨gf, us, dO, _, aS⟩:=TS hH bE a8;have hr:=aS w (Like.refl ρ w);have qd:(Builtin.firstCells inf.size (min sn dn) (.slice sa sn nF)).run P w = .ok us.toArray w:=by rw [<- hr]; cases sa <;> rfl
                      obtain ⟨p, hp, hB⟩:=hH.live i _ hb;rw [qf] at hd;obtain ⟨a2, jI, nG, aP, aQ⟩:=hd.q1a;simp at nG;obtain ⟨rfl, rfl⟩:=nG;obtain ⟨_, _, ⟨_, ig⟩ | ⟨o', qg, _, nh⟩⟩:=aQ p hp
                      . exact absurd (by rw [ig]; simp) h0
                      have ho:o' = o:=nh.resolve_right (λhh => h0 (by rw [hh.1]; simp));subst ho;obtain ⟨h2, h3⟩:=hH.store hp hb dO (o:=o') (by omega);refine ⟨.int .i64 (min sn dn:Nat), _, ρ, .inl ?_, .int _ _, h2, h3⟩;have mF:us.length = xs.length:=dO.1.symm
                      have bk:=run_storeCells_cells (P:=P) p.blk (p.shift + o') us 0 w
                        (λj hj => by rw [zU, zt]; exact hB.q0r _ (by have:=hB.2.2.1; omega))
                        (λj hj => by rw [zU, zt]; exact (hB.2.2.2.2.2 rfl).2 _ (by have:=hB.2.2.1; omega))
                        (Ky iF dO)
                      rw [zU] at bk;have qh:Nat.min sn dn = min sn dn:=rfl;simp only [execOp];simp [resolve, aL, bI, invoke, builtin, Builtin.copy_, dJ, qf, nC, Q0 hu, Qi hi, Builtin.lenOf, qh, qd, qg, bk, goInt]
                    . cases h
                  . cases h
                . cases h
            . cases h
        . cases hc
      . cases hc
    . rename_i aL
      split at hc
      . rename_i t x dJ cP
        split at hc
        . rename_i e hu
          cases hz:zeroOf P e with
          | none => simp [hz] at hc
          | some z =>
            simp [hz] at hc;obtain ⟨ig, rfl⟩:=hc;obtain ⟨inf, zv, cg, ez, fB, vH, jm⟩:=Y5 hz;have bI:c.args = #[x]:=Array.ext' (by simpa using cP);have c_:Xo x = true:=by simpa [Call.operands, aL, bI] using ai
            have hx:=hE x c_;simp only [ZA] at h;split at h
            . rename_i b n cap bz
              rw [bz] at hx;obtain ⟨a, tj, cA⟩:=hx.q1v;split at h
              . rename_i h0
                simp at h; obtain ⟨rfl, rfl⟩:=h;subst h0;refine ⟨.tuple #[], w, ρ, .inl ?_, VRel.q0j (LRel.nil _ _), hH, Ext.refl _ _ _⟩;simp only [execOp];cases a <;> simp [resolve, aL, bI, invoke, builtin, Builtin.clear_, dJ, cA, Q0 hu]
              . rename_i h0
                split at h
                . rename_i i o
                  split at h
                  . rename_i cc e' wr tight hb
                    split at h
                    . rename_i aj
                      obtain ⟨rfl, jM, iF⟩:=aj;simp at h; obtain ⟨rfl, rfl⟩:=h;have dO:LRel ρ U.n (H9 n z) (H9 n z):=Xn (DU n z jm);have dp:=Pq n z;have bO:(H9 n z).all cellOk = true:=EN n z iF;obtain ⟨p, hp, hB⟩:=hH.live i _ hb;rw [cA] at hx;obtain ⟨a2, jI, nG, aP, aQ⟩:=hx.q1a;simp at nG;obtain ⟨rfl, rfl⟩:=nG;obtain ⟨_, _, ⟨_, ig⟩ | ⟨o', qg, _, nh⟩⟩:=aQ p hp
                      . exact absurd ig h0
                      have ho:o' = o:=nh.resolve_right (λhh => h0 hh.1);subst ho;obtain ⟨h2, h3⟩:=hH.store hp hb dO (o:=o') (by omega);refine ⟨.tuple #[], _, ρ, .inl ?_, VRel.q0j (LRel.nil _ _), h2, h3⟩
                      have bk:=run_storeCells_cells (P:=P) p.blk (p.shift + o') (H9 n z) 0 w
                        (λj hj => by rw [zU, zt]; exact hB.q0r _ (by have:=hB.2.2.1; omega))
                        (λj hj => by rw [zU, zt]; exact (hB.2.2.2.2.2 rfl).2 _ (by have:=hB.2.2.1; omega))
                        (Ky bO dO)
                      rw [zU] at bk;have tk:(Builtin.zeroCells zv.cells n).toList = H9 n z:=by have:=DK zv.cells z fB (by intro hh; rw [hh] at ig; exact ig rfl) n;simpa [Builtin.zeroCells, <- fB] using this
                      simp only [execOp];obtain ⟨n', rfl⟩:∃ k, n = k + 1:=⟨n - 1, by omega⟩;simp [resolve, aL, bI, invoke, builtin, Builtin.clear_, dJ, cA, Q0 hu, Zi cg ez, tk, qg, bk]
                    . cases h
                  . cases h
                . cases h
            . cases h
        . cases hc
      . cases hc
    . split at hc
      . simp at hc; subst hc; cases hq
      . cases hc
    . rename_i aL
      split at hc
      . rename_i t x nn dJ cP
        split at hc
        . rename_i e hu
          split at hc
          . rename_i pV
            simp at hc; subst hc;have bI:c.args = #[x, nn]:=Array.ext' (by simpa using cP);have c_:Xo x = true /\ Xo nn = true:=by simpa [Call.operands, aL, bI] using ai
            have hx:=hE x c_.1;have hn:=hE nn c_.2;simp only [ZA] at h;split at h
            . rename_i q k bz az
              rw [bz] at hx; rw [az] at hn;have fS:=hn.q0g;split at h
              . rename_i h0
                simp at h; obtain ⟨rfl, rfl⟩:=h;subst h0;refine ⟨.string ⟨#[]⟩, w, ρ, .inl ?_, .string _, hH, Ext.refl _ _ _⟩;have cF:∃ q', ev x = .pointer q':=by
                  cases q with
                  | none => exact ⟨none, hx.q0n⟩
                  | some a => obtain ⟨b, hb⟩:=hx.q1h; exact ⟨_, hb⟩
                obtain ⟨q', cF⟩:=cF;simp [execOp, resolve, aL, bI, invoke, builtin, cF, fS, Sx c.argTypes ty t dJ q' w];rfl
              . rename_i h0
                split at h
                . rename_i i o
                  split at h
                  . rename_i cc el tight hb
                    split at h
                    . rename_i aj
                      obtain ⟨ju, pw, het, jM⟩:=aj;split at h
                      . rename_i s' p9
                        simp at h; obtain ⟨rfl, rfl⟩:=h;obtain ⟨ns, mN, rfl⟩:=Rc p9;obtain ⟨p, hp, h1, h2, h3, ⟨C, e', f, hC, pr, lG⟩, h5, h6⟩:=hH.live i _ hb;obtain ⟨_, _, cA⟩:=hx.q0w hp;have jO:ns.length = k.toNat:=by have:=congrArg List.length mN;simp at this; omega
                        have bj:∀ j n, ns[j]? = some n -> w.cell? ((⟨p.blk, p.shift + o, none⟩:Addr).add j) = some (.int .u8 n):=λj n hj => by
                          have cm:j < ns.length:=(zg.1 hj).1;have dP:cc[o + j]? = some (.int .u8 n):=by
                            have:((cc.drop o).take k.toNat)[j]? = some (.int .u8 n):=by rw [mN, zY, hj]; rfl
                            rwa [zP, z7 (by omega), zH] at this
                          obtain ⟨u, cD, cG⟩:=h5 (o + j) _ dP;have gm:(⟨p.blk, p.shift + o, none⟩:Addr).add j = ⟨p.blk, p.shift + (o + j), none⟩:=by unfold Addr.add; split <;> simp_all <;> omega
                          rw [gm, cD, cG.q0g]
                        have eE:w.shape? p.blk = some (e, C.size):=by simp [World.shape?, hC, lG, het]
                        have hr:=Q1k (P:=P) c.argTypes ty t e dJ hu pV ⟨p.blk, p.shift + o, none⟩ C.size w eE ns k ju jO (by show p.shift + o + ns.length <= C.size; omega) pw bj;obtain ⟨k1, k2⟩:=hH.freeze hp hb (p.shift + o) k.toNat;refine ⟨.string ⟨(ns.map λn => n.toNat.toUInt8).toArray⟩, _, ρ, .inl ?_, .string _, k1, k2⟩;simp [execOp, resolve, aL, bI, invoke, builtin, cA, fS, hr]
                      . cases h
                    . cases h
                  . cases h
                . cases h
            . cases h
          . cases hc
        . cases hc
      . cases hc
    . cases hc
  all_goals cases hc
theorem I4 {o:Oper}{vo:VOp}(hc:K4 P o.op=vo) (hq:vo.quiet=true) (hH:HRel ρ U w) (hE:∀ x,Xo x=true->VRel ρ U.n (Q6 env x) (ev x))
  (h:Qb vo (Q6 env) U=some (v,U')):U'=U/\C8 P ρ U w v (execOp ev o):=by
 unfold K4 at hc;split at hc
 .rename_i v' hv;subst hc;exact CX hv hq hH hE h
 .split at hc
  .rename_i x hx;subst hc;exact Ll hx hq hH hE h
  .subst hc;simp[Qb] at h
theorem Q0z {o:Oper}{vo:VOp}(hc:K4 P o.op=vo) (hq:vo.quiet=false) (hH:HRel ρ U w) (hE:∀ x,Xo x=true->VRel ρ U.n (Q6 env x) (ev x))
  (h:Qb vo (Q6 env) U=some (v,U')):Rt P ρ U w v U' (execOp ev o):=by
 unfold K4 at hc;split at hc
 .rename_i v' hv;subst hc;exact F6 hv hq hH hE h
 .split at hc
  .rename_i x hx;subst hc;exact CF hx hq hH hE h
  .subst hc;simp[Qb] at h
end
end Go.V