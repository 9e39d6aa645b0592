
import Derived.WalkKit
import Derived.Lib.Builder
import Derived.Lib.UnsafeStr
import Derived.DeepKeys
abbrev Go.z0:=@Bool.and_eq_true
abbrev Go.z6:=@if_pos
abbrev Go.z7:=@if_neg
abbrev Go.z8:=@List.getElem?_eq_getElem
abbrev Go.z9:=@Nat.le_refl
abbrev Go.zd:=@Int.toNat_natCast
abbrev Go.ze:=@_root_.cond_true
abbrev Go.zf:=@List.all_eq_true
abbrev Go.zg:=@Go.Result.andThen_ok
abbrev Go.zh:=@decide_eq_true_eq
abbrev Go.zi:=@Option.map_eq_some_iff
abbrev Go.zj:=@List.getD_eq_getElem?_getD
abbrev Go.zk:=@Nat.mul_le_mul_right
abbrev Go.zl:=@List.getElem_mem
abbrev Go.zm:=@Bool.false_eq_true
abbrev Go.zn:=@List.mem_cons_self
abbrev Go.zo:=@Nat.lt_or_ge
abbrev Go.zp:=@Go.Sem.run_bind
abbrev Go.zq:=@List.getElem?_eq_some_iff
abbrev Go.zr:=@Bool.or_eq_true
abbrev Go.zt:=@if_true
abbrev Go.zu:=@of_decide_eq_true
abbrev Go.zw:=@Nat.add_assoc
abbrev Go.zx:=@Nat.le_of_ble_eq_true
abbrev Go.zy:=@Option.bind_eq_bind
abbrev Go.zz:=@decide_eq_false_iff_not
abbrev Go.zA:=@Nat.blt_eq
abbrev Go.zB:=@List.mem_cons_of_mem
abbrev Go.zC:=@of_decide_eq_false
abbrev Go.zE:=@List.length_set
abbrev Go.zF:=@Nat.add_mul
abbrev Go.zG:=@List.length_append
abbrev Go.zH:=@Nat.lt_of_lt_of_le
abbrev Go.zI:=@List.take_of_length_le
abbrev Go.zJ:=@Int.eq_ofNat_of_zero_le
abbrev Go.zK:=@List.mem_singleton
abbrev Go.zL:=@Nat.eq_of_beq_eq_true
abbrev Go.zM:=@_root_.cond_false
abbrev Go.zN:=@List.mem_cons
abbrev Go.zO:=@List.map_cons
abbrev Go.zP:=@List.all_cons
abbrev Go.zQ:=@Nat.shiftRight_eq_div_pow
abbrev Go.zR:=@List.cons.inj
abbrev Go.zS:=@List.mem_map
abbrev Go.zT:=@List.ext_getElem?
abbrev Go.zU:=@Nat.zero_add
abbrev Go.zV:=@List.length_cons
abbrev Go.zW:=@List.length_pos_iff
abbrev Go.zX:=@beq_iff_eq
abbrev Go.zY:=@Option.bind_eq_some_iff
abbrev Go.zZ:=@List.getElem?_drop
abbrev Go.z_:=@List.length_eq_one_iff
abbrev Go.x3:=@decide_eq_true
abbrev Go.x4:=@Nat.add_zero
abbrev Go.x5:=@List.length_eq_zero_iff
abbrev Go.x6:=@Nat.le_trans
abbrev Go.x7:=@List.getElem?_eq_none
abbrev Go.x8:=@List.nodup_cons
abbrev Go.x9:=@List.append_assoc
abbrev Go.xc:=@List.mem_iff_getElem?
abbrev Go.xd:=@List.mem_append
abbrev Go.xe:=@List.mem_of_getElem?
abbrev Go.xg:=@List.mapM_cons
abbrev Go.xh:=@Nat.lt_of_le_of_lt
abbrev Go.xi:=@Option.bind_some
abbrev Go.xj:=@Go.Sem.run_pure
abbrev Go.xk:=@List.mem_range
abbrev Go.xl:=@decide_eq_false
abbrev Go.xm:=@List.map_congr_left
abbrev Go.xn:=@Nat.mod_eq_of_lt
abbrev Go.xp:=@Option.some.injEq
abbrev Go.xq:=@List.cons_append
abbrev Go.xr:=@Nat.one_mul
abbrev Go.xt:=@List.mem_filter
abbrev Go.xu:=@List.getElem?_take
abbrev Go.xw:=@List.replicate_succ
abbrev Go.xx:=@List.getElem?_map
abbrev Go.xy:=@List.getElem?_set
abbrev Go.xA:=@List.take_append_drop
abbrev Go.xB:=@List.drop_zero
abbrev Go.xC:=@List.append_nil
abbrev Go.xD:=@List.nil_append
abbrev Go.xE:=@List.any_eq_true
abbrev Go.xF:=@List.getElem?_append_right
abbrev Go.xG:=@List.length_map
abbrev Go.xH:=@List.getElem?_append_left
abbrev Go.xI:=@Array.getElem?_eq_getElem
abbrev Go.xJ:=@Nat.min_eq_left
abbrev Go.xK:=@List.length_replicate
abbrev Go.xL:=@List.length_singleton
abbrev Go.xM:=@Bool.not_eq_false'
abbrev Go.xN:=@List.getElem_map
abbrev Go.xO:=@Array.getElem?_eq_some_iff
abbrev Go.xP:=@List.length_take
abbrev Go.xQ:=@List.mem_append_right
abbrev Go.xR:=@List.drop_eq_getElem_cons
abbrev Go.xS:=@List.map_append
abbrev Go.xT:=@Nat.mod_lt
abbrev Go.xU:=@List.any_eq_false
abbrev Go.xV:=@List.sum_cons
abbrev Go.xW:=@Bool.and_true
abbrev Go.xX:=@List.pairwise_cons
abbrev Go.xY:=@List.foldl_cons
abbrev Go.xZ:=@List.perm_ext_iff_of_nodup
abbrev Go.x_:=@List.mem_append_left
abbrev Go.w5:=@Nat.add_comm
abbrev Go.w_:=@Bool.not_eq_true
abbrev Go.y0:=@beq_eq_false_iff_ne
abbrev Go.y6:=@List.take_succ_cons
abbrev Go.y7:=@Bool.not_true
abbrev Go.y8:=@Bool.or_false
abbrev Go.y9:=@Nat.mul_one
abbrev Go.ya:=@Nat.lt_irrefl
abbrev Go.yb:=@List.map_map
abbrev Go.yc:=@Option.map_some
abbrev Go.yd:=@Nat.not_lt
abbrev Go.ye:=@Int.natCast_add
abbrev Go.yf:=@List.drop_succ_cons
abbrev Go.yg:=@List.pairwise_map
abbrev Go.yi:=@List.length_drop
abbrev Go.yj:=@List.take_zero
theorem Go.osj.{u} {α:Type u} {a b:α}:some a=some b->a=b:=Option.some.inj
namespace Go.V
open Go
def t64:List Int:=[0,1,56,2,57,49,28,3,61,58,42,50,38,29,17,4,62,47,59,36,45,43,51,22,53,39,33,30,24,18,12,5,63,55,48,27,60,41,37,16,46,35,44,21,52,32,23,11,54,26,40,15,34,20,31,10,25,14,19,9,13,8,7,6]
def Q9k:Nat->Option (List Value)
 |0=>some (t64.map λx=>.int .u8 x)
 |_=>none
structure El where
 sz:Nat
 ty:Nat
 deriving DecidableEq,Inhabited
inductive VObj where
 |map (es:List (Value×Value×Nat)) (clock:Nat)
 |iter (m since:Nat) (seen:List Nat) (last:Nat)
 |lp (env:List Value) (r:Loop) (st:LoopState) (pend:Option Code)
 |siter (s:ByteArray) (pos:Nat)
 deriving Inhabited
inductive Blk where
 |cells (c:List Value) (esz:El) (wr tight:Bool)
 |obj (o:VObj) (wr:Bool)
 deriving Inhabited
def Blk.wr:Blk->Bool
 |.cells _ _ w _=>w
 |.obj _ w=>w
structure Heap where
 get:Nat->Option Blk
 n:Nat
 wf:∀ i,n<=i->get i=none
theorem Heap.lt (U:Heap) {i:Nat}{b:Blk}(h:U.get i=some b):i<U.n:=by
 rcases zo i U.n with h'|h'
 .exact h'
 .rw[U.wf i h'] at h;cases h
def Heap.push (U:Heap) (b:Blk):Heap where
 get i:=if i=U.n then some b else U.get i
 n:=U.n+1
 wf i h:=by rw[z7 (by omega)];exact U.wf i (by omega)
def Heap.upd (U:Heap) (i:Nat) (b:Blk):Heap where
 get j:=if j=i/\i<U.n then some b else U.get j
 n:=U.n
 wf j h:=by rw[z7 (by omega)];exact U.wf j h
def Heap.kill (U:Heap) (i:Nat):Heap where
 get j:=if j=i then none else U.get j
 n:=U.n
 wf j h:=by split;rfl;exact U.wf j h
@[simp] theorem Heap.push_n (U:Heap) (b:Blk):(U.push b).n=U.n+1:=rfl
@[simp] theorem Heap.q2k (U:Heap) (i:Nat) (b:Blk):(U.upd i b).n=U.n:=rfl
@[simp] theorem Heap.kill_n (U:Heap) (i:Nat):(U.kill i).n=U.n:=rfl
theorem Heap.q0a (U:Heap) (b:Blk):(U.push b).get U.n=some b:=by simp[Heap.push]
theorem Heap.q0e (U:Heap) (b:Blk) {i:Nat}(h:i≠U.n):(U.push b).get i=U.get i:=by simp[Heap.push,h]
theorem Heap.q0i (U:Heap) (b:Blk) {i:Nat}(h:i<U.n):(U.push b).get i=U.get i:=U.q0e b (Nat.ne_of_lt h)
theorem Heap.q0c (U:Heap) (b:Blk) {i:Nat}(h:i<U.n):(U.upd i b).get i=some b:=by simp[Heap.upd,h]
theorem Heap.q0b (U:Heap) (b:Blk) {i j:Nat}(h:j≠i):(U.upd i b).get j=U.get j:=by simp[Heap.upd,h]
theorem Heap.q0g (U:Heap) (i:Nat):(U.kill i).get i=none:=by simp[Heap.kill]
theorem Heap.q0d (U:Heap) {i j:Nat}(h:j≠i):(U.kill i).get j=U.get j:=by simp[Heap.kill,h]
structure Pl where
 blk:Nat
 shift:Nat
 ext:Nat
 esz:El
 tight:Bool
abbrev Plc:=Nat->Option Pl
def poison:Value:=.chan none
inductive VRel (ρ:Plc) (n:Nat):Value->Value->Prop
 |poison (c:Value):VRel ρ n poison c
 |bool (b:Bool):VRel ρ n (.bool b) (.bool b)
 |int (k:IntKind) (x:Int):VRel ρ n (.int k x) (.int k x)
 |string (s:ByteArray):VRel ρ n (.string s) (.string s)
 |nilPtr:VRel ρ n (.pointer none) (.pointer none)
 |nilSl:VRel ρ n (.slice none 0 0) (.slice none 0 0)
 |nilMap:VRel ρ n (.map none) (.map none)
 |nilFunc:VRel ρ n .nilFunc .nilFunc
 |nilIface:VRel ρ n .nilIface .nilIface
 |glob (g o s:Nat):VRel ρ n (.pointer (some ⟨g,o,some s⟩)) (.pointer (some ⟨g,o,none⟩))
 |ptr (i o:Nat) (a:Addr) (hi:i<n) (h:∀ p,ρ i=some p->a=⟨p.blk,p.shift+o,none⟩):VRel ρ n (.pointer (some ⟨i,o,none⟩)) (.pointer (some a))
 |sl (i o len cap:Nat) (a:Addr) (aq:Nat) (hi:i<n)
   (h:∀ p,ρ i=some p->cap<=aq/\(p.tight=true->aq=cap)/\(aq=0/\len=0\/∃ o',a=⟨p.blk,p.shift+o',none⟩/\o'+aq*p.esz.sz<=p.ext/\(o'=o\/(len=0/\cap=0)))) :
   VRel ρ n (.slice (some ⟨i,o,none⟩) len cap) (.slice (some a) len aq)
 |slx (i o len cap:Nat) (a:Addr) (hi:i<n) (h:∀ p,ρ i=some p->a=⟨p.blk,p.shift+o,none⟩/\o+cap*p.esz.sz<=p.ext) :
   VRel ρ n (.slice (some ⟨i,o,some 0⟩) len cap) (.slice (some a) len cap)
 |map (i r:Nat) (hi:i<n) (h:∀ p,ρ i=some p->r=p.blk):VRel ρ n (.map (some i)) (.map (some r))
 |yield (i r:Nat) (hi:i<n) (h:∀ p,ρ i=some p->r=p.blk):VRel ρ n (.func (.yield i) #[] #[]) (.func (.yield r) #[] #[])
 |iface (t:TypeId) (v c:Value) (h:VRel ρ n v c):VRel ρ n (.iface t v) (.iface t c)
 |func (fn:FuncId) (fs gs cs ds:Array Value) (hf:fs.size=gs.size) (hc:cs.size=ds.size)
   (h1:∀ i (h1:i<fs.size) (h2:i<gs.size),VRel ρ n fs[i] gs[i]) (h2:∀ i (h1:i<cs.size) (h2:i<ds.size),VRel ρ n cs[i] ds[i]):VRel ρ n (.func (.func fn) fs cs) (.func (.func fn) gs ds)
 |agg (cs ds:Array Value) (hc:cs.size=ds.size) (h:∀ i (h1:i<cs.size) (h2:i<ds.size),VRel ρ n cs[i] ds[i]):VRel ρ n (.agg cs) (.agg ds)
 |tuple (cs ds:Array Value) (hc:cs.size=ds.size) (h:∀ i (h1:i<cs.size) (h2:i<ds.size),VRel ρ n cs[i] ds[i]):VRel ρ n (.tuple cs) (.tuple ds)
theorem VRel.mono {ρ ρ':Plc}{n n':Nat}(hn:n<=n') (hρ:∀ i,i<n->∀ p,ρ' i=some p->ρ i=some p) {v c:Value}(h:VRel ρ n v c):VRel ρ' n' v c:=by
 induction h with
 |poison c=>exact .poison c
 |bool b=>exact .bool b
 |int k x=>exact .int k x
 |string s=>exact .string s
 |nilPtr=>exact .nilPtr
 |nilSl=>exact .nilSl
 |nilMap=>exact .nilMap
 |nilFunc=>exact .nilFunc
 |nilIface=>exact .nilIface
 |glob g o s=>exact .glob g o s
 |ptr i o a hi h=>exact .ptr i o a (by omega) λp hp=>h p (hρ i hi p hp)
 |sl i o len cap a aq hi h=>exact .sl i o len cap a aq (by omega) λp hp=>h p (hρ i hi p hp)
 |slx i o len cap a hi h=>exact .slx i o len cap a (by omega) λp hp=>h p (hρ i hi p hp)
 |map i r hi h=>exact .map i r (by omega) λp hp=>h p (hρ i hi p hp)
 |yield i r hi h=>exact .yield i r (by omega) λp hp=>h p (hρ i hi p hp)
 |iface t v c _ ih=>exact .iface t v c ih
 |func fn fs gs cs ds hf hc _ _ l7 l8=>exact .func fn fs gs cs ds hf hc l7 l8
 |agg cs ds hc _ ih=>exact .agg cs ds hc ih
 |tuple cs ds hc _ ih=>exact .tuple cs ds hc ih
def LRel (ρ:Plc) (n:Nat) (vs cs:List Value):Prop:=vs.length=cs.length/\∀ (i:Nat) (v c:Value),vs[i]?=some v->cs[i]?=some c->VRel ρ n v c
theorem LRel.mono {ρ ρ':Plc}{n n':Nat}(hn:n<=n') (hρ:∀ i,i<n->∀ p,ρ' i=some p->ρ i=some p) {v c:List Value}(h:LRel ρ n v c):LRel ρ' n' v c :=
 ⟨h.1,λi v c hv hc=>(h.2 i v c hv hc).mono hn hρ⟩
theorem LRel.nil (ρ:Plc) (n:Nat):LRel ρ n [] []:=⟨rfl,λi v c h _=>by simp at h⟩
theorem LRel.cons {ρ:Plc}{n:Nat}{v c:Value}{vs cs:List Value}(h:VRel ρ n v c) (hs:LRel ρ n vs cs):LRel ρ n (v::vs) (c::cs):=by
 refine⟨by simp[hs.1],λi v' c' hv hc=>?_⟩;cases i with
 |zero=>simp at hv hc;subst hv;subst hc;exact h
 |succ i=>simp at hv hc;exact hs.2 i v' c' hv hc
theorem LRel.get {ρ:Plc}{n:Nat}{vs cs:List Value}(h:LRel ρ n vs cs) {i:Nat}{v:Value}(hv:vs[i]?=some v):∃ c,cs[i]?=some c/\VRel ρ n v c:=by
 have aj:i<vs.length:=(zq.1 hv).1;have cX:i<cs.length:=by have:=h.1;omega
 exact⟨cs[i],z8 cX,h.2 i v _ hv (z8 cX)⟩
theorem LRel.set {ρ:Plc}{n:Nat}{vs cs:List Value}(h:LRel ρ n vs cs) (i:Nat) {v c:Value}(hv:VRel ρ n v c):LRel ρ n (vs.set i v) (cs.set i c):=by
 refine⟨by simp[h.1],λj v' c' h1 h2=>?_⟩;rw[xy] at h1 h2;by_cases cT:i=j
 .simp_all
 .simp only[cT,if_false] at h1 h2;exact h.2 j v' c' h1 h2
theorem LRel.append {ρ:Plc}{n:Nat}{vs cs cG cs':List Value}(h:LRel ρ n vs cs) (h':LRel ρ n cG cs'):LRel ρ n (vs++cG) (cs++cs'):=by
 refine⟨by simp[h.1,h'.1],λi v c hv hc=>?_⟩;have e:=h.1;rw[List.getElem?_append] at hv hc;split at hv<;>split at hc<;>try omega
 .exact h.2 i v c hv hc
 .rw[e] at hv;exact h'.2 _ v c hv hc
theorem VRel.q1n {ρ:Plc}{n:Nat}{cs ds:List Value}(h:LRel ρ n cs ds):VRel ρ n (.agg cs.toArray) (.agg ds.toArray) :=
 .agg _ _ (by simpa using h.1) λi h1 h2=>h.2 i _ _ (by simp) (by simp)
theorem VRel.q0j {ρ:Plc}{n:Nat}{cs ds:List Value}(h:LRel ρ n cs ds):VRel ρ n (.tuple cs.toArray) (.tuple ds.toArray) :=
 .tuple _ _ (by simpa using h.1) λi h1 h2=>h.2 i _ _ (by simp) (by simp)
theorem LRel.of_array {ρ:Plc}{n:Nat}{cs ds:Array Value}(hc:cs.size=ds.size) (h:∀ i (h1:i<cs.size) (h2:i<ds.size),VRel ρ n cs[i] ds[i]):LRel ρ n cs.toList ds.toList:=by
 refine⟨by simpa using hc,λi v c hv dg=>?_⟩
 grind
def ORel (ρ:Plc) (n:Nat):VObj->Obj->Prop
 |.map es clock,o=>∃ entries,o=.map entries clock/\entries.size=es.length /\
   ∀ (k:Nat) (kv:Value×Value×Nat),es[k]?=some kv->∃ e:MapEntry,entries[k]?=some e/\e.key=kv.1/\e.born=kv.2.2/\VRel ρ n kv.2.1 e.val
 |.iter m since seen last,o=>∃ rm,o=.mapIter (some rm) since seen.toArray last/\VRel ρ n (.map (some m)) (.map (some rm))
 |.lp env r st pend,o=>o=.loop {r with state:=st,pending:=pend}/\LRel ρ n env r.tmps.toList
 |.siter s pos,o=>o=.stringIter s pos
def BRel (ρ:Plc) (n:Nat) (p:Pl) (w:World):Blk->Prop
 |.cells c esz wr tight=>p.esz=esz/\p.tight=tight/\c.length<=p.ext /\
   (∃ C e f,w.heap[p.blk]?=some (.cells C e f)/\p.shift+p.ext<=C.size/\e=esz.ty) /\
   (∀ (k:Nat) (v:Value),c[k]?=some v->∃ u,w.cell? ⟨p.blk,p.shift+k,none⟩=some u/\VRel ρ n v u) /\
   (wr=true->(tight=true->p.shift=0)/\∀ k,k<p.ext->w.frozen? ⟨p.blk,p.shift+k,none⟩=false)
 |.obj o _=>(p.ext=1/\p.shift=0)/\∃ O,w.heap[p.blk]?=some O/\ORel ρ n o O
structure HRel0 (ρ:Plc) (U:Heap) (w:World):Prop where
 live:∀ i b,U.get i=some b->∃ p,ρ i=some p/\BRel ρ U.n p w b
 dead:∀ i,U.get i=none->ρ i=none
 lt:∀ i p,ρ i=some p->p.blk<w.heap.size
 sep:∀ i j p q b,i≠j->ρ i=some p->ρ j=some q->U.get i=some b->b.wr=true->0<q.ext->p.blk≠q.blk
theorem HRel0.idlt {ρ:Plc}{U:Heap}{w:World}(h:HRel0 ρ U w) {i:Nat}{p:Pl}(hp:ρ i=some p):i<U.n:=by
 cases hb:U.get i with
 |none=>rw[h.dead i hb] at hp;cases hp
 |some b=>exact U.lt hb
def Wr (ρ:Plc) (U:Heap) (B:Nat):Prop:=∃ i p b,ρ i=some p/\U.get i=some b/\b.wr=true/\p.blk=B
structure Ext (ρ:Plc) (U:Heap) (w:World) (ρ':Plc) (U':Heap) (w':World):Prop where
 os:w'.os=w.os
 tape:w'.tape=w.tape
 output:w'.output=w.output
 size:w.heap.size<=w'.heap.size
 keep:∀ B,B<w.heap.size->¬ Wr ρ U B->w'.heap[B]?=w.heap[B]?
 wr:∀ B,B<w.heap.size->Wr ρ' U' B->Wr ρ U B
 n:U.n<=U'.n
 pl:∀ i,i<U.n->∀ p,ρ' i=some p->ρ i=some p
theorem Ext.refl (ρ:Plc) (U:Heap) (w:World):Ext ρ U w ρ U w :=
 ⟨rfl,rfl,rfl,z9 _,λ_ _ _=>rfl,λ_ _ h=>h,z9 _,λ_ _ _ h=>h⟩
theorem Ext.trans {ρ ρ' ep:Plc}{U U' aF:Heap}{w w' oL:World}(h:Ext ρ U w ρ' U' w') (k:Ext ρ' U' w' ep aF oL):Ext ρ U w ep aF oL where
 os:=k.os.trans h.os
 tape:=k.tape.trans h.tape
 output:=k.output.trans h.output
 size:=x6 h.size k.size
 keep B hB hW:=(k.keep B (zH hB h.size) (λhw=>hW (h.wr B hB hw))).trans (h.keep B hB hW)
 wr B hB hW:=h.wr B hB (k.wr B (zH hB h.size) hW)
 n:=x6 h.n k.n
 pl i hi p hp:=h.pl i hi p (k.pl i (zH hi h.n) p hp)
theorem Ext.lrel {ρ ρ':Plc}{U U':Heap}{w w':World}(h:Ext ρ U w ρ' U' w') {v c:List Value}(hv:LRel ρ U.n v c):LRel ρ' U'.n v c:=hv.mono h.n h.pl
theorem ORel.mono {ρ ρ':Plc}{n n':Nat}(hn:n<=n') (hρ:∀ i,i<n->∀ p,ρ' i=some p->ρ i=some p) {o:VObj}{O:Obj}(h:ORel ρ n o O):ORel ρ' n' o O:=by
 cases o with
 |map es clock =>obtain⟨entries,h1,h2,h3⟩:=h;exact⟨entries,h1,h2,λk kv hk=>let ⟨e,he,h4,h5,hv⟩:=h3 k kv hk;⟨e,he,h4,h5,hv.mono hn hρ⟩⟩
 |iter m since seen last=>obtain⟨rm,h1,h2⟩:=h;exact⟨rm,h1,h2.mono hn hρ⟩
 |lp env r st pend=>exact⟨h.1,h.2.mono hn hρ⟩
 |siter s pos=>exact h
theorem ORel.q1u {ρ:Plc}{n:Nat}{o:VObj}{C:Array Value}{e:TypeId}{f:Nat×Nat}:¬ ORel ρ n o (.cells C e f):=by
 cases o with
 |map es clock=>rintro⟨_,h,_⟩;cases h
 |iter m since seen last=>rintro⟨_,h,_⟩;cases h
 |lp env r st pend=>rintro⟨h,_⟩;cases h
 |siter s pos=>intro h;cases h
theorem ORel.q0n {ρ:Plc}{n:Nat}{o:VObj}{d:Option (List Deferred)}:¬ ORel ρ n o (.deferred d):=by
 cases o with
 |map es clock=>rintro⟨_,h,_⟩;cases h
 |iter m since seen last=>rintro⟨_,h,_⟩;cases h
 |lp env r st pend=>rintro⟨h,_⟩;cases h
 |siter s pos=>intro h;cases h
theorem BRel.mono {ρ ρ':Plc}{n n':Nat}(hn:n<=n') (hρ:∀ i,i<n->∀ p,ρ' i=some p->ρ i=some p) {p:Pl}{w w':World}(hw:w'.heap[p.blk]?=w.heap[p.blk]?) {b:Blk}(h:BRel ρ n p w b):BRel ρ' n' p w' b:=by
 cases b with
 |cells c esz wr tight =>
  obtain⟨h1,h2,h3,h4,h5,h6⟩:=h;refine⟨h1,h2,h3,by rw[hw];exact h4,λk v hk=>?_,λgS=>⟨(h6 gS).1,λk hk=>?_⟩⟩
  .obtain⟨u,hu,hv⟩:=h5 k v hk;exact⟨u,by grind [World.cell?_of_block],hv.mono hn hρ⟩
  .grind [World.frozen?_of_block]
 |obj o wr =>obtain⟨h0,O,h1,h2⟩:=h;exact⟨h0,O,by rw[hw];exact h1,h2.mono hn hρ⟩
theorem HRel0.world {ρ:Plc}{U:Heap}{w w':World}(h:HRel0 ρ U w) (hs:w.heap.size<=w'.heap.size) (hb:∀ i p,ρ i=some p->w'.heap[p.blk]?=w.heap[p.blk]?):HRel0 ρ U w' where
 live i b hi:=by obtain⟨p,hp,hB⟩:=h.live i b hi;exact⟨p,hp,hB.mono (z9 _) (λ_ _ _ h=>h) (hb i p hp)⟩
 dead:=h.dead
 lt i p hp:=zH (h.lt i p hp) hs
 sep:=h.sep
theorem HRel0.drew {ρ:Plc}{U:Heap}{w:World}(h:HRel0 ρ U w):HRel0 ρ U w.drew:=h.world (z9 _) (λ_ _ _=>rfl)
theorem Ext.drew (ρ:Plc) (U:Heap) (w:World):Ext ρ U w ρ U w.drew :=
 ⟨rfl,rfl,rfl,z9 _,λ_ _ _=>rfl,λ_ _ h=>h,z9 _,λ_ _ _ h=>h⟩
def Plc.put (ρ:Plc) (i:Nat) (p:Option Pl):Plc:=λj=>if j=i then p else ρ j
theorem HRel0.alloc {ρ:Plc}{U:Heap}{w:World}(h:HRel0 ρ U w) (c:List Value) (C:Array Value) (e:TypeId) (esz:El) (tight:Bool) (he:e=esz.ty)
  (hc:LRel ρ U.n c (C.toList.take c.length)) (hl:c.length<=C.size) :
  ∃ ρ',ρ' U.n=some ⟨w.heap.size,0,C.size,esz,tight⟩/\HRel0 ρ' (U.push (.cells c esz true tight)) (w.alloc (.cells C e))/\Ext ρ U w ρ' (U.push (.cells c esz true tight)) (w.alloc (.cells C e)):=by
 have hold:∀ k,k<w.heap.size->(w.alloc (.cells C e)).heap[k]?=w.heap[k]?:=λk hk=>by
  show (w.heap.push _)[k]?=_
  grind
 have aC:(w.alloc (.cells C e)).heap.size=w.heap.size+1:=World.size_alloc w _;have aY:∀ i,i<U.n->∀ p,(ρ.put U.n (some ⟨w.heap.size,0,C.size,esz,tight⟩)) i=some p->ρ i=some p:=λi hi p hp=>by unfold Plc.put at hp;rwa [z7 (by omega)] at hp
 refine⟨ρ.put U.n (some ⟨w.heap.size,0,C.size,esz,tight⟩),by simp[Plc.put],⟨?_,?_,?_,?_⟩,⟨rfl,rfl,rfl,by omega,λB hB _=>hold B hB,?_,by simp,aY⟩⟩
 .intro i b hb;by_cases hi:i=U.n
  .subst hi;rw[Heap.q0a] at hb;obtain rfl:=osj hb;refine⟨⟨w.heap.size,0,C.size,esz,tight⟩,by simp[Plc.put],rfl,rfl,hl,⟨C,e,(0,0),?_,by simp,he⟩,λk v hk=>?_,λ_=>⟨λ_=>rfl,λk _=>?_⟩⟩
   .show (w.heap.push _)[w.heap.size]?=_;simp
   .obtain⟨u,hu,hv⟩:=hc.get hk;have cL:k<c.length:=(zq.1 hk).1;refine⟨u,?_,hv.mono (by simp) aY⟩;rw[zU,World.cell?_alloc_new]
    grind
   simp_all
  .rw[Heap.q0e _ _ hi] at hb;obtain⟨p,hp,hB⟩:=h.live i b hb;exact⟨p,by simp[Plc.put,hi,hp],hB.mono (by simp) aY (hold _ (h.lt i p hp))⟩
 .intro i hi;by_cases aS:i=U.n
  .grind [Heap.q0a]
  .rw[Heap.q0e _ _ aS] at hi;simp[Plc.put,aS,h.dead i hi]
 .intro i p hp;by_cases hi:i=U.n
  .subst hi;simp[Plc.put] at hp;subst hp;simp
  .simp[Plc.put,hi] at hp;have:=h.lt i p hp;omega
 .intro i j p q b cT hp hq hb hw hx;by_cases hi:i=U.n
  .subst hi;simp[Plc.put] at hp;subst hp;simp[Plc.put,Ne.symm cT] at hq;have:=h.lt j q hq;intro e;simp at e;omega
  .simp[Plc.put,hi] at hp;rw[Heap.q0e _ _ hi] at hb;by_cases hj:j=U.n
   .subst hj;simp[Plc.put] at hq;subst hq;have:=h.lt i p hp;intro e;simp at e;omega
   .simp[Plc.put,hj] at hq;exact h.sep i j p q b cT hp hq hb hw hx
 .rintro B hB ⟨i,p,b,hp,hb,hw,rfl⟩;by_cases hi:i=U.n
  .subst hi;simp[Plc.put] at hp;subst hp;simp at hB
  .simp[Plc.put,hi] at hp;rw[Heap.q0e _ _ hi] at hb;exact⟨i,p,b,hp,hb,hw,rfl⟩
theorem HRel0.newObj {ρ:Plc}{U:Heap}{w:World}(h:HRel0 ρ U w) (o:VObj) (O:Obj) (ho:ORel ρ U.n o O) :
  ∃ ρ',ρ' U.n=some ⟨w.heap.size,0,1,default,true⟩/\HRel0 ρ' (U.push (.obj o true)) (w.alloc O)/\Ext ρ U w ρ' (U.push (.obj o true)) (w.alloc O):=by
 have hold:∀ k,k<w.heap.size->(w.alloc O).heap[k]?=w.heap[k]?:=λk hk=>by
  show (w.heap.push _)[k]?=_
  grind
 have aC:(w.alloc O).heap.size=w.heap.size+1:=World.size_alloc w _;have aY:∀ i,i<U.n->∀ p,(ρ.put U.n (some ⟨w.heap.size,0,1,default,true⟩)) i=some p->ρ i=some p:=λi hi p hp=>by unfold Plc.put at hp;rwa [z7 (by omega)] at hp
 refine⟨ρ.put U.n (some ⟨w.heap.size,0,1,default,true⟩),by simp[Plc.put],⟨?_,?_,?_,?_⟩,⟨rfl,rfl,rfl,by omega,λB hB _=>hold B hB,?_,by simp,aY⟩⟩
 .intro i b hb;by_cases hi:i=U.n
  .subst hi;rw[Heap.q0a] at hb;obtain rfl:=osj hb;refine⟨⟨w.heap.size,0,1,default,true⟩,by simp[Plc.put],⟨rfl,rfl⟩,O,?_,ho.mono (by simp) aY⟩;show (w.heap.push _)[w.heap.size]?=_;simp
  .rw[Heap.q0e _ _ hi] at hb;obtain⟨p,hp,hB⟩:=h.live i b hb;exact⟨p,by simp[Plc.put,hi,hp],hB.mono (by simp) aY (hold _ (h.lt i p hp))⟩
 .intro i hi;by_cases aS:i=U.n
  .grind [Heap.q0a]
  .rw[Heap.q0e _ _ aS] at hi;simp[Plc.put,aS,h.dead i hi]
 .intro i p hp;by_cases hi:i=U.n
  .subst hi;simp[Plc.put] at hp;subst hp;simp
  .simp[Plc.put,hi] at hp;have:=h.lt i p hp;omega
 .intro i j p q b cT hp hq hb hw hx;by_cases hi:i=U.n
  .subst hi;simp[Plc.put] at hp;subst hp;simp[Plc.put,Ne.symm cT] at hq;have:=h.lt j q hq;intro e;simp at e;omega
  .simp[Plc.put,hi] at hp;rw[Heap.q0e _ _ hi] at hb;by_cases hj:j=U.n
   .subst hj;simp[Plc.put] at hq;subst hq;have:=h.lt i p hp;intro e;simp at e;omega
   .simp[Plc.put,hj] at hq;exact h.sep i j p q b cT hp hq hb hw hx
 .rintro B hB ⟨i,p,b,hp,hb,hw,rfl⟩;by_cases hi:i=U.n
  .subst hi;simp[Plc.put] at hp;subst hp;simp at hB
  .simp[Plc.put,hi] at hp;rw[Heap.q0e _ _ hi] at hb;exact⟨i,p,b,hp,hb,hw,rfl⟩
def Sl (w:World) (b:Nat) (O:Obj):World:={w with heap:=w.heap.setIfInBounds b O}
theorem Vi (w:World) (b:Nat) (O:Obj) (k:Nat) (h:k≠b):(Sl w b O).heap[k]?=w.heap[k]?:=by simp only[Sl];grind
theorem Q68 (w:World) (b:Nat) (O:Obj) (h:b<w.heap.size):(Sl w b O).heap[b]?=some O:=by simp only[Sl];simp_all
theorem Px (w:World) (b:Nat) (O:Obj):(Sl w b O).heap.size=w.heap.size:=by simp[Sl]
theorem HRel0.setObj {ρ:Plc}{U:Heap}{w:World}(h:HRel0 ρ U w) {i:Nat}{p:Pl}{o:VObj}(hp:ρ i=some p) (hb:U.get i=some (.obj o true)) {o':VObj}{O':Obj}(ho:ORel ρ U.n o' O') :
  HRel0 ρ (U.upd i (.obj o' true)) (Sl w p.blk O')/\Ext ρ U w ρ (U.upd i (.obj o' true)) (Sl w p.blk O'):=by
 have hi:=U.lt hb;obtain⟨p',bE,h0,O,h1,h2⟩:=h.live i _ hb;obtain rfl:p=p':=osj (hp.symm.trans bE);have aj:=h.lt i p hp;refine⟨⟨λj b hj=>?_,λj hj=>?_,λj q hq=>by rw[Px];exact h.lt j q hq,λj k q r b dq hq hr cq hw hx=>?_⟩,?_⟩
 .by_cases aQ:j=i
  .subst aQ;rw[Heap.q0c _ _ hi] at hj;obtain rfl:=osj hj;exact⟨p,hp,h0,O',Q68 _ _ _ aj,ho⟩
  .rw[Heap.q0b _ _ aQ] at hj;obtain⟨q,hq,eW⟩:=h.live j b hj;refine⟨q,hq,?_⟩;by_cases hk:q.blk=p.blk
   .have hx:q.ext=0:=by
     rcases Nat.eq_zero_or_pos q.ext with h'|h'
     .exact h'
     .exact absurd hk.symm (h.sep i j p q _ (Ne.symm aQ) hp hq hb rfl h')
    cases b with
    |cells c esz wr tight =>obtain⟨_,_,_,⟨C,e,f,k1,_⟩,_⟩:=eW;rw[hk,h1] at k1;obtain rfl:=osj k1;exact absurd h2 ORel.q1u
    |obj o2 wr=>have:=eW.1;omega
   .exact eW.mono (z9 _) (λ_ _ _ h=>h) (Vi _ _ _ _ hk)
 .by_cases aQ:j=i
  .grind [Heap.q0c]
  .rw[Heap.q0b _ _ aQ] at hj;exact h.dead j hj
 .by_cases aQ:j=i
  .subst aQ;exact h.sep j k q r _ dq hq hr hb rfl hx
  .rw[Heap.q0b _ _ aQ] at cq;exact h.sep j k q r b dq hq hr cq hw hx
 .refine⟨rfl,rfl,rfl,by rw[Px];exact z9 _,λB hB hW=>Vi _ _ _ _ (λe=>hW ⟨i,p,_,hp,hb,rfl,e.symm⟩),?_,z9 _,λ_ _ _ h=>h⟩;rintro B _ ⟨j,q,b,hq,bY,hw,rfl⟩;by_cases aQ:j=i
  .subst aQ;exact⟨j,q,_,hq,hb,rfl,rfl⟩
  .rw[Heap.q0b _ _ aQ] at bY;exact⟨j,q,b,hq,bY,hw,rfl⟩
theorem HRel0.q0n {ρ:Plc}{U:Heap}{w:World}(h:HRel0 ρ U w) {D:Nat}{d:Option (List Deferred)}(hD:w.heap[D]?=some (.deferred d)) (i:Nat) (p:Pl) (hp:ρ i=some p):p.blk≠D:=by
 rintro rfl;cases hb:U.get i with
 |none=>rw[h.dead i hb] at hp;cases hp
 |some b =>
  obtain⟨p',bE,hB⟩:=h.live i b hb;obtain rfl:p=p':=osj (hp.symm.trans bE);cases b with
  |cells c esz wr tight =>obtain⟨_,_,_,⟨C,e,f,k1,_⟩,_⟩:=hB;rw[hD] at k1;cases k1
  |obj o wr =>obtain⟨_,O,k1,k2⟩:=hB;rw[hD] at k1;obtain rfl:=osj k1;exact ORel.q0n k2
theorem HRel0.kill {ρ:Plc}{U:Heap}{w:World}(h:HRel0 ρ U w) (i:Nat):HRel0 (ρ.put i none) (U.kill i) w/\Ext ρ U w (ρ.put i none) (U.kill i) w:=by
 have aY:∀ j,∀ p,(ρ.put i none) j=some p->ρ j=some p/\j≠i:=λj p hp=>by unfold Plc.put at hp;split at hp<;>simp_all
 refine⟨⟨λj b hb=>?_,λj hj=>?_,λj p hp=>h.lt j p (aY j p hp).1,λj k p q b dq hp hq hb hw hx=>?_⟩,⟨rfl,rfl,rfl,z9 _,λ_ _ _=>rfl,?_,z9 _,λj _ p hp=>(aY j p hp).1⟩⟩
 .by_cases aQ:j=i
  .grind [Heap.q0g]
  .rw[Heap.q0d _ aQ] at hb;obtain⟨p,hp,hB⟩:=h.live j b hb;exact⟨p,by simp[Plc.put,aQ,hp],hB.mono (z9 _) (λk _ p hp=>(aY k p hp).1) rfl⟩
 .by_cases aQ:j=i
  .simp[Plc.put,aQ]
  .rw[Heap.q0d _ aQ] at hj;simp[Plc.put,aQ,h.dead j hj]
 .obtain⟨bE,aQ⟩:=aY j p hp;rw[Heap.q0d _ aQ] at hb;exact h.sep j k p q b dq bE (aY k q hq).1 hb hw hx
 .rintro B _ ⟨j,p,b,hp,hb,hw,rfl⟩;obtain⟨bE,aQ⟩:=aY j p hp;rw[Heap.q0d _ aQ] at hb;exact⟨j,p,b,bE,hb,hw,rfl⟩
def GTabs (ρ:Plc) (U:Heap) (w:World):Prop:=∀ g cs,Q9k g=some cs->(∃ e f,w.heap[g]?=some (.cells cs.toArray e f))/\¬ Wr ρ U g
theorem GTabs.lt {ρ:Plc}{U:Heap}{w:World}(h:GTabs ρ U w) {g:Nat}{cs:List Value}(hg:Q9k g=some cs):g<w.heap.size:=by
 obtain⟨⟨e,f,h1⟩,_⟩:=h g cs hg
 grind
theorem GTabs.ext {ρ ρ':Plc}{U U':Heap}{w w':World}(h:GTabs ρ U w) (k:Ext ρ U w ρ' U' w'):GTabs ρ' U' w':=λg cs hg=>by obtain⟨⟨e,f,h1⟩,h2⟩:=h g cs hg;have hl:=h.lt hg;exact⟨⟨e,f,by rw[k.keep g hl h2];exact h1⟩,λhw=>h2 (k.wr g hl hw)⟩
structure HRel (ρ:Plc) (U:Heap) (w:World):Prop where
 core:HRel0 ρ U w
 tab:GTabs ρ U w
section
variable {ρ:Plc}{U:Heap}{w:World}
theorem HRel.ext {ρ':Plc}{U':Heap}{w':World}(h:HRel ρ U w) (h':HRel0 ρ' U' w') (k:Ext ρ U w ρ' U' w'):HRel ρ' U' w':=⟨h',h.tab.ext k⟩
theorem HRel.live (h:HRel ρ U w):∀ i b,U.get i=some b->∃ p,ρ i=some p/\BRel ρ U.n p w b:=h.core.live
theorem HRel.dead (h:HRel ρ U w):∀ i,U.get i=none->ρ i=none:=h.core.dead
theorem HRel.lt (h:HRel ρ U w):∀ i p,ρ i=some p->p.blk<w.heap.size:=h.core.lt
theorem HRel.sep (h:HRel ρ U w):∀ i j p q b,i≠j->ρ i=some p->ρ j=some q->U.get i=some b->b.wr=true->0<q.ext->p.blk≠q.blk:=h.core.sep
theorem HRel.idlt (h:HRel ρ U w) {i:Nat}{p:Pl}(hp:ρ i=some p):i<U.n:=h.core.idlt hp
theorem HRel.world {w':World}(h:HRel ρ U w) (hs:w.heap.size<=w'.heap.size) (hb:∀ i p,ρ i=some p->w'.heap[p.blk]?=w.heap[p.blk]?) (ht:∀ g cs,Q9k g=some cs->w'.heap[g]?=w.heap[g]?):HRel ρ U w' :=
 ⟨h.core.world hs hb,λg cs hg=>by
  obtain⟨⟨e,f,h1⟩,h2⟩:=h.tab g cs hg;simp_all⟩
theorem HRel.drew (h:HRel ρ U w):HRel ρ U w.drew:=⟨h.core.drew,h.tab⟩
theorem HRel.alloc (h:HRel ρ U w) (c:List Value) (C:Array Value) (e:TypeId) (esz:El) (tight:Bool) (he:e=esz.ty)
  (hc:LRel ρ U.n c (C.toList.take c.length)) (hl:c.length<=C.size) :
  ∃ ρ',ρ' U.n=some ⟨w.heap.size,0,C.size,esz,tight⟩/\HRel ρ' (U.push (.cells c esz true tight)) (w.alloc (.cells C e))/\Ext ρ U w ρ' (U.push (.cells c esz true tight)) (w.alloc (.cells C e)) :=
 let ⟨ρ',h1,h2,h3⟩:=h.core.alloc c C e esz tight he hc hl
 ⟨ρ',h1,h.ext h2 h3,h3⟩
theorem HRel.newObj (h:HRel ρ U w) (o:VObj) (O:Obj) (ho:ORel ρ U.n o O) :
  ∃ ρ',ρ' U.n=some ⟨w.heap.size,0,1,default,true⟩/\HRel ρ' (U.push (.obj o true)) (w.alloc O)/\Ext ρ U w ρ' (U.push (.obj o true)) (w.alloc O) :=
 let ⟨ρ',h1,h2,h3⟩:=h.core.newObj o O ho
 ⟨ρ',h1,h.ext h2 h3,h3⟩
theorem HRel.setObj (h:HRel ρ U w) {i:Nat}{p:Pl}{o:VObj}(hp:ρ i=some p) (hb:U.get i=some (.obj o true)) {o':VObj}{O':Obj}(ho:ORel ρ U.n o' O') :
  HRel ρ (U.upd i (.obj o' true)) (Sl w p.blk O')/\Ext ρ U w ρ (U.upd i (.obj o' true)) (Sl w p.blk O') :=
 let ⟨h2,h3⟩:=h.core.setObj hp hb ho
 ⟨h.ext h2 h3,h3⟩
theorem HRel.q0n (h:HRel ρ U w) {D:Nat}{d:Option (List Deferred)}(hD:w.heap[D]?=some (.deferred d)) (i:Nat) (p:Pl) (hp:ρ i=some p):p.blk≠D:=h.core.q0n hD i p hp
theorem HRel.kill (h:HRel ρ U w) (i:Nat):HRel (ρ.put i none) (U.kill i) w/\Ext ρ U w (ρ.put i none) (U.kill i) w :=
 let ⟨h2,h3⟩:=h.core.kill i
 ⟨h.ext h2 h3,h3⟩
end
end Go.V
namespace Go.V
open Go
abbrev Env:=List Value
inductive MK where
 |int (k:IntKind)
 |string
 |bool
 |agg (s:List MK)
 deriving Inhabited
inductive XOp where
 |eqNil (kd:Nat) (neg:Bool) (x y:Operand)
 |makeMap
 |lookup (mk:MK) (zero:Value) (ok:Bool) (x i:Operand)
 |mapUpdate (mk:MK) (m k v:Operand)
 |delete (mk:MK) (m k:Operand)
 |mapEntry (mk:MK) (zero:Value) (m k:Operand)
 |entryStore (m s v:Operand)
 |lenMap (x:Operand)
 |rangeMap (x:Operand)
 |nextMap (x:Operand)
 |entry (x:Operand)
 |copy (size:Nat) (d s:Operand)
 |clear (z:List Value) (x:Operand)
 |toUnsafe (x:Operand)
 |fromUnsafe (u size:Nat) (x:Operand)
 |sliceData (x:Operand)
 |unsafeStr (e:Nat) (x n:Operand)
 |bytesStr (x:Operand)
 |strBytes (e:Nat) (x:Operand)
 |eqAgg (neg:Bool) (s:List MK) (x y:Operand)
 |rangeStr (x:Operand)
 |nextStr (x:Operand)
 deriving Inhabited
inductive VOp where
 |move (x:Operand)
 |pick (c a b:Operand)
 |arith (op:BinOp) (x y:Operand)
 |div (op:BinOp) (x y:Operand)
 |bits (op:BinOp) (x y:Operand)
 |shift (op:BinOp) (x y:Operand)
 |cmp (op:BinOp) (x y:Operand)
 |str (op:BinOp) (x y:Operand)
 |eqB (neg:Bool) (x y:Operand)
 |un (op:UnOp) (x:Operand)
 |convI (k:IntKind) (x:Operand)
 |convS (x:Operand)
 |alloc (t:Nat) (z:List Value)
 |box (t:Nat) (x:Operand)
 |build (z:List Value) (parts:List (Nat×Nat×Operand))
 |buildSlice (esz:El) (z:List Value) (len:Nat) (parts:List (Nat×Operand))
 |load (agg:Bool) (size:Nat) (a:Operand)
 |store (size:Nat) (a v:Operand)
 |fieldAddr (off:Nat) (a:Operand)
 |field (agg:Bool) (off size:Nat) (x:Operand)
 |indexAddr (size:Nat) (x i:Operand)
 |indexAddrArr (len size:Nat) (x i:Operand)
 |indexStr (x i:Operand)
 |indexArr (len:Nat) (agg:Bool) (size:Nat) (x i:Operand)
 |slice (size:Nat) (x:Operand) (lo hi mx:Option Operand)
 |sliceStr (x:Operand) (lo hi:Option Operand)
 |makeSlice (esz:El) (bytes:Nat) (z:List Value) (l c:Operand)
 |len (x:Operand)
 |lenStr (x:Operand)
 |append (esz:El) (bytes:Nat) (s x:Operand)
 |max (x y:Operand)
 |max4 (x y z w:Operand)
 |min (x y:Operand)
 |makeFunc (fn:Fn) (first cap:List Operand)
 |iface (t:TypeId) (x:Operand)
 |extract (x:Operand) (i:Nat)
 |nilCheck (x:Operand)
 |callF (f:FuncId) (args:List Operand)
 |callV (f:Operand) (args:List Operand)
 |ext (o:XOp)
 |bad
 deriving Inhabited
structure VOper where
 dst:Option Nat
 op:VOp
 guard:Option (Nat×Bool)
 deriving Inhabited
structure DOper where
 dst:Option Nat
 op:VOp
 guard:Option (Nat×Bool)
 kind:Nat
 kmin:Nat
 kmax:Nat
 deriving Inhabited
inductive DSeg where
 |one (o:VOper)
 |alts (l:List (List DOper))
 deriving Inhabited
inductive VCode where
 |skip
 |region (ops:List VOper)
 |regionD (aT:List DSeg)
 |rangeF (g:Operand) (ps:List Nat) (a b:VCode)
 |seq (a b:VCode)
 |cond (c:Operand) (a b:VCode)
 |block (id:Nat) (b:VCode)
 |loop (b:VCode)
 |exit (id:Nat)
 |ret
 |bad
 deriving Inhabited
def Zl:Value->Bool
 |.bool _|.int _ _|.string _|.pointer none|.slice none 0 0|.map none|.nilFunc|.nilIface=>true
 |_=>false
def UI:Value->Bool
 |.agg cs=>cs.toList.all Zl
 |.tuple cs=>cs.toList.all Zl
 |v=>Zl v
def W1:Operand->Bool
 |.tmp _=>true
 |.const v=>UI v
 |.global _=>true
 |.func _=>true
def MN:TypeDesc->Bool
 |.struct _|.array _ _=>true
 |_=>false
def zeroOf (P:Program) (t:TypeId):Option (List Value):=do
 let i <-P.info? t;let z <-i.zero;let cs:=z.cells.toList
 if cs.length==i.size&&cs.all Zl then some cs else none
def TD (P:Program) (t:TypeId) (f:Nat):Option Field :=
 match P.underlying t with
 |some (.struct fs)=>fs[f]?
 |_=>none
def N6 (P:Program) (o:Op):Option VOp :=
 if !(o.operands.toList.all W1) then none else
 match o with
 |.move x|.assign x=>some (.move x)
 |.pick c a b=>some (.pick c a b)
 |.binOp op t x y _ =>
  match P.underlying t with
  |some (.int _) =>
   match op with
   |.add|.sub|.mul=>some (.arith op x y)
   |.quo|.rem=>some (.div op x y)
   |.and|.or|.xor|.andNot=>some (.bits op x y)
   |.shl|.shr=>some (.shift op x y)
   |_=>some (.cmp op x y)
  |some .string=>some (.str op x y)
  |some .bool=>match op with|.eql=>some (.eqB false x y)|.neq=>some (.eqB true x y)|_=>none
  |_=>none
 |.unOp op _ x=>some (.un op x)
 |.convert s d x =>
  match P.underlying s,P.underlying d with
  |some (.int _),some (.int k)=>some (.convI k x)
  |some .string,some .string=>some (.convS x)
  |_,_=>none
 |.alloc t=>do some (.alloc t (<-zeroOf P t))
 |.box t x=>some (.box t x)
 |.build t parts=>do
  let z <-zeroOf P t
  match P.underlying t with
  |some (.struct fs)=>do
   let places <-fs.toList.mapM λf=>(P.info? f.type).map λi=>(f.offset,i.size);let ps <-parts.toList.mapM λq=>(places[q.1]?).map λos=>(os.1,os.2,q.2)
   some (.build z ps)
  |some (.array _ e)=>do
   let ei <-P.info? e
   some (.build z (parts.toList.map λq=>(q.1*ei.size,ei.size,q.2)))
  |_=>none
 |.buildSlice t len parts =>
  match P.underlying t with
  |some (.slice e)=>do
   let z <-zeroOf P e
   if z.length==0||4096<len*z.length then none
   some (.buildSlice ⟨z.length,e⟩ z len parts.toList)
  |_=>none
 |.load t a=>do
  let i <-P.info? t;let d <-P.underlying t
  some (.load (MN d) i.size a)
 |.store t a v=>do
  let i <-P.info? t
  some (.store i.size a v)
 |.fieldAddr t a f=>do
  let fd <-TD P t f;let fi <-P.info? fd.type
  if fi.size==0 then none
  some (.fieldAddr fd.offset a)
 |.field t x f=>do
  let fd <-TD P t f;let fi <-P.info? fd.type;let d <-P.underlying fd.type
  some (.field (MN d) fd.offset fi.size x)
 |.indexAddr t x i =>
  match P.underlying t with
  |some (.slice e)=>do let ei <-P.info? e;some (.indexAddr ei.size x i)
  |some (.array n e)=>do let ei <-P.info? e;some (.indexAddrArr n ei.size x i)
  |_=>none
 |.index t x i =>
  match P.underlying t with
  |some .string=>some (.indexStr x i)
  |some (.array n e)=>do let ei <-P.info? e;let d <-P.underlying e;some (.indexArr n (MN d) ei.size x i)
  |_=>none
 |.slice t x lo hi mx =>
  match P.underlying t with
  |some (.slice e)=>do let ei <-P.info? e;some (.slice ei.size x lo hi mx)
  |some .string=>if mx.isNone then some (.sliceStr x lo hi) else none
  |_=>none
 |.makeSlice t l c =>
  match P.underlying t with
  |some (.slice e)=>do
   let ei <-P.info? e;let z <-zeroOf P e
   if z.length==0 then none
   some (.makeSlice ⟨z.length,e⟩ ei.bytes z l c)
  |_=>none
 |.makeFunc fn first cap=>match fn with|.func _=>some (.makeFunc fn first.toList cap.toList)|_=>none
 |.makeInterface t x=>do
  let d <-P.underlying t
  match d with
  |.interface _=>none
  |_=>some (.iface t x)
 |.extract x i=>some (.extract x i)
 |.nilCheck x=>some (.nilCheck x)
 |.call c =>
  match c.callee with
  |.value (.func f)=>some (.callF f c.args.toList)
  |.value f=>some (.callV f c.args.toList)
  |.builtin .len =>
   match c.argTypes[0]?,c.args.toList with
   |some t,[x] =>
    match P.underlying t with
    |some .string=>some (.lenStr x)
    |some (.slice _)=>some (.len x)
    |_=>none
   |_,_=>none
  |.builtin .append =>
   match c.argTypes[0]?,c.argTypes[1]?,c.args.toList with
   |some t,some u,[s,x] =>
    match P.underlying t,P.underlying u with
    |some (.slice e),some (.slice _)=>do
     let ei <-P.info? e;let z <-zeroOf P e
     if z.length==0||ei.bytes==0 then none
     some (.append ⟨z.length,e⟩ ei.bytes s x)
    |_,_=>none
   |_,_,_=>none
  |.builtin .max=>match c.args.toList with|[x,y]=>some (.max x y)|[x,y,z]=>some (.max4 x y z z)|[x,y,z,w]=>some (.max4 x y z w)|_=>none
  |.builtin .min=>match c.args.toList with|[x,y]=>some (.min x y)|_=>none
  |_=>none
 |_=>none
def Q1c (P:Program) (g:TypeId->Option (List MK)):List Field->Nat->Option (List MK)
 |[],_=>some []
 |f::r,off=>if f.name≠"_"/\f.offset=off then (match g f.type with
  |some s=>if P.cellsOf f.type=s.length then (Q1c P g r (off+s.length)).map λq=>s++q else none
  |none=>none) else none
def shp (P:Program):Nat->TypeId->Option (List MK)
 |0,_=>none
 |d+1,t=>match P.underlying t with
  |some .bool=>some [.bool]
  |some (.int q)=>some [.int q]
  |some .string=>some [.string]
  |some (.array n e)=>(match shp P d e with
   |some s=>if P.cellsOf e=s.length then some (List.replicate n s).flatten else none
   |none=>none)
  |some (.struct fs)=>if P.stoodInHeld t=true then none else Q1c P (shp P d) fs.toList 0
  |_=>none
def Z0q:MK->Value->Bool
 |.int q,.int q' _=>decide (q'=q)
 |.string,.string _=>true
 |.bool,.bool _=>true
 |_,_=>false
def fits:List MK->List Value->Bool
 |[],[]=>true
 |k::ks,v::vs=>Z0q k v&&fits ks vs
 |_,_=>false
def UE:Value->Value->Bool
 |.int _ a,.int _ b=>a==b
 |.bool a,.bool b=>a==b
 |.string a,.string b=>a.data.toList==b.data.toList
 |_,_=>false
def QD:List Value->List Value->Bool
 |a::l,b::m=>UE a b&&QD l m
 |_,_=>true
def Ah (P:Program) (neg:Bool) (t:TypeId) (x y:Operand):Option XOp :=
 if P.eqGuardType P.depth t=true then none else (shp P 8 t).map λs=>.eqAgg neg s x y
theorem Q4j {P:Program}{neg:Bool}{t:TypeId}{x y:Operand}{o:XOp}(h:Ah P neg t x y=some o):∃ s,o=.eqAgg neg s x y:=by
 unfold Ah at h
 grind [Option.map_eq_some_iff]
def II (P:Program) (t:TypeId):Option MK :=
 match P.underlying t with
 |some (.int k)=>some (.int k)
 |some .string=>some .string
 |some .bool=>some .bool
 |some (.struct _)=>(shp P 8 t).map .agg
 |some (.array _ _)=>(shp P 8 t).map .agg
 |_=>none
def CU (P:Program) (o:Op):Option XOp :=
 if !(o.operands.toList.all W1) then none else
 match o with
 |.binOp op t x y _ =>
  match op,P.underlying t with
  |.eql,some (.pointer e)=>do let i <-P.info? e;if i.size==0 then none else some (.eqNil 0 false x y)
  |.neq,some (.pointer e)=>do let i <-P.info? e;if i.size==0 then none else some (.eqNil 0 true x y)
  |.eql,some (.slice _)=>some (.eqNil 1 false x y)
  |.eql,some (.map _ _)=>some (.eqNil 2 false x y)
  |.eql,some (.func _ _ _)=>some (.eqNil 3 false x y)
  |.neq,some (.slice _)=>some (.eqNil 1 true x y)
  |.neq,some (.map _ _)=>some (.eqNil 2 true x y)
  |.neq,some (.func _ _ _)=>some (.eqNil 3 true x y)
  |.eql,some (.struct _)=>Ah P false t x y
  |.neq,some (.struct _)=>Ah P true t x y
  |.eql,some (.array _ _)=>Ah P false t x y
  |.neq,some (.array _ _)=>Ah P true t x y
  |_,_=>none
 |.makeMap _ none=>some .makeMap
 |.lookup t x i ok =>
  match P.underlying t with
  |some (.map k e)=>do
   let mk <-II P k;let inf <-P.info? e;let z <-inf.zero
   if UI z then some (.lookup mk z ok x i) else none
  |_=>none
 |.mapUpdate t m k v =>
  match P.underlying t with
  |some (.map kt _)=>do some (.mapUpdate (<-II P kt) m k v)
  |_=>none
 |.insert t m k v =>
  match P.underlying t with
  |some (.map kt _)=>do some (.mapUpdate (<-II P kt) m k v)
  |_=>none
 |.mapEntry t m k =>
  match P.underlying t with
  |some (.map kt e)=>do
   let mk <-II P kt;let inf <-P.info? e;let z <-inf.zero
   if UI z then some (.mapEntry mk z m k) else none
  |_=>none
 |.entryStore _ m s v=>some (.entryStore m s v)
 |.range t x =>
  match P.underlying t with
  |some (.map _ _)=>some (.rangeMap x)
  |some .string=>some (.rangeStr x)
  |_=>none
 |.next x false=>some (.nextMap x)
 |.next x true=>some (.nextStr x)
 |.entry x=>some (.entry x)
 |.convert s d x =>
  match P.underlying s,P.underlying d with
  |some (.pointer t),some .unsafePointer=>do let i <-P.info? t;if i.size==0 then none else some (.toUnsafe x)
  |some .unsafePointer,some (.pointer u)=>do let i <-P.info? u;if i.size==0||P.cellsOf u==0 then none else some (.fromUnsafe u (P.cellsOf u) x)
  |some (.slice e),some .string=>match P.underlying e with|some (.int .u8)=>some (.bytesStr x)|_=>none
  |some .string,some (.slice e)=>match P.underlying e with|some (.int .u8)=>some (.strBytes e x)|_=>none
  |_,_=>none
 |.call c =>
  match c.callee with
  |.builtin .len =>
   match c.argTypes[0]?,c.args.toList with
   |some t,[x]=>match P.underlying t with|some (.map _ _)=>some (.lenMap x)|_=>none
   |_,_=>none
  |.builtin .delete =>
   match c.argTypes[0]?,c.args.toList with
   |some t,[m,k]=>match P.underlying t with|some (.map kt _)=>do some (.delete (<-II P kt) m k)|_=>none
   |_,_=>none
  |.builtin .copy =>
   match c.argTypes[0]?,c.args.toList with
   |some t,[d,s]=>match P.underlying t with|some (.slice e)=>do let i <-P.info? e;some (.copy i.size d s)|_=>none
   |_,_=>none
  |.builtin .clear =>
   match c.argTypes[0]?,c.args.toList with
   |some t,[x]=>match P.underlying t with
    |some (.slice e)=>do
     let z <-zeroOf P e
     if z.length==0 then none
     some (.clear z x)
    |_=>none
   |_,_=>none
  |.builtin .unsafeSliceData=>match c.args.toList with|[x]=>some (.sliceData x)|_=>none
  |.builtin .unsafeString =>
   match c.argTypes[0]?,c.args.toList with
   |some t,[x,n]=>match P.underlying t with|some (.pointer e)=>if P.cellsOf e=1 then some (.unsafeStr e x n) else none|_=>none
   |_,_=>none
  |_=>none
 |_=>none
def U2 (P:Program) (o:Op):VOp :=
 match N6 P o with
 |some v=>v
 |none=>match CU P o with
  |some x=>.ext x
  |none=>.bad
def JH (P:Program) (ops:Array Oper) (o:Oper):Option VOper:=do
 let v:=U2 P o.op
 match o.guard with
 |none=>some ⟨o.dst,v,none⟩
 |some (j,want)=>do
  let oj <-ops[j]?;let d <-oj.dst
  some ⟨o.dst,v,some (d,want)⟩
def XOp.quiet:XOp->Bool
 |.makeMap|.mapUpdate ..|.mapEntry ..|.entryStore ..|.delete ..|.rangeMap _|.nextMap _|.copy ..|.clear ..|.unsafeStr ..|.strBytes ..|.rangeStr _|.nextStr _=>false
 |_=>true
def VOp.quiet:VOp->Bool
 |.ext o=>o.quiet
 |.alloc ..|.box ..|.buildSlice ..|.store ..|.makeSlice ..|.append ..=>false
 |.slice _ _ _ _ (some _)=>false
 |_=>true
def VOp.kind:VOp->Nat
 |.callF ..|.callV ..=>2
 |.load ..=>1
 |.slice _ _ _ _ none=>1
 |.ext (.eqNil ..)|.ext (.lookup ..)|.ext (.lenMap _)|.ext (.entry _)|.ext (.toUnsafe _)|.ext (.fromUnsafe ..)|.ext (.sliceData _)|.ext (.bytesStr _)=>1
 |o=>if o.quiet then 0 else 2
def Z54 (acc:List Nat) (es:List Nat):Nat:=es.foldl (λs e=>s ||| 2 ^ e ||| acc.getD e 0) 0
def J1m:List (List Nat)->List Nat->List Nat
 |[],acc=>acc
 |es::r,acc=>J1m r (acc++[Z54 acc es])
def XOp.opds:XOp->List Operand
 |.eqNil _ _ x y=>[x,y]
 |.eqAgg _ _ x y=>[x,y]
 |.makeMap=>[]
 |.lookup _ _ _ x i=>[x,i]
 |.mapUpdate _ m k v=>[m,k,v]
 |.delete _ m k=>[m,k]
 |.mapEntry _ _ m k=>[m,k]
 |.entryStore m s v=>[m,s,v]
 |.rangeStr x|.nextStr x|.lenMap x|.rangeMap x|.nextMap x|.entry x|.toUnsafe x|.fromUnsafe _ _ x|.sliceData x|.bytesStr x=>[x]
 |.copy _ d s=>[d,s]
 |.clear _ x=>[x]
 |.unsafeStr _ x n=>[x,n]
 |.strBytes _ x=>[x]
def VOp.opds:VOp->List Operand
 |.move x|.un _ x|.convI _ x|.convS x|.box _ x|.load _ _ x|.fieldAddr _ x|.field _ _ _ x|.len x|.lenStr x|.iface _ x|.extract x _|.nilCheck x=>[x]
 |.pick c a b=>[c,a,b]
 |.arith _ x y|.div _ x y|.bits _ x y|.shift _ x y|.cmp _ x y|.str _ x y|.eqB _ x y|.store _ x y|.indexAddr _ x y|.indexAddrArr _ _ x y|.indexStr x y|.indexArr _ _ _ x y|.makeSlice _ _ _ x y
 |.append _ _ x y|.max x y|.min x y=>[x,y]
 |.max4 x y z w=>[x,y,z,w]
 |.alloc ..|.bad=>[]
 |.build _ ps=>ps.map λp=>p.2.2
 |.buildSlice _ _ _ ps=>ps.map λp=>p.2
 |.slice _ x a b c=>x::(a.toList++b.toList++c.toList)
 |.sliceStr x a b=>x::(a.toList++b.toList)
 |.makeFunc _ a b=>a++b
 |.callF _ bS=>bS
 |.callV f bS=>f::bS
 |.ext o=>o.opds
def Q75 (l:List Operand):List Nat:=l.filterMap fun|.tmp t=>some t|_=>none
def T_ (o:Oper):List Nat:=(o.after.toList.filter (Region.binds .any)).map (·.on)
def Uy (v:VOper):List Nat:=v.dst.toList++Q75 v.op.opds++(v.guard.map (·.1)).toList
def Z1r (a b:List Nat×Option Nat):Bool:=(match a.2 with|some d=>b.1.contains d|none=>false)||(match b.2 with|some d=>a.1.contains d|none=>false)
structure DInfo where
 an:List Nat
 ed:List (List Nat)
 nm:List (List Nat×Option Nat)
 ks:List Nat
def UJ (ops:List Oper) (vs:List VOper):DInfo:=⟨J1m (ops.map T_) [],ops.map T_,vs.map λv=>(Uy v,v.dst),vs.map (·.op.kind)⟩
def DInfo.lt (d:DInfo) (i j:Nat):Bool:=(d.an.getD j 0).testBit i
def DInfo.k (d:DInfo) (i:Nat):Nat:=d.ks.getD i 0
def DInfo.rank (d:DInfo):Nat->Nat
 |0=>0
 |i+1=>if d.k i=2 then d.rank i+1 else d.rank i
def DInfo.kmin (d:DInfo) (i:Nat):Nat:=((List.range d.ks.length).filter λl=>d.k l==2&&d.lt l i).length
def DInfo.kmax (d:DInfo) (i:Nat):Nat:=((List.range d.ks.length).filter λl=>d.k l==2&&!(d.lt i l)).length
def DInfo.touch (d:DInfo) (i j:Nat):Bool:=Z1r (d.nm.getD i ([],none)) (d.nm.getD j ([],none))
def DInfo.okE (d:DInfo) (j:Nat):Bool:=(d.ed.getD j []).all λe=>decide (e<j)
def DInfo.okP (d:DInfo) (j:Nat):Bool:=(List.range j).all λi =>
 if d.lt i j then (d.ed.getD j []).any (λe=>e==i||decide (i<e)&&d.lt i e) else !(d.touch i j)&&!(d.k i==2&&d.k j==2)
def DInfo.okK (d:DInfo) (j:Nat):Bool:=!(d.k j==1) ||
 (decide (d.kmin j<=d.rank j/\d.rank j<=d.kmax j)&&(decide (d.kmax j<=d.rank d.ks.length)&&(List.range d.ks.length).all λl=>!(d.k l==2)||(d.lt l j==decide (d.rank l<d.kmin j)&&d.lt j l==decide (d.kmax j<=d.rank l))))
def DInfo.ok (d:DInfo):Bool:=(List.range d.ks.length).all λj=>d.okE j&&(d.okP j&&d.okK j)
def DInfo.opers (d:DInfo):List VOper->Nat->List DOper
 |[],_=>[]
 |v::r,i=>⟨v.dst,v.op,v.guard,v.op.kind,d.kmin i,d.kmax i⟩::d.opers r (i+1)
def DInfo.okB (d:DInfo):Bool:=decide (d.an.length=d.ks.length)&&(List.range d.ks.length).all λj=>d.okE j&&(decide (d.an.getD j 0<2 ^ j) &&
 (List.range j).all λi=>!(d.lt i j)||(d.ed.getD j []).any (λe=>e==i||decide (i<e)&&d.lt i e))
def exts (lt:Nat->Nat->Bool):Nat->List Nat->List (List Nat)
 |_,[]=>[[]]
 |0,_=>[]
 |n+1,l=>l.flatMap λk=>if l.all (λi=>i==k||!(lt i k)) then (exts lt n (l.erase k)).map (k::·) else []
def J4l (ed:List (List Nat)) (ks idx:List Nat):Nat->List Nat->List Nat->List Nat
 |0,acc,_=>acc
 |f+1,acc,kq=>match idx.find? (λi=>!(acc.contains i)&&((ed.getD i []).all (λe=>!(idx.contains e)||acc.contains e)&&(!(ks.getD i 0==2)||kq.head?==some i))) with
  |none=>acc
  |some i=>J4l ed ks idx f (acc++[i]) (if ks.getD i 0==2 then kq.tail else kq)
def Z4u (ed:List (List Nat)) (ks idx:List Nat):Nat->List Nat->List Nat->List Nat
 |0,acc,_=>acc
 |f+1,acc,kq=>match idx.find? (λi=>!(acc.contains i)&&((ed.getD i []).all (λe=>!(idx.contains e)||acc.contains e)&&!(ks.getD i 0==2))) with
  |some i=>Z4u ed ks idx f (acc++[i]) kq
  |none=>match idx.find? (λi=>!(acc.contains i)&&((ed.getD i []).all (λe=>!(idx.contains e)||acc.contains e)&&kq.head?==some i)) with
   |none=>acc
   |some i=>Z4u ed ks idx f (acc++[i]) kq.tail
def Z4y:VOp->Bool
 |.callF ..=>true
 |_=>false
def J0g (b:Bool) (ed:List (List Nat)) (ks idx:List Nat) (n:Nat) (q:List Nat):List Nat:=if b then Z4u ed ks idx n [] q else J4l ed ks idx n [] q
def Z40 (d:DInfo) (pm:List Nat) (p:Nat):List Nat :=
 ((d.ed.getD (pm.getD p 0) []).filter pm.contains).map (λe=>pm.idxOf e) ++
  (if d.k (pm.getD p 0)==2 then ((List.range p).filter λq=>d.k (pm.getD q 0)==2).getLast?.toList else [])
def Nz (vs:List VOper) (pm:List Nat):List VOper:=pm.map λi=>vs.getD i default
def Q1a (d:DInfo) (vs:List VOper) (pm:List Nat):DInfo :=
 let ed:=(List.range pm.length).map (Z40 d pm)
 ⟨J1m ed [],ed,(Nz vs pm).map λv=>(Uy v,v.dst),(Nz vs pm).map (·.op.kind)⟩
def Z9i (d:DInfo) (vs:List VOper) (idx s pm:List Nat):Bool :=
 idx.all pm.contains&&(pm.all idx.contains&&(decide pm.Nodup&&(decide (pm.filter (λi=>d.k i==2)=s)&&(Q1a d vs pm).ok)))
def Z9u (d:DInfo) (vs:List VOper) (s n:Nat):Option DSeg :=
 if n=1 then some (.one (vs.getD s default)) else
 let idx:=List.range' s n;let ss:=exts d.lt n (idx.filter λi=>d.k i==2);let ps:=ss.map λq=>(q,J0g (decide (3<=(idx.filter λi=>Z4y (vs.getD i default).op).length)) d.ed d.ks idx n q)
 if ps.all λsp=>Z9i d vs idx sp.1 sp.2 then some (.alts (ps.map λsp=>(Q1a d vs sp.2).opers (Nz vs sp.2) 0)) else none
def cutAt (d:DInfo) (t:Nat):Bool:=(List.range' t (d.ks.length-t)).all λp=>(List.range t).all λi=>d.lt i p
def Q6k (d:DInfo) (vs:List VOper):Nat->Nat->Option (List DSeg)
 |0,s=>if s=d.ks.length then some [] else none
 |f+1,s=>if s=d.ks.length then some [] else
  match (List.range' (s+1) (d.ks.length-s)).find? (cutAt d) with
  |none=>none
  |some t=>match Z9u d vs s (t-s),Q6k d vs f t with
   |some x,some r=>some (x::r)
   |_,_=>none
def Z3u (d:DInfo) (vs:List VOper):Option (List DSeg):=if d.okB then Q6k d vs d.ks.length 0 else none
def Hv (d:DInfo) (vs:List VOper):Bool :=
 d.okB&&(vs.all (λv=>!(v.op.kind==2))&&Z9i d vs (List.range' 0 d.ks.length) [] (List.range' 0 d.ks.length))
def comp (P:Program):Code->Option VCode
 |.skip=>some .skip
 |.region _ ops false=>do some (.region (<-ops.toList.mapM (JH P ops)))
 |.region _ ops true=>do
  let l <-ops.toList.mapM (JH P ops)
  if Hv (UJ ops.toList l) l then some (.region l) else
  match Z3u (UJ ops.toList l) l with
  |some aT=>some (.regionD aT)
  |none=>some .bad
 |.seq a b=>do some (.seq (<-comp P a) (<-comp P b))
 |.cond c a b=>do if W1 c then some (.cond c (<-comp P a) (<-comp P b)) else some .bad
 |.block id b=>do some (.block id (<-comp P b))
 |.loop b=>do some (.loop (<-comp P b))
 |.rangeFunc g ps a b=>do if W1 g then some (.rangeF g ps.toList (<-comp P a) (<-comp P b)) else some .bad
 |.exit id=>some (.exit id)
 |.ret=>some .ret
 |_=>some .bad
def Q5 (env:Env):Operand->Value
 |.tmp t=>env.getD t undef
 |.const v=>v
 |.global g=>.pointer (some ⟨g,0,some 0⟩)
 |.func f=>.func (.func f) #[] #[]
def Eg:BinOp->IntKind->Int->Int->Int
 |.add,k,a,b=>k.wrap (a+b)
 |.sub,k,a,b=>k.wrap (a-b)
 |_,k,a,b=>k.wrap (a*b)
def Z5d:BinOp->IntKind->Int->Int->Int
 |.quo,k,a,b=>k.wrap (a.tdiv b)
 |_,_,a,b=>a.tmod b
def Qb (op:BinOp) (k:IntKind) (x y:Int):Int :=
 let a:=BitVec.ofInt k.bits x;let b:=BitVec.ofInt k.bits y
 match op with
 |.and=>k.wrap (a &&& b).toNat
 |.or=>k.wrap (a ||| b).toNat
 |.xor=>k.wrap (a ^^^ b).toNat
 |_=>k.wrap (a &&& ~~~b).toNat
def Eu:BinOp->IntKind->Int->Int->Int
 |.shl,k,x,y=>k.wrap (x*2 ^ (Nat.min y.toNat k.bits))
 |_,k,x,y=>x.fdiv (2 ^ (Nat.min y.toNat k.bits))
def Z9l:BinOp->Int->Int->Bool
 |.eql,a,b=>a==b
 |.neq,a,b=>a != b
 |.lss,a,b=>decide (a<b)
 |.leq,a,b=>decide (a<=b)
 |.gtr,a,b=>decide (a > b)
 |_,a,b=>decide (a>=b)
def cellOk:Value->Bool
 |.agg _|.tuple _|.chan _=>false
 |_=>true
def Vv:Value->Option (List Value)
 |.agg cs=>some cs.toList
 |.chan _|.tuple _=>none
 |v=>some [v]
def Wz (c:List Value) (o:Nat):List Value->List Value
 |[]=>c
 |v::vs=>Wz (c.set o v) (o+1) vs
def Gf (c:List Value):List (Nat×Nat×Value)->Option (List Value)
 |[]=>some c
 |(o,s,v)::rest =>
  match Vv v with
  |some vs=>if vs.length=s/\o+s<=c.length then Gf (Wz c o vs) rest else none
  |none=>none
def TW (n:Nat):List Value->List Value
 |[x]=>List.replicate n x
 |z=>(List.replicate n z).flatten
def YC (agg:Bool) (size:Nat) (c:List Value) (o:Nat):Option Value :=
 if agg then (if o+size<=c.length then some (.agg ((c.drop o).take size).toArray) else none) else c[o]?
def Heap.sl (U:Heap) (esz:Nat):Value->Option (List Value)
 |.slice none 0 0=>some []
 |.slice (some ⟨i,o,none⟩) n _ =>
  match U.get i with
  |some (.cells c e _ _)=>if e.sz=esz/\o+n*esz<=c.length then some ((c.drop o).take (n*esz)) else none
  |_=>none
 |_=>none
def Wc (esz:El) (bytes:Nat) (U:Heap) (s:Value) (m:Nat) (xs:List Value):Option (Value×Heap) :=
 match s with
 |.slice none 0 0 =>
  if m=0 then some (s,U) else
  if m*bytes<=2 ^ 46 then some (.slice (some ⟨U.n,0,none⟩) m m,U.push (.cells xs esz true false)) else none
 |.slice (some ⟨i,o,none⟩) n cap =>
  match U.get i with
  |some (.cells c e wr tight) =>
   if e=esz/\n<=cap/\o+n*esz.sz<=c.length then
    if m=0 then some (s,U) else
    if n+m<=cap then
     (if wr=true/\o+(n+m)*esz.sz<=c.length then some (.slice (some ⟨i,o,none⟩) (n+m) cap,U.upd i (.cells (Wz c (o+n*esz.sz) xs) e wr tight)) else none)
    else if (n+m)*bytes<=2 ^ 46 then
     (if tight then some (.slice (some ⟨U.n,0,none⟩) (n+m) (n+m),U.push (.cells ((c.drop o).take (n*esz.sz)++xs) esz true false))
     else if wr then some (.slice (some ⟨U.n,0,none⟩) (n+m) (n+m),(U.kill i).push (.cells ((c.drop o).take (n*esz.sz)++xs) esz true false))
     else none)
    else none
   else none
  |_=>none
 |.slice (some ⟨i,o,some 0⟩) n cap =>
  match U.get i with
  |some (.cells c e _ _) =>
   if e=esz/\n=cap/\o+n*esz.sz<=c.length/\m≠0/\(n+m)*bytes<=2 ^ 46 then
    some (.slice (some ⟨U.n,0,none⟩) (n+m) (n+m),U.push (.cells ((c.drop o).take (n*esz.sz)++xs) esz true false))
   else none
  |_=>none
 |_=>none
def Jz (ev:Operand->Value):Option Operand->Nat->Option Nat
 |none,d=>some d
 |some x,_=>match ev x with
  |.int _ i=>if 0<=i then some i.toNat else none
  |_=>none
def YK (size:Nat) (U:Heap) (s:Value) (l h:Nat) (m:Option Nat):Option (Value×Heap) :=
 match s with
 |.slice none 0 0=>if l=0/\h=0/\(m.getD 0)=0 then some (.slice none 0 0,U) else none
 |.slice (some ⟨i,o,none⟩) _ cap =>
  match U.get i with
  |some (.cells _ e _ t) =>
   match m with
   |none=>if e.sz=size/\l<=h/\h<=cap then some (.slice (some ⟨i,o+l*size,none⟩) (h-l) (cap-l),U) else none
   |some m =>
    if e.sz=size/\l<=h/\h<=m/\m<=cap then
     if m=l then some (.slice (some ⟨U.n,0,none⟩) 0 0,U.push (.cells [] e false true))
     else if t=false/\h=m then some (.slice (some ⟨i,o+l*size,some 0⟩) (h-l) (m-l),U)
     else some (.slice (some ⟨i,o+l*size,none⟩) (h-l) (m-l),U)
    else none
  |_=>none
 |_=>none
def ZF:MK->Value->Bool
 |.int k,.int k' _=>decide (k=k')
 |.string,.string _|.bool,.bool _=>true
 |.agg s,.agg cs=>fits s cs.toList
 |_,_=>false
def XT:Value->Value->Bool
 |.agg a,.agg b=>QD a.toList b.toList
 |.int _ a,.int _ b=>a==b
 |.string a,.string b=>a.data.toList==b.data.toList
 |.bool a,.bool b=>a==b
 |_,_=>false
abbrev JO:=Value×Value×Nat
def Qh (k:Value):List JO->Option JO
 |[]=>none
 |e::es=>if XT k e.1 then some e else Qh k es
def Qx (k v:Value) (clock:Nat):List JO->List JO×Nat
 |[]=>([(k,v,clock)],clock+1)
 |e::es=>if XT k e.1 then ((k,v,e.2.2)::es,clock) else (e::(Qx k v clock es).1,(Qx k v clock es).2)
def Uv (k:Value):List JO->List JO
 |[]=>[]
 |e::es=>if XT k e.1 then es else e::Uv k es
def Heap.mapAt (U:Heap) (m:Nat):Option (List JO×Nat×Bool):=match U.get m with
 |some (.obj (.map es clock) wr)=>some (es,clock,wr)
 |_=>none
def Q6x:Value->Option UInt8
 |.int .u8 n=>some n.toNat.toUInt8
 |_=>none
def AZ (l:List Value):Option ByteArray:=(l.mapM Q6x).map λbs=>⟨bs.toArray⟩
def Y3:Nat->Value->Value->Heap->Option Bool
 |0,.pointer none,.pointer none,_=>some true
 |0,.pointer none,.pointer (some _),_=>some false
 |0,.pointer (some _),.pointer none,_=>some false
 |0,.pointer (some ⟨i,o,none⟩),.pointer (some ⟨j,q,none⟩),U=>if i=j/\o=q/\(U.get i).isSome=true then some true else none
 |1,.slice none _ _,.slice none _ _,_=>some true
 |1,.slice none _ _,.slice (some _) _ _,_=>some false
 |1,.slice (some _) _ _,.slice none _ _,_=>some false
 |2,.map none,.map none,_=>some true
 |2,.map none,.map (some _),_=>some false
 |2,.map (some _),.map none,_=>some false
 |3,.nilFunc,.nilFunc,_=>some true
 |3,.nilFunc,.func _ _ _,_=>some false
 |3,.func _ _ _,.nilFunc,_=>some false
 |_,_,_,_=>none
def J5 (o:XOp) (ev:Operand->Value) (U:Heap):Option (Value×Heap) :=
 match o with
 |.eqNil kd neg x y=>match Y3 kd (ev x) (ev y) U with|some b=>some (.bool (if neg then !b else b),U)|none=>none
 |.eqAgg neg s x y=>match ev x,ev y with
  |.agg a,.agg b=>if fits s a.toList=true/\fits s b.toList=true then some (.bool (if neg then !(QD a.toList b.toList) else QD a.toList b.toList),U) else none
  |_,_=>none
 |.makeMap=>some (.map (some U.n),U.push (.obj (.map [] 0) true))
 |.lookup mk z ok x i =>
  let k:=ev i
  if ZF mk k then
   match ev x with
   |.map none=>some (if ok then .tuple #[z,.bool false] else z,U)
   |.map (some m)=>match U.mapAt m with
    |some (es,_,_)=>if es.all (λe=>ZF mk e.1) then
      (match Qh k es with
      |some e=>some (if ok then .tuple #[e.2.1,.bool true] else e.2.1,U)
      |none=>some (if ok then .tuple #[z,.bool false] else z,U)) else none
    |none=>none
   |_=>none
  else none
 |.mapUpdate mk m k v=>match ev m with
  |.map (some i)=>match U.mapAt i with
   |some (es,clock,true)=>if ZF mk (ev k)&&es.all (λe=>ZF mk e.1) then some (undef,U.upd i (.obj (.map (Qx (ev k) (ev v) clock es).1 (Qx (ev k) (ev v) clock es).2) true)) else none
   |_=>none
  |_=>none
 |.delete mk m k=>match ev m with
  |.map (some i)=>match U.mapAt i with
   |some (es,clock,true)=>if ZF mk (ev k)&&es.all (λe=>ZF mk e.1) then some (.tuple #[],U.upd i (.obj (.map (Uv (ev k) es) clock) true)) else none
   |_=>none
  |_=>none
 |.mapEntry mk z m k=>match ev m with
  |.map (some i)=>match U.mapAt i with
   |some (es,clock,true)=>if ZF mk (ev k)&&es.all (λe=>ZF mk e.1) then
     (match Qh (ev k) es with
     |some e=>some (.tuple #[e.2.1,.int .i64 e.2.2],U.upd i (.obj (.map (Qx (ev k) e.2.1 clock es).1 (Qx (ev k) e.2.1 clock es).2) true))
     |none=>some (.tuple #[z,.int .i64 clock],U.upd i (.obj (.map (Qx (ev k) z clock es).1 (Qx (ev k) z clock es).2) true))) else none
   |_=>none
  |_=>none
 |.entryStore m s v=>match ev m,ev s with
  |.map (some i),.int .i64 n=>match U.mapAt i with
   |some (es,clock,true)=>(match es.findIdx? (λe=>(e.2.2:Int)==n) with
    |some j=>(match es[j]? with
     |some e=>some (undef,U.upd i (.obj (.map (es.set j (e.1,ev v,e.2.2)) clock) true))
     |none=>none)
    |none=>none)
   |_=>none
  |_,_=>none
 |.lenMap x=>match ev x with
  |.map none=>some (.int .i64 0,U)
  |.map (some m)=>match U.mapAt m with
   |some (es,_,_)=>some (.int .i64 es.length,U)
   |none=>none
  |_=>none
 |.rangeMap x=>match ev x with
  |.map (some m)=>match U.mapAt m with
   |some (_,clock,_)=>some (.pointer (some ⟨U.n,0,none⟩),U.push (.obj (.iter m clock [] clock) true))
   |none=>none
  |_=>none
 |.nextMap _=>none
 |.rangeStr x=>match ev x with
  |.string s=>some (.pointer (some ⟨U.n,0,none⟩),U.push (.obj (.siter s 0) true))
  |_=>none
 |.nextStr x=>match ev x with
  |.pointer (some ⟨i,0,none⟩)=>match U.get i with
   |some (.obj (.siter s pos) true)=>match s.data.toList[pos]? with
    |some b=>if b.toNat<128 then some (.tuple #[.bool true,.int .i64 pos,.int .i32 b.toNat],U.upd i (.obj (.siter s (pos+1)) true)) else none
    |none=>some (.tuple #[.bool false],U)
   |_=>none
  |_=>none
 |.entry x=>match ev x with
  |.pointer (some ⟨i,0,none⟩)=>match U.get i with
   |some (.obj (.iter m _ seen last) _)=>match U.mapAt m,seen.getLast? with
    |some (es,clock,_),some b=>if clock=last then (match es.find? (λe=>e.2.2==b) with|some e=>if UI e.1 then some (.tuple #[e.1,e.2.1],U) else none|none=>none) else none
    |_,_=>none
   |_=>none
  |_=>none
 |.copy size d s=>match ev d,ev s with
  |.slice db dn _,.slice sb sn sc =>
   if min sn dn=0 then some (.int .i64 0,U) else
   match db,U.sl size (.slice sb (min sn dn) sc) with
   |some ⟨i,o,none⟩,some xs=>match U.get i with
    |some (.cells c e wr tight)=>if wr=true/\e.sz=size/\o+xs.length<=c.length/\xs.all cellOk=true then some (.int .i64 (min sn dn:Nat),U.upd i (.cells (Wz c o xs) e wr tight)) else none
    |_=>none
   |_,_=>none
  |_,_=>none
 |.clear z x=>match ev x with
  |.slice b n _ =>
   if n=0 then some (.tuple #[],U) else
   match b with
   |some ⟨i,o,none⟩=>match U.get i with
    |some (.cells c e wr tight)=>if wr=true/\o+n*z.length<=c.length/\z.all cellOk=true then some (.tuple #[],U.upd i (.cells (Wz c o (TW n z)) e wr tight)) else none
    |_=>none
   |_=>none
  |_=>none
 |.toUnsafe x=>match ev x with
  |.pointer none=>some (.pointer none,U)
  |.pointer (some ⟨i,o,none⟩)=>match U.get i with
   |some (.cells c _ _ _)=>if o<c.length then some (.pointer (some ⟨i,o,none⟩),U) else none
   |_=>none
  |_=>none
 |.fromUnsafe u size x=>match ev x with
  |.pointer none=>some (.pointer none,U)
  |.pointer (some ⟨i,o,none⟩)=>match U.get i with
   |some (.cells c e true true)=>if o=0/\e.ty=u/\size<=c.length then some (.pointer (some ⟨i,o,none⟩),U) else none
   |_=>none
  |_=>none
 |.sliceData x=>match ev x with
  |.slice none _ _=>some (.pointer none,U)
  |.slice (some ⟨i,o,none⟩) _ cap=>if cap≠0/\(U.get i).isSome=true then some (.pointer (some ⟨i,o,none⟩),U) else none
  |_=>none
 |.unsafeStr e x n=>match ev x,ev n with
  |.pointer p,.int .i64 k =>
   if k=0 then some (.string ⟨#[]⟩,U) else
   match p with
   |some ⟨i,o,none⟩=>match U.get i with
    |some (.cells c el true tight) =>
     if 0<k/\k<=2 ^ 62/\el.ty=e/\o+k.toNat<=c.length then
      (match AZ ((c.drop o).take k.toNat) with
      |some s=>some (.string s,U.upd i (.cells c el false tight))
      |none=>none) else none
    |_=>none
   |_=>none
  |_,_=>none
 |.strBytes e x=>match ev x with
  |.string s=>if s.size<=2 ^ 62 then some (.slice (some ⟨U.n,0,none⟩) s.size s.size,U.push (.cells (s.data.toList.map λb=>.int .u8 b.toNat) ⟨1,e⟩ true false)) else none
  |_=>none
 |.bytesStr x=>match ev x with
  |.slice a n c=>match U.sl 1 (.slice a n c) with
   |some xs=>match AZ xs with|some s=>some (.string s,U)|none=>none
   |none=>none
  |_=>none
def Q5n (a b:Int):Int:=if b > a then b else a
theorem Q86 (a b:Int):Q5n (Q5n a b) b=Q5n a b:=by unfold Q5n;(repeat' split)<;>omega
def Q8 (o:VOp) (ev:Operand->Value) (U:Heap):Option (Value×Heap) :=
 match o with
 |.move x=>some (ev x,U)
 |.pick c a b=>match ev c with|.bool t=>some (if t then ev a else ev b,U)|_=>none
 |.arith op x y=>match ev x,ev y with|.int k a,.int k' b=>if k=k' then some (.int k (Eg op k a b),U) else none|_,_=>none
 |.div op x y=>match ev x,ev y with|.int k a,.int k' b=>if k=k'/\b≠0 then some (.int k (Z5d op k a b),U) else none|_,_=>none
 |.bits op x y=>match ev x,ev y with|.int k a,.int k' b=>if k=k' then some (.int k (Qb op k a b),U) else none|_,_=>none
 |.shift op x y=>match ev x,ev y with|.int k a,.int _ b=>if 0<=b then some (.int k (Eu op k a b),U) else none|_,_=>none
 |.cmp op x y=>match ev x,ev y with|.int k a,.int k' b=>if k=k' then some (.bool (Z9l op a b),U) else none|_,_=>none
 |.str op x y=>match ev x,ev y with
  |.string a,.string b=>match op with
   |.add=>if a.size+b.size<=2 ^ 62 then some (.string (a++b),U) else none
   |.eql=>some (.bool (a.data.toList==b.data.toList),U)
   |.neq=>some (.bool (!(a.data.toList==b.data.toList)),U)
   |.lss=>some (.bool (Op.bytesLess a.data.toList b.data.toList),U)
   |_=>none
  |_,_=>none
 |.eqB neg x y=>match ev x,ev y with|.bool a,.bool b=>some (.bool (if neg then !(a==b) else (a==b)),U)|_,_=>none
 |.un op x=>match op,ev x with
  |.not,.bool b=>some (.bool (!b),U)
  |.neg,.int k n=>some (.int k (k.wrap (0-n)),U)
  |.xor,.int k n=>some (.int k (Qb .xor k (if k.signed then -1 else k.max) n),U)
  |_,_=>none
 |.convI k x=>match ev x with|.int _ n=>some (.int k (k.wrap n),U)|_=>none
 |.convS x=>match ev x with|.string s=>some (.string s,U)|_=>none
 |.alloc t z=>some (.pointer (some ⟨U.n,0,none⟩),U.push (.cells z ⟨z.length,t⟩ true true))
 |.box t x=>match Vv (ev x) with
  |some vs=>some (.pointer (some ⟨U.n,0,none⟩),U.push (.cells vs ⟨vs.length,t⟩ true true))
  |none=>none
 |.build z parts=>match Gf z (parts.map λp=>(p.1,p.2.1,ev p.2.2)) with|some cs=>some (.agg cs.toArray,U)|none=>none
 |.buildSlice esz z len parts=>match Gf (TW len z) (parts.map λp=>(p.1*esz.sz,esz.sz,ev p.2)) with
  |some cs=>some (.slice (some ⟨U.n,0,none⟩) len len,U.push (.cells cs esz true true))
  |none=>none
 |.load agg size a=>match ev a with
  |.pointer (some ⟨g,o,some _⟩)=>(match Q9k g with
   |some c=>if c.all Zl then (match YC agg size c o with|some v=>some (v,U)|none=>none) else none
   |none=>none)
  |.pointer (some ⟨i,o,none⟩)=>match U.get i with
   |some (.cells c _ _ _)=>match YC agg size c o with|some v=>some (v,U)|none=>none
   |_=>none
  |_=>none
 |.store size a v=>match ev a,Vv (ev v) with
  |.pointer (some ⟨i,o,none⟩),some vs=>match U.get i with
   |some (.cells c e wr tight)=>if wr=true/\vs.length=size/\o+size<=c.length/\vs.all cellOk=true then some (undef,U.upd i (.cells (Wz c o vs) e wr tight)) else none
   |_=>none
  |_,_=>none
 |.fieldAddr off a=>match ev a with
  |.pointer (some ⟨i,o,none⟩)=>some (.pointer (some ⟨i,o+off,none⟩),U)
  |_=>none
 |.field agg off size x=>match ev x with
  |.agg cs=>match YC agg size cs.toList off with|some v=>some (v,U)|none=>none
  |_=>none
 |.indexAddr size x i=>match ev x,ev i with
  |.slice (some ⟨b,o,none⟩) n _,.int _ k=>if 0<=k/\k<n then some (.pointer (some ⟨b,o+k.toNat*size,none⟩),U) else none
  |_,_=>none
 |.indexAddrArr len size x i=>match ev x,ev i with
  |.pointer (some ⟨g,o,some s⟩),.int _ k=>if 0<=k/\k<len then some (.pointer (some ⟨g,o+k.toNat*size,some s⟩),U) else none
  |.pointer (some ⟨b,o,none⟩),.int _ k=>if 0<=k/\k<len then some (.pointer (some ⟨b,o+k.toNat*size,none⟩),U) else none
  |_,_=>none
 |.indexStr x i=>match ev x,ev i with
  |.string s,.int _ k=>if 0<=k then (match s.data.toList[k.toNat]? with|some b=>some (.int .u8 b.toNat,U)|none=>none) else none
  |_,_=>none
 |.indexArr len agg size x i=>match ev x,ev i with
  |.agg cs,.int _ k=>if 0<=k/\k<len then (match YC agg size cs.toList (k.toNat*size) with|some v=>some (v,U)|none=>none) else none
  |_,_=>none
 |.slice size x lo hi mx =>
  match ev x with
  |.slice a n cap =>
   match Jz ev lo 0,Jz ev hi n,mx with
   |some l,some h,none=>YK size U (.slice a n cap) l h none
   |some l,some h,some _=>match Jz ev mx 0,hi with
    |some m,some _=>YK size U (.slice a n cap) l h (some m)
    |_,_=>none
   |_,_,_=>none
  |_=>none
 |.sliceStr x lo hi =>
  match ev x with
  |.string s =>
   match Jz ev lo 0,Jz ev hi s.size with
   |some l,some h=>if l<=h/\h<=s.size then some (.string (s.extract l h),U) else none
   |_,_=>none
  |_=>none
 |.makeSlice esz bytes z l c =>
  match ev l,ev c with
  |.int _ a,.int _ b=>if 0<=a/\a<=b/\b*bytes<=2 ^ 46/\b<=2 ^ 46 then some (.slice (some ⟨U.n,0,none⟩) a.toNat b.toNat,U.push (.cells (TW b.toNat z) esz true true)) else none
  |_,_=>none
 |.len x=>match ev x with
  |.slice _ n _=>some (.int .i64 n,U)
  |_=>none
 |.lenStr x=>match ev x with
  |.string s=>some (.int .i64 s.size,U)
  |_=>none
 |.append esz bytes s x =>
  match U.sl esz.sz (ev x),ev x with
  |some xs,.slice _ m _=>if xs.all cellOk then Wc esz bytes U (ev s) m xs else none
  |_,_=>none
 |.max4 x y z w=>match ev x,ev y,ev z,ev w with|.int k a,.int k2 b,.int k3 c,.int k4 d=>if k=k2/\k=k3/\k=k4 then some (.int k (Q5n (Q5n (Q5n a b) c) d),U) else none|_,_,_,_=>none
 |.max x y=>match ev x,ev y with|.int k a,.int k' b=>if k=k' then some (.int k (if b > a then b else a),U) else none|_,_=>none
 |.min x y=>match ev x,ev y with|.int k a,.int k' b=>if k=k' then some (.int k (if b<a then b else a),U) else none|_,_=>none
 |.makeFunc fn first cap=>some (.func fn (first.map ev).toArray (cap.map ev).toArray,U)
 |.iface t x=>match ev x with|.chan _=>none|v=>some (.iface t v,U)
 |.extract x i=>match ev x with
  |.tuple vs=>match vs.toList[i]? with|some v=>some (v,U)|none=>none
  |_=>none
 |.nilCheck x=>match ev x with
  |.pointer (some a)=>some (.pointer (some a),U)
  |.func (.func f) first cap=>some (.func (.func f) first cap,U)
  |_=>none
 |.ext o=>J5 o ev U
 |.callF ..|.callV ..|.bad=>none
def Zm {α:Type}(o:Option α) (f:α->Prop):Prop:=match o with|some a=>f a|none=>False
def vif (b:Bool) (A B:Prop):Prop:=(b=true->A)/\(b=false->B)
def Q80 (v:Value) (A B:Prop):Prop:=match v with|.bool t=>vif t A B|_=>False
abbrev CD:=List Value->Heap->(Value->Heap->Prop)->Prop
structure VSpecs where
 fn:FuncId->Option CD
 yl:Nat->Option CD
 it:FuncId->Option (Nat->CD->CD)
def vcall (S:VSpecs) (f:FuncId) (args:List Value) (U:Heap) (K:Value->Heap->Prop):Prop :=
 match S.fn f with
 |some s=>s args U K
 |none=>False
def Q3g (S:VSpecs) (i:Nat) (args:List Value) (U:Heap) (K:Value->Heap->Prop):Prop :=
 match S.yl i with
 |some s=>s args U K
 |none=>False
def Q0h (x:Value) (U:Heap) (K:Value->Heap->Prop):Prop :=
 match x with
 |.pointer (some ⟨i,0,none⟩)=>match U.get i with
  |some (.obj (.iter m since seen last) true)=>match U.mapAt m with
   |some (es,clock,_)=>(seen.isEmpty||es.isEmpty||es.any (λe=>decide (e.2.2<last)))=true/\es.all (λe=>UI e.1)=true /\
     (es.all (λe=>seen.contains e.2.2||decide (since<=e.2.2))=true->K (.tuple #[.bool false]) U) /\
     ∀ e∈es,seen.contains e.2.2=false->K (.tuple #[.bool true,e.1,e.2.1]) (U.upd i (.obj (.iter m since (seen++[e.2.2]) clock) true))
   |none=>False
  |_=>False
 |_=>False
def XH (env:Env) (d:Option Nat) (v:Value):Env :=
 match d with
 |some d=>env.set d v
 |none=>env
def vop (S:VSpecs) (o:VOp) (env:Env) (U:Heap) (K:Value->Heap->Prop):Prop :=
 match o with
 |.callF f args=>vcall S f (args.map (Q5 env)) U K
 |.callV f args=>match Q5 env f with
  |.func (.func g) first cap=>vcall S g (first.toList++args.map (Q5 env)++cap.toList) U K
  |.func (.yield i) _ _=>Q3g S i (args.map (Q5 env)) U K
  |_=>False
 |.ext (.nextMap x)=>Q0h (Q5 env x) U K
 |o=>Zm (Q8 o (Q5 env) U) λp=>K p.1 p.2
def JD (env:Env):Option (Nat×Bool)->Option Bool
 |none=>some true
 |some (d,want)=>match env.getD d undef with
  |.bool b=>some (b==want)
  |.tuple _=>some false
  |_=>none
def A0 (S:VSpecs):List VOper->Env->Heap->(Env->Heap->Prop)->Prop
 |[],env,U,K=>K env U
 |o::rest,env,U,K=>Zm (JD env o.guard) λb =>
   vif b (vop S o.op env U λv U'=>A0 S rest (XH env o.dst v) U' K) (A0 S rest (XH env o.dst undef) U K)
def Q42:Value->Bool
 |.bool _|.int _ _|.string _|.pointer none|.slice none 0 0|.map none|.nilFunc|.nilIface=>true
 |.tuple vs=>vs.toList.all Zl
 |_=>false
def Heap.Le (U U':Heap):Prop:=U.n<=U'.n/\∀ i b,U.get i=some b->U'.get i=some b
def PF (A:(Value->Heap->Prop)->Prop) (R:Value->Heap->Prop):Prop:=∃ v U',A (λv' aF=>v'=v/\aF=U')/\R v U'
def XD (op:VOp) (ev:Operand->Value) (v:Value) (Z:Heap):Prop:=Zm (Q8 op ev Z) λq=>q.1=v
def XK (r:Nat) (U:Heap):List (Nat×(Heap->Prop))->Prop
 |[]=>True
 |c::l=>(r<=c.1->c.2 U)/\XK r U l
def waits:List Nat->List DOper->Bool
 |_,[]=>true
 |xs,o::r=>((o.kind==2)||(Q75 o.op.opds++(o.guard.map (·.1)).toList).any (λx=>xs.contains x))&&waits (o.dst.toList++xs) r
def Z_ (S:VSpecs):List DOper->Env->List Heap->Heap->List (Nat×(Heap->Prop))->(Env->Heap->Prop)->Prop
 |[],env,_,U,_,K=>K env U
 |o::rest,env,hs,U,pend,K=>Zm (JD env o.guard) λb =>
   vif b (if o.kind=2 then (PF (λR=>vop S o.op env U R) λv U'=>XK hs.length U' pend/\Z_ S rest (XH env o.dst v) (hs++[U']) U' pend K) \/
      (waits o.dst.toList rest=true/\vop S o.op env U λv U'=>XK hs.length U' pend/\Z_ S rest (XH env o.dst v) (hs++[U']) U' pend K)
     else if o.kind=1 then Zm (Q8 o.op (Q5 env) U) λp=>(∀ Z∈hs.drop o.kmin,XD o.op (Q5 env) p.1 Z) /\
      Z_ S rest (XH env o.dst p.1) hs U (if hs.length<=o.kmax then (o.kmax,XD o.op (Q5 env) p.1)::pend else pend) K
     else Zm (Q8 o.op (Q5 env) U) λp=>Z_ S rest (XH env o.dst p.1) hs U pend K)
    (if o.kind=2 then XK hs.length U pend/\Z_ S rest (XH env o.dst undef) (hs++[U]) U pend K else Z_ S rest (XH env o.dst undef) hs U pend K)
def DropE (σ0:Heap) (env:Env) (U:Heap) (ae:Env) (U':Heap):Prop :=
 ∀ ρ0 w0 ρ w cs,HRel ρ0 σ0 w0->Ext ρ0 σ0 w0 ρ U w->HRel ρ U w->LRel ρ U.n env cs->∃ ρ',LRel ρ' U'.n ae cs/\HRel ρ' U' w/\Ext ρ0 σ0 w0 ρ' U' w
theorem DropE.refl (σ0:Heap) (env:Env) (U:Heap):DropE σ0 env U env U:=λ_ _ ρ _ _ _ hE hH hL=>⟨ρ,hL,hH,hE⟩
def Bj (S:VSpecs):List DSeg->Env->Heap->(Env->Heap->Prop)->Prop
 |[],env,U,K=>K env U
 |.one o::rest,env,U,K=>A0 S [o] env U λenv U=>Bj S rest env U K
 |.alts l::rest,env,U,K=>∀ ops∈l,Z_ S ops env [U] U [] λbq σ1=>∃ bg σ2,DropE U bq σ1 bg σ2/\Bj S rest bg σ2 K
def RE (live:List Nat) (env:Env):List Value:=live.map λi=>env.getD i poison
def Wx:List Nat->List Value->Env->Env
 |i::l,v::vs,env=>Wx l vs (env.set i v)
 |_,_,env=>env
def J1i (W:(Exit->Env->Heap->Prop)->Env->Heap->Prop) (Q:Exit->Env->Heap->Prop) (env:Env) (U:Heap):Prop :=
 ∃ (live:List Nat) (I:Nat->List Value->Heap->Prop) (n0:Nat),I n0 (RE live env) U /\
  ∀ n vs U',I n vs U'->W (λe ae aF=>match e with
   |.normal=>∃ n',n'<n/\I n' (RE live ae) aF
   |e=>Q e ae aF) (Wx live vs (List.replicate env.length poison)) U'
def J4r (R:Env->Heap->Prop) (Q:Exit->Env->Heap->Prop):Exit->Env->Heap->Prop
 |.normal,env,U=>R env U
 |e,env,U=>Q e env U
def Q1s (id:Nat) (Q:Exit->Env->Heap->Prop):Exit->Env->Heap->Prop
 |.exit ia,env,U=>if ia=id then Q .normal env U else Q (.exit ia) env U
 |e,env,U=>Q e env U
def Li:Env->List Nat->List Value->Env
 |env,p::ps,v::vs=>Li (env.set p v) ps vs
 |env,_,_=>env
def Z8f (env:Env) (r:Loop) (i:Nat) (K:Value->Heap->Prop):Exit->Env->Heap->Prop:=λe _ U =>
 U.get i=some (.obj (.lp env r .busy none) true)/\match e with
  |.normal=>K (.bool true) (U.upd i (.obj (.lp env r .ready none) true))
  |.ret=>K (.bool false) (U.upd i (.obj (.lp env r .done (some .ret)) true))
  |.exit id=>K (.bool false) (U.upd i (.obj (.lp env r .done (some (.exit id))) true))
  |_=>False
def Q31 (A B:(Exit->Env->Heap->Prop)->Env->Heap->Prop) (ps:List Nat) (env:Env) (r:Loop) (i:Nat):CD:=λargs U K =>
 U.get i=some (.obj (.lp env r .ready none) true)/\args.length=ps.length /\
  A (J4r (λbq σ1=>σ1.get i=some (.obj (.lp env r .ready none) true)/\B (Z8f env r i K) bq (σ1.upd i (.obj (.lp env r .busy none) true))) (λ_ _ _=>False)) (Li env ps args) U
def Z17 (Q:Exit->Env->Heap->Prop) (env:Env) (i:Nat):Value->Heap->Prop:=λ_ U =>
 match U.get i with
 |some (.obj (.lp _ _ st pend) true)=>st≠.busy/\match pend with
  |none=>Q .normal env (U.kill i)
  |some .ret=>Q .ret env (U.kill i)
  |some (.exit id)=>Q (.exit id) env (U.kill i)
  |some _=>False
 |_=>False
def J46 (U:Heap):Option Nat->Prop
 |none=>True
 |some i=>∃ env r st pend,U.get i=some (.obj (.lp env r st pend) true)
def OJ (S:VSpecs) (ro:Option Nat) (A B:Option Nat->(Exit->Env->Heap->Prop)->Env->Heap->Prop) (g:Value) (ps:List Nat) (Q:Exit->Env->Heap->Prop) (env:Env) (U:Heap):Prop :=
 match g with
 |.func (.func f) first cap=>match S.it f with
  |some T=>J46 U ro/\∀ r:Loop,T U.n (Q31 (A (some U.n)) (B (some U.n)) ps env r U.n) (first.toList++[.func (.yield U.n) #[] #[]]++cap.toList) (U.push (.obj (.lp env r .ready none) true)) (Z17 Q env U.n)
  |none=>False
 |_=>False
def vwp (S:VSpecs):VCode->Option Nat->(Exit->Env->Heap->Prop)->Env->Heap->Prop
 |.skip,_,Q,env,U=>Q .normal env U
 |.region ops,_,Q,env,U=>A0 S ops env U λenv U=>Q .normal env U
 |.regionD aT,_,Q,env,U=>Bj S aT env U λenv U=>Q .normal env U
 |.seq a b,ro,Q,env,U=>vwp S a ro (J4r (vwp S b ro Q) Q) env U
 |.cond c a b,ro,Q,env,U=>Q80 (Q5 env c) (vwp S a ro Q env U) (vwp S b ro Q env U)
 |.block id b,ro,Q,env,U=>vwp S b ro (Q1s id Q) env U
 |.loop b,ro,Q,env,U=>J1i (vwp S b ro) Q env U
 |.rangeF g ps a b,ro,Q,env,U=>OJ S ro (vwp S a) (vwp S b) (Q5 env g) ps Q env U
 |.exit id,_,Q,env,U=>Q (.exit id) env U
 |.ret,_,Q,env,U=>Q .ret env U
 |.bad,_,_,_,_=>False
inductive VResult where
 |tmp (t:Nat)
 |cell (a:Nat) (agg:Bool) (size:Nat)
def Xg (P:Program):ResultVar->Option VResult
 |.tmp t=>some (.tmp t)
 |.cell a t =>
  match P.info? t,P.underlying t with
  |some i,some d=>some (.cell a (MN d) i.size)
  |_,_=>none
def NK (P:Program) (rs:List ResultVar):Option (List VResult):=rs.mapM (Xg P)
def X5 (env:Env) (U:Heap):VResult->Option Value
 |.tmp t=>some (env.getD t undef)
 |.cell a agg size=>(Q8 (.load agg size (.tmp a)) (Q5 env) U).map (·.1)
def Jl (env:Env) (U:Heap) (rs:List VResult):Option Value :=
 match rs with
 |[r]=>X5 env U r
 |rs=>(rs.mapM (X5 env U)).map λvs=>.tuple vs.toArray
def Z9f (rs:List VResult) (R:Value->Heap->Prop):Exit->Env->Heap->Prop
 |.normal,env,U|.ret,env,U=>Zm (Jl env U rs) λv=>R v U
 |_,_,_=>False
theorem Wj (b:Nat):∀ (vs:List Value) (o:Nat) (w:World) (k:Nat),k≠b->(w.setCells b o vs).heap[k]?=w.heap[k]?
 |[],_,_,_,_=>rfl
 |v::r,o,w,k,h=>by
  rw[World.setCells,Wj b r (o+1) _ k h]
  grind [heap_setCell_other]
theorem Ye (b:Nat):∀ (vs:List Value) (o:Nat) (w:World),(w.setCells b o vs).heap.size=w.heap.size
 |[],_,_=>rfl
 |v::r,o,w=>by rw[World.setCells,Ye b r];exact World.size_setCell w _ _
theorem Ho (b:Nat):∀ (vs:List Value) (o:Nat) (w:World),(w.setCells b o vs).os=w.os/\(w.setCells b o vs).tape=w.tape/\(w.setCells b o vs).output=w.output
 |[],_,_=>⟨rfl,rfl,rfl⟩
 |v::r,o,w=>by rw[World.setCells];exact Ho b r (o+1) _
theorem UK (b:Nat):∀ (vs:List Value) (o:Nat) (w:World) (C:Array Value) (e:TypeId) (f:Nat×Nat),w.heap[b]?=some (.cells C e f) ->
  ∃ C',(w.setCells b o vs).heap[b]?=some (.cells C' e f)/\C'.size=C.size
 |[],_,_,C,_,_,h=>⟨C,h,rfl⟩
 |v::r,o,w,C,e,f,h=>by
  have h1:(w.setCell ⟨b,o,none⟩ v).heap[b]?=some (.cells (C.setIfInBounds o v) e f):=by simp only[World.setCell,Array.getElem?_modify,zt,h];simp
  obtain⟨C',h2,h3⟩:=UK b r (o+1) _ _ e f h1;exact⟨C',by rw[World.setCells];exact h2,by rw[h3];simp⟩
theorem Xa (vs:List Value):∀ (c:List Value) (o:Nat),(Wz c o vs).length=c.length:=by
 induction vs with
 |nil=>intro c o;rfl
 |cons v r ih=>intro c o;rw[Wz,ih];simp
theorem Ur (vs:List Value):∀ (c:List Value) (o k:Nat),(k<o\/o+vs.length<=k)->(Wz c o vs)[k]?=c[k]?:=by
 induction vs with
 |nil=>intro c o k _;rfl
 |cons v r ih =>intro c o k h;rw[Wz,ih _ _ _ (by simp at h;omega),List.getElem?_set_ne (by simp at h;omega)]
theorem Fh (vs:List Value):∀ (c:List Value) (o k:Nat),o+vs.length<=c.length->k<vs.length->(Wz c o vs)[o+k]?=vs[k]?:=by
 induction vs with
 |nil=>intro c o k _ h;simp at h
 |cons v r ih =>
  intro c o k h hk;simp at h hk;cases k with
  |zero=>rw[Wz,Ur _ _ _ _ (by left;omega),x4,List.getElem?_set_self (by omega)];rfl
  |succ k =>rw[Wz,show o+(k+1)=o+1+k by omega,ih _ _ _ (by simp;omega) (by omega)];simp
theorem BRel.q0v {ρ:Plc}{n:Nat}{p:Pl}{w:World}{c:List Value}{esz:El}{wr tight:Bool}(h:BRel ρ n p w (.cells c esz wr tight)) (k:Nat) (hk:k<p.ext):(w.cell? ⟨p.blk,p.shift+k,none⟩).isSome=true:=by
 obtain⟨_,_,_,⟨C,e,f,h1,h2⟩,_⟩:=h;have h3:p.shift+k<C.size:=by omega
 simp[World.cell?,h1,h3]
theorem BRel.other {ρ ρ':Plc}{n n':Nat}{q:Pl}{w w':World}{b:Blk}(hn:n<=n') (hρ:∀ i,i<n->∀ p,ρ' i=some p->ρ i=some p) (B:Nat) (C:Array Value) (e:TypeId) (f:Nat×Nat) (hB:w.heap[B]?=some (.cells C e f))
  (aG:0<q.ext->B≠q.blk) (hC:∃ C' f',w'.heap[B]?=some (.cells C' e f')/\C.size<=C'.size) (ho:∀ k,k≠B->k<w.heap.size->w'.heap[k]?=w.heap[k]?) (hq:q.blk<w.heap.size) (h:BRel ρ n q w b):BRel ρ' n' q w' b:=by
 by_cases hk:q.blk=B
 .have h0:q.ext=0:=by
   omega
  cases b with
  |cells c esz wr tight =>
   obtain⟨h1,h2,h3,⟨C0,e0,f0,h4,iW⟩,h5,h6⟩:=h;have hc:c=[]:=x5.1 (by omega);obtain⟨C',f',mF,oM⟩:=hC;have tc:C0=C/\e0=e:=by simp_all
   obtain⟨rfl,rfl⟩:=tc;refine⟨h1,h2,by omega,(by grind),λk v hv=>by simp[hc] at hv,(by simp_all)⟩
  |obj o wr=>have:=h.1;omega
 .exact h.mono hn hρ (ho _ hk hq)
theorem HRel0.store {ρ:Plc}{U:Heap}{w:World}(h:HRel0 ρ U w) {i:Nat}{p:Pl}{c:List Value}{esz:El}{tight:Bool}(hp:ρ i=some p) (hb:U.get i=some (.cells c esz true tight))
  {o:Nat}{vs cs:List Value}(hv:LRel ρ U.n vs cs) (ho:o+vs.length<=c.length) :
  HRel0 ρ (U.upd i (.cells (Wz c o vs) esz true tight)) (w.setCells p.blk (p.shift+o) cs)/\Ext ρ U w ρ (U.upd i (.cells (Wz c o vs) esz true tight)) (w.setCells p.blk (p.shift+o) cs):=by
 have hi:=U.lt hb;obtain⟨p',bE,hB⟩:=h.live i _ hb;obtain rfl:p=p':=osj (hp.symm.trans bE);obtain⟨h1,h2,h3,⟨C,e,f,h4,iW⟩,h5,h6⟩:=hB;obtain⟨C',mF,oM⟩:=UK p.blk cs (p.shift+o) w C e f h4;have cu:vs.length=cs.length:=hv.1;refine⟨⟨λj b hj=>?_,λj hj=>?_,λj q hq=>by rw[Ye];exact h.lt j q hq,λj k q r b dq hq hr cq hw hx=>?_⟩,?_⟩
 .by_cases aQ:j=i
  .subst aQ;rw[Heap.q0c _ _ hi] at hj;obtain rfl:=osj hj;refine⟨p,hp,h1,h2,by rw[Xa];exact h3,⟨C',e,f,mF,by omega,iW.2⟩,λk v hk=>?_,(by grind [World.frozen?_setCells])⟩;have cL:k<c.length:=by grind [List.getElem?_eq_some_iff,Xa]
   by_cases bG:k<o\/o+vs.length<=k
   .rw[Ur _ _ _ _ bG] at hk;obtain⟨u,hu,cH⟩:=h5 k v hk;exact⟨u,by grind [World.cell?_setCells_out],cH⟩
   .have oN:k=o+(k-o):=by omega
    rw[oN,Fh _ _ _ _ ho (by omega)] at hk;obtain⟨u,hu,cH⟩:=hv.get hk;have oO:k-o<cs.length:=(zq.1 hu).1;refine⟨u,?_,cH⟩;have:=World.cell?_setCells_in p.blk cs (p.shift+o) w (λj hj=>by
     rw[zw];exact BRel.q0v (ρ:=ρ) (n:=U.n) ⟨h1,h2,h3,⟨C,e,f,h4,iW⟩,h5,h6⟩ _ (by omega)) (k-o) oO
    grind
  .rw[Heap.q0b _ _ aQ] at hj;obtain⟨q,hq,eW⟩:=h.live j b hj;refine⟨q,hq,eW.other (by exact z9 _) (λ_ _ _ h=>h) p.blk C e f h4 (λhx=>h.sep i j p q _ (Ne.symm aQ) hp hq hb rfl hx) ⟨C',f,mF,by omega⟩ (by grind [Wj]) (h.lt j q hq)⟩
 .by_cases aQ:j=i
  .grind [Heap.q0c]
  .rw[Heap.q0b _ _ aQ] at hj;exact h.dead j hj
 .by_cases aQ:j=i
  .subst aQ;exact h.sep j k q r _ dq hq hr hb rfl hx
  .rw[Heap.q0b _ _ aQ] at cq;exact h.sep j k q r b dq hq hr cq hw hx
 .obtain⟨e1,e2,e3⟩:=Ho p.blk cs (p.shift+o) w;refine⟨e1,e2,e3,by rw[Ye];exact z9 _,λB hB hW=>Wj _ _ _ _ _ (λe=>hW ⟨i,p,_,hp,hb,rfl,e.symm⟩),?_,z9 _,λ_ _ _ h=>h⟩;rintro B _ ⟨j,q,b,hq,bY,hw,rfl⟩;by_cases aQ:j=i
  .subst aQ;exact⟨j,q,_,hq,hb,rfl,rfl⟩
  .rw[Heap.q0b _ _ aQ] at bY;exact⟨j,q,b,hq,bY,hw,rfl⟩
theorem HRel0.onto {ρ:Plc}{U:Heap}{w:World}(h:HRel0 ρ U w) {i:Nat}{p:Pl}{c:List Value}{esz:El}(hp:ρ i=some p) (hb:U.get i=some (.cells c esz true false))
  (o':Nat) {aX vs cs:List Value}(hold:∀ k v,aX[k]?=some v->∃ u,w.cell? ⟨p.blk,p.shift+o'+k,none⟩=some u/\VRel ρ U.n v u) (hv:LRel ρ U.n vs cs) (ho:o'+aX.length+vs.length<=p.ext) :
  ∃ ρ',ρ' U.n=some ⟨p.blk,p.shift+o',p.ext-o',esz,false⟩/\HRel0 ρ' ((U.kill i).push (.cells (aX++vs) esz true false)) (w.setCells p.blk (p.shift+o'+aX.length) cs) /\
   Ext ρ U w ρ' ((U.kill i).push (.cells (aX++vs) esz true false)) (w.setCells p.blk (p.shift+o'+aX.length) cs):=by
 have hi:=U.lt hb;obtain⟨p',bE,hB⟩:=h.live i _ hb;obtain rfl:p=p':=osj (hp.symm.trans bE);have du:=hB;obtain⟨h1,h2,h3,⟨C,e,f,h4,iW⟩,h5,h6⟩:=hB;obtain⟨C',mF,oM⟩:=UK p.blk cs (p.shift+o'+aX.length) w C e f h4;have cu:vs.length=cs.length:=hv.1;let P':Pl:=⟨p.blk,p.shift+o',p.ext-o',esz,false⟩;let ρ':Plc:=(ρ.put i none).put U.n (some P');have ic:ρ' U.n=some P':=by simp[ρ',Plc.put]
 have gv:ρ' i=none:=by simp only[ρ',Plc.put];rw[z7 (by omega)];simp
 have fB:∀ j,j≠U.n->j≠i->ρ' j=ρ j:=λj h1 h2=>by simp[ρ',Plc.put,h1,h2]
 have aY:∀ j,j<U.n->∀ q,ρ' j=some q->ρ j=some q:=(by grind);refine⟨ρ',ic,⟨λj b hj=>?_,λj hj=>?_,λj q hq=>?_,λj k q r b dq hq hr cq hw hx=>?_⟩,?_⟩
 .by_cases aO:j=U.n
  .subst aO;have iX:((U.kill i).push (.cells (aX++vs) esz true false)).get U.n=some (.cells (aX++vs) esz true false):=Heap.q0a (U.kill i) _;rw[iX] at hj;obtain rfl:=osj hj;refine⟨P',ic,rfl,rfl,by simp[P'];omega,(by grind),λk v hk=>?_,λ_=>⟨(λh=>by cases h),λk hk=>?_⟩⟩
   .by_cases bG:k<aX.length
    .rw[xH bG] at hk;obtain⟨u,hu,cH⟩:=hold k v hk;exact⟨u,by grind [World.cell?_setCells_out],cH.mono (by simp) aY⟩
    .rw[xF (by omega)] at hk;obtain⟨u,hu,cH⟩:=hv.get hk;have oO:k-aX.length<cs.length:=(zq.1 hu).1;refine⟨u,?_,cH.mono (by simp) aY⟩;have:=World.cell?_setCells_in p.blk cs (p.shift+o'+aX.length) w (λj hj=>by
      rw[zw,zw];exact du.q0v _ (by omega)) (k-aX.length) oO
     grind
   grind [World.frozen?_setCells]
  .have bF:(U.kill i).get j=some b:=by rw[<-hj];exact(Heap.q0e (U.kill i) _ aO).symm
   by_cases aQ:j=i
   .grind [Heap.q0g]
   .rw[Heap.q0d _ aQ] at bF;obtain⟨q,hq,eW⟩:=h.live j b bF;exact⟨q,by rw[fB j aO aQ];exact hq,eW.other (by simp) aY p.blk C e f h4 (λhx=>h.sep i j p q _ (Ne.symm aQ) hp hq hb rfl hx) ⟨C',f,mF,by omega⟩ (by grind [Wj]) (h.lt j q hq)⟩
 .by_cases aO:j=U.n
  .subst aO;have iX:((U.kill i).push (.cells (aX++vs) esz true false)).get U.n=some (.cells (aX++vs) esz true false):=Heap.q0a (U.kill i) _;rw[iX] at hj;cases hj
  .have bF:(U.kill i).get j=none:=by rw[<-hj];exact(Heap.q0e (U.kill i) _ aO).symm
   by_cases aQ:j=i
   .subst aQ;exact gv
   .rw[Heap.q0d _ aQ] at bF;rw[fB j aO aQ];exact h.dead j bF
 .rw[Ye];by_cases aO:j=U.n
  .grind
  .by_cases aQ:j=i
   .subst aQ;rw[gv] at hq;cases hq
   .rw[fB j aO aQ] at hq;exact h.lt j q hq
 .by_cases aO:j=U.n
  .subst aO;rw[ic] at hq;obtain rfl:=osj hq;by_cases kJ:k=i
   .subst kJ;rw[gv] at hr;cases hr
   .rw[fB k (Ne.symm dq) kJ] at hr;exact h.sep i k p r _ (Ne.symm kJ) hp hr hb rfl hx
  .have bw:(U.kill i).get j=some b:=by rw[<-cq];exact(Heap.q0e (U.kill i) _ aO).symm
   by_cases aQ:j=i
   .subst aQ;rw[gv] at hq;cases hq
   rw[Heap.q0d _ aQ] at bw;rw[fB j aO aQ] at hq;by_cases eX:k=U.n
   .subst eX;rw[ic] at hr;obtain rfl:=osj hr;have rK:0<p.ext:=by simp[P'] at hx;omega
    exact h.sep j i q p b aQ hq hp bw hw rK
   .by_cases kJ:k=i
    .subst kJ;rw[gv] at hr;cases hr
    .rw[fB k eX kJ] at hr;exact h.sep j k q r b dq hq hr bw hw hx
 .obtain⟨e1,e2,e3⟩:=Ho p.blk cs (p.shift+o'+aX.length) w;refine⟨e1,e2,e3,by rw[Ye];exact z9 _,λB hB hW=>Wj _ _ _ _ _ (λe=>hW ⟨i,p,_,hp,hb,rfl,e.symm⟩),?_,by simp,aY⟩;rintro B _ ⟨j,q,b,hq,bY,hw,rfl⟩;by_cases aO:j=U.n
  .subst aO;rw[ic] at hq;obtain rfl:=osj hq;exact⟨i,p,_,hp,hb,rfl,rfl⟩
  .have bw:(U.kill i).get j=some b:=by rw[<-bY];exact(Heap.q0e (U.kill i) _ aO).symm
   by_cases aQ:j=i
   .subst aQ;rw[gv] at hq;cases hq
   rw[Heap.q0d _ aQ] at bw;rw[fB j aO aQ] at hq;exact⟨j,q,b,hq,bw,hw,rfl⟩
section
variable {ρ:Plc}{U:Heap}{w:World}
theorem HRel.store (h:HRel ρ U w) {i:Nat}{p:Pl}{c:List Value}{esz:El}{tight:Bool}(hp:ρ i=some p) (hb:U.get i=some (.cells c esz true tight))
  {o:Nat}{vs cs:List Value}(hv:LRel ρ U.n vs cs) (ho:o+vs.length<=c.length) :
  HRel ρ (U.upd i (.cells (Wz c o vs) esz true tight)) (w.setCells p.blk (p.shift+o) cs)/\Ext ρ U w ρ (U.upd i (.cells (Wz c o vs) esz true tight)) (w.setCells p.blk (p.shift+o) cs) :=
 let ⟨h2,h3⟩:=h.core.store hp hb hv ho
 ⟨h.ext h2 h3,h3⟩
theorem HRel.onto (h:HRel ρ U w) {i:Nat}{p:Pl}{c:List Value}{esz:El}(hp:ρ i=some p) (hb:U.get i=some (.cells c esz true false))
  (o':Nat) {aX vs cs:List Value}(hold:∀ k v,aX[k]?=some v->∃ u,w.cell? ⟨p.blk,p.shift+o'+k,none⟩=some u/\VRel ρ U.n v u) (hv:LRel ρ U.n vs cs) (ho:o'+aX.length+vs.length<=p.ext) :
  ∃ ρ',ρ' U.n=some ⟨p.blk,p.shift+o',p.ext-o',esz,false⟩/\HRel ρ' ((U.kill i).push (.cells (aX++vs) esz true false)) (w.setCells p.blk (p.shift+o'+aX.length) cs) /\
   Ext ρ U w ρ' ((U.kill i).push (.cells (aX++vs) esz true false)) (w.setCells p.blk (p.shift+o'+aX.length) cs) :=
 let ⟨ρ',h1,h2,h3⟩:=h.core.onto hp hb o' hold hv ho
 ⟨ρ',h1,h.ext h2 h3,h3⟩
end
end Go.V
namespace Go.V
open Go
structure Like (ρ:Plc) (w w':World):Prop where
 size:w.heap.size<=w'.heap.size
 blk:∀ i p,ρ i=some p->w'.heap[p.blk]?=w.heap[p.blk]?
 tab:∀ g cs,Q9k g=some cs->w'.heap[g]?=w.heap[g]?
theorem Like.refl (ρ:Plc) (w:World):Like ρ w w:=⟨z9 _,λ_ _ _=>rfl,λ_ _ _=>rfl⟩
section inv
variable {ρ:Plc}{n:Nat}{c:Value}
theorem VRel.q0h {k:IntKind}{x:Int}(h:VRel ρ n (.int k x) c):c=.int k x:=by cases h;rfl
theorem VRel.q1e {b:Bool}(h:VRel ρ n (.bool b) c):c=.bool b:=by cases h;rfl
theorem VRel.q0p {s:ByteArray}(h:VRel ρ n (.string s) c):c=.string s:=by cases h;rfl
theorem VRel.q1l {l k:Nat}(h:VRel ρ n (.slice none l k) c):l=0/\k=0/\c=.slice none 0 0:=by cases h;exact⟨rfl,rfl,rfl⟩
theorem VRel.q0w {i o:Nat}{p:Pl}(hp:ρ i=some p) (h:VRel ρ n (.pointer (some ⟨i,o,none⟩)) c):(none:Option Nat)=none/\i<n/\c=.pointer (some ⟨p.blk,p.shift+o,none⟩):=by
 cases h with
 |ptr _ _ a hi h=>exact⟨rfl,hi,by rw[h p hp]⟩
theorem VRel.q1k {cs:Array Value}(h:VRel ρ n (.agg cs) c):∃ ds:Array Value,c=.agg ds/\LRel ρ n cs.toList ds.toList:=by
 cases h with
 |agg _ ds hc h=>exact⟨ds,rfl,LRel.of_array hc h⟩
theorem VRel.q1m {cs:Array Value}(h:VRel ρ n (.tuple cs) c):∃ ds:Array Value,c=.tuple ds/\LRel ρ n cs.toList ds.toList:=by
 cases h with
 |tuple _ ds hc h=>exact⟨ds,rfl,LRel.of_array hc h⟩
end inv
theorem Yu {ρ:Plc}{n:Nat}{v:Value}(h:Zl v=true):VRel ρ n v v:=by unfold Zl at h;split at h<;>first|constructor|cases h
theorem X_ {ρ:Plc}{n:Nat}{l:List Value}(h:l.all Zl=true):LRel ρ n l l:=by
 refine⟨rfl,λi v c hv hc=>?_⟩
 grind [osj,Yu,List.all_eq_true,List.mem_of_getElem?]
theorem Nq {ρ:Plc}{n:Nat}{v:Value}(h:UI v=true):VRel ρ n v v:=by
 unfold UI at h;split at h
 .rename_i cs;have:=VRel.q1n (X_ (ρ:=ρ) (n:=n) h);simpa using this
 .rename_i cs;have:=VRel.q0j (X_ (ρ:=ρ) (n:=n) h);simpa using this
 .exact Yu h
theorem Xe {ρ:Plc}{n:Nat}:VRel ρ n undef undef:=Nq rfl
theorem Yl {ρ:Plc}{n:Nat}{env:Env}{a:Act}(h:LRel ρ n env a.tmps.toList) {x:Operand}(hx:W1 x=true):VRel ρ n (Q5 env x) (a.eval x):=by
 cases x with
 |tmp t =>
  simp only[Q5,Act.eval];have e:List.length env=a.tmps.size:=by have:=h.1;omega
  rcases zo t (List.length env) with ht|ht
  .have pD:t<a.tmps.size:=by rw[<-e];exact ht
   have:=h.2 t env[t] a.tmps[t] (z8 ht) (by simp[pD]);simp_all
  .grind [Nat.not_lt,List.getElem?_eq_none,Xe]
 |const v=>exact Nq hx
 |global g=>exact .glob g 0 0
 |func f=>exact .func _ #[] #[] #[] #[] rfl rfl (λi h1=>by simp at h1) (λi h1=>by simp at h1)
theorem Lu {ρ:Plc}{w w':World}(hl:Like ρ w w') {i:Nat}{p:Pl}(hp:ρ i=some p) (o:Nat):w'.cell? ⟨p.blk,o,none⟩=w.cell? ⟨p.blk,o,none⟩ :=
 World.cell?_of_block (a:=⟨p.blk,o,none⟩) (hl.blk i p hp)
section
variable {P:Program}{ρ:Plc}{U:Heap}{w:World}
theorem N9 {t:TypeId}{d:TypeDesc}(h:P.underlying t=some d) (w:World):(isAgg t).run P w=.ok (MN d) w:=by cases d<;>simp[isAgg,run_underlying h,MN]
theorem Qe {t:TypeId}{i:TypeInfo}(h:P.info? t=some i) (w:World):(sizeOf t).run P w=.ok i.size w:=by simp[sizeOf,run_typeInfo w h]
theorem Wu (b o n:Nat):(⟨b,o,none⟩:Addr).add n=⟨b,o+n,none⟩:=by unfold Addr.add;split<;>simp_all
theorem Q2q (hH:HRel ρ U w) {t:TypeId}{ti:TypeInfo}{d:TypeDesc}(h1:P.info? t=some ti) (h2:P.underlying t=some d) {i o:Nat}{c:List Value}{esz:El}{wr tight:Bool}{v x:Value}
  (hb:U.get i=some (.cells c esz wr tight)) (hv:YC (MN d) ti.size c o=some v) (hx:VRel ρ U.n (.pointer (some ⟨i,o,none⟩)) x) :
  ∃ u,VRel ρ U.n v u/\∀ w',Like ρ w w'->(Instr.loadAt t x).run P w'=.ok u w':=by
 obtain⟨p,hp,_,_,_,_,h5,_⟩:=hH.live i _ hb;obtain⟨_,_,rfl⟩:=hx.q0w hp;unfold YC at hv;cases eI:MN d with
 |false =>
  simp[eI] at hv;obtain⟨u,hu,cH⟩:=h5 o v hv;refine⟨u,cH,λw' hl=>?_⟩;have:w'.cell? ⟨p.blk,p.shift+o,none⟩=some u:=by rw[Lu hl hp];exact hu
  simp[Instr.loadAt,Instr.sureAddr,loadVar,N9 h2,eI,this]
 |true =>
  simp only[eI,zt] at hv;split at hv
  .rename_i hlen;simp at hv;subst hv;have hex:∃ us:List Value,us.length=ti.size/\∀ k,k<ti.size->∃ u,us[k]?=some u/\w.cell? ⟨p.blk,p.shift+o+k,none⟩=some u/\∀ v,c[o+k]?=some v->VRel ρ U.n v u:=by
    refine⟨(List.range ti.size).map λk=>(w.cell? ⟨p.blk,p.shift+o+k,none⟩).getD undef,by simp,λk hk=>?_⟩;obtain⟨u,hu,cH⟩:=h5 (o+k) _ (z8 (by omega))
    grind
   obtain⟨us,td,dy⟩:=hex;refine⟨.agg us.toArray,VRel.q1n ⟨by simp;omega,λk v u hk hu=>?_⟩,λw' hl=>?_⟩
   .grind
   .have cY:∀ j v,us[j]?=some v->w'.cell? ((⟨p.blk,p.shift+o,none⟩:Addr).add j)=some v:=λj v hj=>by
     have cM:j<ti.size:=by grind
     obtain⟨u',dJ,dg,_⟩:=dy j cM;rw[hj] at dJ;obtain rfl:=osj dJ;rw[Wu,Lu hl hp];exact dg
    have:=run_loadCells_list (P:=P) w' ⟨p.blk,p.shift+o,none⟩ us cY;rw[td] at this;simp[Instr.loadAt,Instr.sureAddr,loadVar,N9 h2,eI,Qe h1,this]
  .cases hv
theorem IG (hH:HRel ρ U w) {t:TypeId}{ti:TypeInfo}{d:TypeDesc}(h1:P.info? t=some ti) (h2:P.underlying t=some d) {g o s:Nat}{c:List Value}{v x:Value}
  (hb:Q9k g=some c) (aY:c.all Zl=true) (hv:YC (MN d) ti.size c o=some v) (hx:VRel ρ U.n (.pointer (some ⟨g,o,some s⟩)) x) :
  ∃ u,VRel ρ U.n v u/\∀ w',Like ρ w w'->(Instr.loadAt t x).run P w'=.ok u w':=by
 obtain⟨⟨e,f,hw⟩,_⟩:=hH.tab g c hb;obtain rfl:x=.pointer (some ⟨g,o,none⟩):=by cases hx;rfl
 have bz:∀ w',Like ρ w w'->∀ k,w'.cell? ⟨g,k,none⟩=c[k]?:=λw' hl k=>by have:=hl.tab g c hb;simp[World.cell?,this,hw]
 unfold YC at hv;cases eI:MN d with
 |false =>
  simp[eI] at hv;refine⟨v,Yu (by grind),λw' hl=>?_⟩;have:w'.cell? ⟨g,o,none⟩=some v:=by rw[bz w' hl];exact hv
  simp[Instr.loadAt,Instr.sureAddr,loadVar,N9 h2,eI,this]
 |true =>
  simp only[eI,zt] at hv;split at hv
  .rename_i hlen;simp at hv;subst hv;have hall:((c.drop o).take ti.size).all Zl=true:=(by grind);refine⟨_,VRel.q1n (X_ hall),λw' hl=>?_⟩;have cY:∀ j v,((c.drop o).take ti.size)[j]?=some v->w'.cell? ((⟨g,o,none⟩:Addr).add j)=some v:=(by grind [Wu]);have:=run_loadCells_list (P:=P) w' ⟨g,o,none⟩ _ cY;have cN:((c.drop o).take ti.size).length=ti.size:=by grind
   rw[cN] at this;simp[Instr.loadAt,Instr.sureAddr,loadVar,N9 h2,eI,Qe h1,this]
  .cases hv
theorem Q22 {t:TypeId}{ti:TypeInfo}{d:TypeDesc}(h1:P.info? t=some ti) (h2:P.underlying t=some d) {cs ds:Array Value}{o:Nat}{v:Value}{n:Nat}
  (hv:YC (MN d) ti.size cs.toList o=some v) (hl:LRel ρ n cs.toList ds.toList):∃ u,VRel ρ n v u/\∀ w',(part t ds o).run P w'=.ok u w':=by
 unfold YC at hv;cases eI:MN d with
 |false =>
  simp only[eI,zm,if_false] at hv;obtain⟨u,hu,cH⟩:=hl.get hv;refine⟨u,cH,λw'=>?_⟩;have:ds[o]?=some u:=by simpa using hu
  simp[part,N9 h2,eI,this]
 |true =>
  simp only[eI,zt] at hv;split at hv
  .rename_i hlen;simp at hv;subst hv;refine⟨.agg (ds.extract o (o+ti.size)),?_,λw'=>by simp[part,N9 h2,eI,Qe h1]⟩;have:LRel ρ n ((cs.toList.drop o).take ti.size) ((ds.toList.drop o).take ti.size):=by
    refine⟨by have:=hl.1;simp at this |-;omega,λk v u hk hu=>?_⟩;rw[xu] at hk hu;split at hk
    .rename_i cL;rw[z6 cL,zZ] at hu;rw[zZ] at hk;exact hl.2 _ v u hk hu
    .cases hk
   have h3:=VRel.q1n this;have h4:((ds.toList.drop o).take ti.size).toArray=ds.extract o (o+ti.size):=by
    grind
   rwa [h4] at h3
  .cases hv
end
end Go.V
namespace Go.V
open Go
theorem Tc {ρ:Plc}{n:Nat}{v c:Value}{vs:List Value}(h:Vv v=some vs) (hv:VRel ρ n v c):LRel ρ n vs c.cells.toList:=by
 unfold Vv at h;split at h
 .obtain⟨ds,rfl,hl⟩:=hv.q1k;simp at h;subst h;exact hl
 .cases h
 .cases h
 .rename_i h1 h2 h3;simp at h;subst h;have hc:c.cells.toList=[c]:=by
   cases hv<;>first|rfl|(exact absurd rfl (h1 _))|(exact absurd rfl (h2 _))|(exact absurd rfl (h3 _))
  rw[hc];exact LRel.cons hv (LRel.nil _ _)
theorem Q50 (off:Nat):∀ (vs:List Value) (k:Nat) (cells:Array Value),
  (((vs.zipIdx k).foldl (λ(cs:Array Value) (p:Value×Nat)=>cs.setIfInBounds (off+p.2) p.1) cells)).toList=Wz cells.toList (off+k) vs:=by
 intro vs;induction vs with
 |nil=>intro k cells;rfl
 |cons v r ih =>intro k cells;simp only[List.zipIdx_cons,xY];rw[ih,Wz];simp[zw]
theorem Z0h {ρ:Plc}{n:Nat}:∀ (vs us c d:List Value) (o:Nat),LRel ρ n c d->LRel ρ n vs us->LRel ρ n (Wz c o vs) (Wz d o us):=by
 intro vs;induction vs with
 |nil=>intro us c d o hc hv;cases us with
  |nil=>exact hc
  |cons _ _=>have:=hv.1;simp at this
 |cons v r ih =>
  intro us c d o hc hv;cases us with
  |nil=>have:=hv.1;simp at this
  |cons u us =>rw[Wz,Wz];have h0:VRel ρ n v u:=hv.2 0 v u rfl rfl;have hr:LRel ρ n r us:=⟨by have:=hv.1;simpa using this,λi a b ha hb=>hv.2 (i+1) a b (by simpa using ha) (by simpa using hb)⟩;exact ih us _ _ _ (hc.set o h0) hr
theorem F9 {ρ:Plc}{n:Nat}(place:Nat->Option (Nat×Nat)):∀ (l:List (Nat×Nat×Value)) (l':List (Nat×Value)) (c c':List Value) (cells:Array Value),
  l.length=l'.length->(∀ (k:Nat) (a:Nat×Nat×Value) (b:Nat×Value),l[k]?=some a->l'[k]?=some b->place b.1=some (a.1,a.2.1)/\VRel ρ n a.2.2 b.2) ->
  Gf c l=some c'->LRel ρ n c cells.toList->∃ bB,Instr.fill place cells l'=some bB/\LRel ρ n c' bB.toList:=by
 intro l;induction l with
 |nil =>
  intro l' c c' cells hl _ hf hc;cases l' with
  |nil=>simp[Gf] at hf;subst hf;exact⟨cells,rfl,hc⟩
  |cons _ _=>simp at hl
 |cons a r ih =>
  intro l' c c' cells hl hk hf hc;cases l' with
  |nil=>simp at hl
  |cons b r' =>
   obtain⟨o,s,v⟩:=a;obtain⟨j,u⟩:=b;obtain⟨hp,hv⟩:=hk 0 _ _ rfl rfl;simp only at hp hv;simp only[Gf] at hf;split at hf
   .rename_i vs cz;split at hf
    .rename_i ah;obtain⟨hs,hle⟩:=ah;have eu:=Tc cz hv;have az:u.cells.size=s:=by have:=eu.1;simp at this;omega
     have hlen:cells.size=c.length:=by have:=hc.1;simp at this;omega
     obtain⟨bB,h1,h2⟩:=ih r' (Wz c o vs) c' (u.cells.zipIdx.foldl (λcs (c,j)=>cs.setIfInBounds (o+j) c) cells) (by simpa using hl)
      (λk a b ha hb=>hk (k+1) a b (by simpa using ha) (by simpa using hb)) hf (by
       have:=Q50 o u.cells.toList 0 cells;rw[<-Array.foldl_toList,Array.toList_zipIdx];rw[show (o+0)=o from rfl] at this;refine Eq.subst (motive:=λx=>LRel ρ n (Wz c o vs) x) this.symm ?_;exact Z0h _ _ _ _ _ hc eu)
     refine⟨bB,?_,h2⟩;simp only[Instr.fill,hp];simp_all
    .cases hf
   .cases hf
theorem Is {ρ:Plc}{n:Nat}{env:Env}{ev:Operand->Value}(hE:∀ x,W1 x=true->VRel ρ n (Q5 env x) (ev x)) {l:List Operand}(h:l.all W1=true):LRel ρ n (l.map (Q5 env)) (l.map ev):=by
 refine⟨by simp,λi v c hv hc=>?_⟩
 grind
theorem Q0 {P:Program}{t:TypeId}{d:TypeDesc}(h:P.underlying t=some d) (w:World):(underlying t).run P w=.ok d w:=run_underlying h w
def Q00 (P:Program) (ρ:Plc) (U:Heap) (w:World) (v:Value) (s:Sem Next):Prop :=
 ∃ c,VRel ρ U.n v c/\∀ w',Like ρ w w'->s.run P w'=.ok (.value c) w'
theorem Yy {α β:Type}(f:α->Option β):∀ (l:List α) (r:List β),l.mapM f=some r->r.length=l.length/\∀ (i:Nat) (a:α),l[i]?=some a->∃ b,r[i]?=some b/\f a=some b:=by
 intro l;induction l with
 |nil=>intro r h;simp at h;subst h;exact⟨rfl,λi a h=>by simp at h⟩
 |cons a l ih =>
  intro r h;rw[xg] at h;cases hf:f a with
  |none=>simp[hf] at h
  |some b =>
   cases hm:l.mapM f with
   |none=>simp[hf,hm] at h
   |some r' =>
    simp[hf,hm] at h;subst h;obtain⟨h1,h2⟩:=ih r' hm;refine⟨by simp[h1],λi x hx=>?_⟩;cases i with
    |zero=>simp at hx;subst hx;exact⟨b,rfl,hf⟩
    |succ i=>simp at hx;simpa using h2 i x hx
theorem Z1g {P:Program}{α β:Type}(g:α->Sem β) (f:α->β) (w:World):∀ (l:List α),(∀ a∈l,(g a).run P w=.ok (f a) w)->(l.mapM g).run P w=.ok (l.map f) w:=by
 intro l;induction l with
 |nil=>intro _;rfl
 |cons a l ih =>intro h;rw[xg];simp[h a (by simp),ih (λb hb=>h b (by simp[hb]))]
theorem YY {P:Program}{t:TypeId}{z:List Value}(h:zeroOf P t=some z):∃ i zv,P.info? t=some i/\i.zero=some zv/\zv.cells.toList=z/\z.length=i.size/\z.all Zl=true:=by
 unfold zeroOf at h;cases hi:P.info? t with
 |none=>simp[hi] at h
 |some i =>
  cases hz:i.zero with
  |none=>simp[hi,hz] at h
  |some zv =>simp[hi,hz] at h;obtain⟨h1,h2⟩:=h;subst h2;exact(by grind)
theorem Zy {P:Program}{t:TypeId}{i:TypeInfo}{zv:Value}(h:P.info? t=some i) (hz:i.zero=some zv) (w:World):(zeroValue t).run P w=.ok zv w:=by simp[zeroValue,run_typeInfo w h,hz]
section
variable {P:Program}{ρ:Plc}{U U':Heap}{w:World}{ev:Operand->Value}{env:Env}{v:Value}
theorem Qq {s:Sem Next}{v c:Value}(h:∀ w',s.run P w'=.ok (.value c) w') (hc:VRel ρ U.n v c):Q00 P ρ U w v s:=⟨c,hc,λw' _=>h w'⟩
theorem GI (op:BinOp) (t:TypeId) (x y:Operand) (yt:TypeId) (ty:TypeId) (pos:String) (after:Array Edge) (dst:Option Tmp) (g:Option (Nat×Bool)) {v c a b:Value}(hx:ev x=a) (hy:ev y=b)
  (rL:(∃ k n k' n',a=.int k n/\b=.int k' n')\/(∃ s s',a=.string s/\b=.string s')\/(∃ s s',a=.bool s/\b=.bool s'))
  (h:∀ w',(binOp op t a b).run P w'=.ok c w') (hc:VRel ρ U.n v c):Q00 P ρ U w v (execOp ev ⟨dst,.binOp op t x y yt,ty,pos,after,g⟩):=by
 refine Qq (c:=c) (λw'=>?_) hc;have he:∀ w',(eqGuard op t x y a b).run P w'=.ok () w':=λw'=>by rcases rL with⟨k,n,k',n',rfl,rfl⟩|⟨s,s',rfl,rfl⟩|⟨s,s',rfl,rfl⟩<;>(unfold eqGuard;cases op<;>simp)
 simp only[execOp,hx,hy];simp[he,h]
theorem RM {t:TypeId}(h:P.underlying t=some .bool) (a b:Bool) (d:Nat) (w:World):(Op.equalIn (d+1) t (.bool a) (.bool b)).run P w=.ok (a==b) w:=by simp only[Op.equalIn,zp,Q0 h,zg,xj]
theorem Cv {t:TypeId}(h:P.underlying t=some .bool) (a b:Bool) (w:World):(Op.equal t (.bool a) (.bool b)).run P w=.ok (a==b) w :=
 RM h a b 9999 w
theorem VRel.q1h {n:Nat}{i o:Nat}{c:Value}(h:VRel ρ n (.pointer (some ⟨i,o,none⟩)) c):∃ a:Addr,c=.pointer (some a)/\i<n/\∀ p,ρ i=some p->a=⟨p.blk,p.shift+o,none⟩:=by
 cases h with
 |ptr _ _ a hi h=>exact⟨a,rfl,hi,h⟩
theorem VRel.q1c {n:Nat}{i o len cap:Nat}{c:Value}(h:VRel ρ n (.slice (some ⟨i,o,none⟩) len cap) c):∃ (a:Addr) (aq:Nat),c=.slice (some a) len aq/\i<n /\
  ∀ p,ρ i=some p->cap<=aq/\(p.tight=true->aq=cap)/\(aq=0/\len=0\/∃ o',a=⟨p.blk,p.shift+o',none⟩/\o'+aq*p.esz.sz<=p.ext/\(o'=o\/(len=0/\cap=0))):=by
 cases h with
 |sl _ _ _ _ a aq hi h=>exact⟨a,aq,rfl,hi,h⟩
theorem VRel.q2j {n:Nat}{i o len cap:Nat}{c:Value}(h:VRel ρ n (.slice (some ⟨i,o,some 0⟩) len cap) c):∃ a:Addr,c=.slice (some a) len cap/\i<n/\(∀ p,ρ i=some p->a=⟨p.blk,p.shift+o,none⟩/\o+cap*p.esz.sz<=p.ext)/\VRel ρ n (.slice (some ⟨i,o,none⟩) len cap) c:=by
 cases h with
 |slx _ _ _ _ a hi h=>exact⟨a,rfl,hi,h,.sl _ _ _ _ _ _ hi (by simp_all)⟩
theorem VRel.q1v {n:Nat}{a:Option Addr}{len cap:Nat}{c:Value}(h:VRel ρ n (.slice a len cap) c):∃ a' aq,c=.slice a' len aq:=by
 cases h with
 |sl _ _ _ _ a aq hi h=>exact⟨_,aq,rfl⟩
 |slx _ _ _ _ a hi h=>exact⟨_,_,rfl⟩
 |nilSl=>exact⟨_,_,rfl⟩
theorem K3 {op:Option Operand}{d l:Nat}(hE:∀ x,W1 x=true->VRel ρ U.n (Q5 env x) (ev x)) (ak:∀ x,op=some x->W1 x=true) (h:Jz (Q5 env) op d=some l) :
  (op=none/\l=d)\/∃ x k i,op=some x/\ev x=.int k i/\0<=i/\l=i.toNat:=by
 cases op with
 |none=>simp[Jz] at h;exact .inl ⟨rfl,h.symm⟩
 |some x =>
  have hr:=hE x (ak x rfl);simp only[Jz] at h;split at h
  .rename_i k i heq;rw[heq] at hr;split at h
   .rename_i hi;simp at h;exact .inr ⟨x,k,i,rfl,hr.q0h,hi,h.symm⟩
   .cases h
  .cases h
theorem ZA (k:IntKind) (i:Int) (y:Nat) (code:BoundsCode) (h:0<=i) (h':i.toNat<=y) (w:World):(Instr.sliceBound (.int k i) y code).run P w=.ok i.toNat w:=by
 have:i<=y:=by omega
 simp[Instr.sliceBound,asIntOf,h,this]
theorem VK {lo hi:Option Operand}{isSlice:Bool}{n cap l h:Nat}(pE:(lo=none/\l=0)\/∃ x k i,lo=some x/\ev x=.int k i/\0<=i/\l=i.toNat)
  (kK:(hi=none/\h=n)\/∃ x k i,hi=some x/\ev x=.int k i/\0<=i/\h=i.toNat) (h1:l<=h) (h2:h<=cap) (w:World) :
  (Instr.sliceBounds isSlice n cap (lo.map ev) (hi.map ev) none).run P w=.ok (l,h,cap) w:=by
 rcases pE with⟨rfl,rfl⟩|⟨x,k,i,rfl,hx,oP,rfl⟩<;>rcases kK with⟨rfl,rfl⟩|⟨y,k',i',rfl,hy,eJ,rfl⟩
 .simp[Instr.sliceBounds]
 .simp[Instr.sliceBounds,hy,ZA k' i' _ _ eJ h2]
 .simp[Instr.sliceBounds,hx,ZA k i _ _ oP h1]
 .simp[Instr.sliceBounds,hx,hy,ZA k i _ _ oP h1,ZA k' i' _ _ eJ h2]
set_option maxHeartbeats 1000000 in
theorem Q0z {o:Oper}{vo:VOp}(hc:N6 P o.op = some vo) (hq:vo.quiet = true) (hH:HRel ρ U w) (hE:∀ x, W1 x = true -> VRel ρ U.n (Q5 env x) (ev x))
    (h:Q8 vo (Q5 env) U = some (v, U')):U' = U /\ Q00 P ρ U w v (execOp ev o):=by
  obtain ⟨dst, op, ty, pos, after, guard⟩:=o;simp only at hc;unfold N6 at hc;split at hc
  . cases hc
  rename_i ak;simp only [w_, xM] at ak;cases op <;> simp only [Op.operands] at ak hc
  case move x =>
    have hx:=hE x (by simpa using ak);simp at hc; subst hc;simp [Q8] at h;obtain ⟨rfl, rfl⟩:=h;exact ⟨rfl, Qq (λw' => by simp [execOp]) hx⟩
  case assign x =>
    have hx:=hE x (by simpa using ak);simp at hc; subst hc;simp [Q8] at h;obtain ⟨rfl, rfl⟩:=h;exact ⟨rfl, Qq (λw' => by simp [execOp]) hx⟩
  case pick c a b =>
    simp at ak;have hx:=hE c ak.1;have ha:=hE a ak.2.1;have hb:=hE b ak.2.2;simp at hc; subst hc;simp only [Q8] at h;split at h
    . rename_i t heq
      rw [heq] at hx;simp at h;obtain ⟨h1, rfl⟩:=h;refine ⟨rfl, Qq (c:=if t then ev a else ev b) (λw' => by simp [execOp, hx.q1e, asBool]) ?_⟩;rw [<- h1]; split <;> assumption
    . cases h
  case binOp jj t x y yt =>
    simp at ak;have hx:=hE x ak.1;have hy:=hE y ak.2;split at hc
    .
      cases jj <;> simp at hc <;> subst hc <;> simp only [Q8] at h <;> split at h <;> first
        | (cases h; done)
        | (rename_i k a k' b h1 h2
           rw [h1] at hx; rw [h2] at hy;have ex:=hx.q0h;have ey:=hy.q0h;split at h
           . rename_i ah
             simp at h; obtain ⟨rfl, rfl⟩:=h;refine ⟨rfl, ?_⟩
             first
              | refine GI _ t x y yt ty pos after dst guard ex ey (.inl ⟨_, _, _, _, rfl, rfl⟩) (λw' => ?_) (VRel.int _ _)
              | refine GI _ t x y yt ty pos after dst guard ex ey (.inl ⟨_, _, _, _, rfl, rfl⟩) (λw' => ?_) (VRel.bool _)
             first
              | (obtain rfl:=ah; simp [binOp, Op.intArith, Eg]; done)
              | (obtain ⟨rfl, pF⟩:=ah; simp [binOp, Op.intDiv, Z5d, pF]; done)
              | (obtain rfl:=ah; simp [binOp, Op.intBits, Qb]; done)
              | (obtain rfl:=ah; simp [binOp, Op.intCmp, Z9l]; done)
              | (simp [binOp, Op.shift, Eu, Int.not_lt.2 ah, Nat.min_def]; done)
           . cases h)
    .
      simp at hc; subst hc;simp only [Q8] at h;split at h
      . rename_i a b h1 h2
        rw [h1] at hx; rw [h2] at hy;have ex:=hx.q0p;have ey:=hy.q0p
        cases jj <;> simp only at h <;> first
          | (cases h; done)
          | (split at h
             . rename_i aC
               simp at h; obtain ⟨rfl, rfl⟩:=h;refine ⟨rfl, GI _ t x y yt ty pos after dst guard ex ey (.inr (.inl ⟨_, _, rfl, rfl⟩)) (c:=.string (a ++ b)) (λw' => ?_) (VRel.string _)⟩;have:¬ (((a.size + b.size:Nat):Int) > IntKind.i64.max):=by
                 have:IntKind.i64.max = 9223372036854775807:=by decide
                 omega
               simp only [binOp, Op.stringOp, z7 this]; rfl
             . cases h)
          | (simp at h; obtain ⟨rfl, rfl⟩:=h
             exact ⟨rfl, GI _ t x y yt ty pos after dst guard ex ey (.inr (.inl ⟨_, _, rfl, rfl⟩)) (λw' => by simp [binOp, Op.stringOp, ByteArray.toList_eq]) (VRel.bool _)⟩)
      . cases h
    .
      rename_i pG
      cases jj <;> simp at hc <;> subst hc <;> simp only [Q8] at h <;> split at h <;> first
        | (cases h; done)
        | (rename_i a b h1 h2
           rw [h1] at hx; rw [h2] at hy;have ex:=hx.q1e;have ey:=hy.q1e;simp at h; obtain ⟨rfl, rfl⟩:=h;refine ⟨rfl, GI _ t x y yt ty pos after dst guard ex ey (.inr (.inr ⟨_, _, rfl, rfl⟩)) (λw' => ?_) (VRel.bool _)⟩;simp [binOp, Cv pG])
    . cases hc
  case unOp vT t x =>
    have hx:=hE x (by simpa using ak);simp at hc; subst hc;simp only [Q8] at h
    split at h <;> first
      | (cases h; done)
      | (rename_i h1; rw [h1] at hx; simp at h; obtain ⟨rfl, rfl⟩:=h
         refine ⟨rfl, ?_⟩
         first
          | (have e:=hx.q1e; refine Qq (λw' => ?_) (VRel.bool _); simp [execOp, e, Op.unary]; done)
          | (have e:=hx.q0h; refine Qq (λw' => ?_) (VRel.int _ _); simp [execOp, e, Op.unary, Op.intArith]; done)
          | (have e:=hx.q0h; refine Qq (λw' => ?_) (VRel.int _ _); simp [execOp, e, Op.unary, Op.intBits, Qb]; done))
  case convert s d x =>
    have hx:=hE x (by simpa using ak);split at hc
    . rename_i k0 k hs hd
      simp at hc; subst hc;simp only [Q8] at h;split at h
      . rename_i h1; rw [h1] at hx; simp at h; obtain ⟨rfl, rfl⟩:=h
        exact ⟨rfl, Qq (λw' => by simp [execOp, hx.q0h, convert, Q0 hs, Q0 hd, Conv.intToInt]) (VRel.int _ _)⟩
      . cases h
    . rename_i hs hd
      simp at hc; subst hc;simp only [Q8] at h;split at h
      . rename_i h1; rw [h1] at hx; simp at h; obtain ⟨rfl, rfl⟩:=h
        exact ⟨rfl, Qq (λw' => by simp [execOp, hx.q0p, convert, Q0 hs, Q0 hd]) (VRel.string _)⟩
      . cases h
    . cases hc
  case alloc t =>
    cases hz:zeroOf P t <;> simp [hz] at hc;subst hc; cases hq
  case box t x => simp at hc; subst hc; cases hq
  case buildSlice t len parts =>
    split at hc
    . rename_i e _
      cases hz:zeroOf P e with
      | none => simp [hz] at hc
      | some z =>
        simp only [hz, zy, xi] at hc;split at hc
        . cases hc
        . simp at hc; subst hc; cases hq
    . cases hc
  case store t a x =>
    cases hi:P.info? t <;> simp [hi] at hc;subst hc; cases hq
  case makeSlice t l c =>
    split at hc
    . rename_i e _
      cases hi:P.info? e with
      | none => simp [hi] at hc
      | some ei =>
        cases hz:zeroOf P e with
        | none => simp [hi, hz] at hc
        | some z =>
          simp only [hi, hz, zy, xi] at hc;split at hc
          . cases hc
          . simp at hc; subst hc; cases hq
    . cases hc
  case load t a =>
    have ha:=hE a (by simpa using ak);cases hi:P.info? t with
    | none => simp [hi] at hc
    | some ti =>
      cases hu:P.underlying t with
      | none => simp [hi, hu] at hc
      | some d =>
        simp [hi, hu] at hc; subst hc;simp only [Q8] at h;split at h
        . rename_i g o s h1
          rw [h1] at ha;split at h
          . rename_i c hb
            split at h
            . rename_i hall
              split at h
              . rename_i v0 hv
                simp at h; obtain ⟨rfl, rfl⟩:=h;obtain ⟨u, cH, hr⟩:=IG hH hi hu hb hall hv ha;exact ⟨rfl, u, cH, λw' hl => by simp [execOp, hr w' hl]⟩
              . cases h
            . cases h
          . cases h
        . rename_i i o h1
          rw [h1] at ha;split at h
          . rename_i c esz wr tight hb
            split at h
            . rename_i v0 hv
              simp at h; obtain ⟨rfl, rfl⟩:=h;obtain ⟨u, cH, hr⟩:=Q2q hH hi hu hb hv ha;exact ⟨rfl, u, cH, λw' hl => by simp [execOp, hr w' hl]⟩
            . cases h
          . cases h
        . cases h
  case fieldAddr t a f =>
    have ha:=hE a (by simpa using ak);cases hf:TD P t f with
    | none => simp [hf] at hc
    | some fd =>
      cases hi:P.info? fd.type with
      | none => simp [hf, hi] at hc
      | some fi =>
        simp only [hf, hi, zy, xi] at hc;split at hc
        . cases hc
        . rename_i aC
          simp at hc; subst hc;simp only [Q8] at h;split at h
          . rename_i i o h1
            rw [h1] at ha;simp at h; obtain ⟨rfl, rfl⟩:=h;unfold TD at hf;split at hf
            . rename_i fs hu
              simp at aC;obtain ⟨ad, heq, aS, aY⟩:=ha.q1h;cases hρ:ρ i with
              | none =>refine ⟨rfl, .pointer (some (ad.add fd.offset)), .ptr _ _ _ aS (by simp_all), λw' _ => ?_⟩;simp [execOp, heq, Instr.fieldAt, Q0 hu, hf, Instr.sureAddr, fieldPlace, Qe hi, aC]
              | some p =>obtain rfl:=aY p hρ;refine ⟨rfl, .pointer (some ⟨p.blk, p.shift + (o + fd.offset), none⟩), .ptr _ _ _ aS (by simp_all), λw' _ => ?_⟩;simp [execOp, heq, Instr.fieldAt, Q0 hu, hf, Instr.sureAddr, fieldPlace, Qe hi, aC, Wu, zw]
            . cases hf
          . cases h
  case field t x f =>
    have hx:=hE x (by simpa using ak);cases hf:TD P t f with
    | none => simp [hf] at hc
    | some fd =>
      cases hi:P.info? fd.type with
      | none => simp [hf, hi] at hc
      | some fi =>
        cases hu:P.underlying fd.type with
        | none => simp [hf, hi, hu] at hc
        | some d =>
          simp [hf, hi, hu] at hc; subst hc;simp only [Q8] at h;split at h
          . rename_i cs h1
            rw [h1] at hx;obtain ⟨ds, hds, hl⟩:=hx.q1k;split at h
            . rename_i v0 hv
              simp at h; obtain ⟨rfl, rfl⟩:=h;obtain ⟨u, cH, hr⟩:=Q22 hi hu hv hl;unfold TD at hf;split at hf
              . rename_i fs pH
                exact ⟨rfl, u, cH, λw' _ => by simp [execOp, hds, Instr.field, Q0 pH, hf, asAgg, hr]⟩
              . cases hf
            . cases h
          . cases h
  case makeFunc fn first cap =>
    rw [Array.toList_append, List.all_append, z0] at ak;cases fn <;> simp at hc;rename_i f;subst hc;simp only [Q8] at h;simp at h; obtain ⟨rfl, rfl⟩:=h;have h1:=Is hE (l:=first.toList) ak.1;have h2:=Is hE (l:=cap.toList) ak.2;refine ⟨rfl, Qq (c:=.func (.func f) (first.map ev) (cap.map ev)) (λw' => by simp [execOp, Instr.makeFunc]) ?_⟩;refine .func _ _ _ _ _ (by simp) (by simp) (λi h3 h4 => ?_) (λi h3 h4 => ?_)
    . simp_all
    simp_all
  case build t parts =>
    cases hz:zeroOf P t with
    | none => simp [hz] at hc
    | some z =>
      obtain ⟨ti, zv, hi, dG, gb, _, iY⟩:=YY hz;have aY:LRel ρ U.n z zv.cells.toList:=by rw [gb]; exact X_ iY
      have kL:∀ q ∈ parts.toList, W1 q.2 = true:=(by grind);simp only [hz, zy, xi] at hc;split at hc
      . rename_i fs hu
        cases jH:fs.toList.mapM (λf => (P.info? f.type).map λi => (f.offset, i.size)) with
        | none => simp [jH] at hc
        | some places =>
          cases dV:parts.toList.mapM (λq => (places[q.1]?).map λos => (os.1, os.2, q.2)) with
          | none => simp [jH, dV] at hc
          | some ps =>
            simp [jH, dV] at hc; subst hc;simp only [Q8] at h;split at h
            . rename_i cs dW
              simp at h; obtain ⟨rfl, rfl⟩:=h;obtain ⟨dz, gT⟩:=Yy _ _ _ jH;obtain ⟨cN, eK⟩:=Yy _ _ _ dV
              obtain ⟨bB, l9, jI⟩:=F9 (ρ:=ρ) (n:=U.n) (λ(i:Nat) => places[i]?) _ ((parts.map λq => (q.1, ev q.2)).toList) z cs zv.cells (by simp [cN])
                (by grind [Array.toList_map, Option.some.injEq, List.mem_of_getElem?]) dW aY
              refine ⟨rfl, .agg bB, by have:=VRel.q1n jI; simpa using this, λw' _ => ?_⟩;have aA:(fs.mapM λ(f:Field) => do pure (f.offset, <- sizeOf f.type)).run P w' = .ok places.toArray w':=by
                rw [Array.mapM_eq_mapM_toList];have oQ:∀ f ∈ fs.toList, ((do pure (f.offset, <- sizeOf f.type):Sem (Nat × Nat))).run P w' = .ok (f.offset, ((P.info? f.type).map (·.size)).getD 0) w':=λf hf => by
                  obtain ⟨k, hk⟩:=List.getElem?_of_mem hf;obtain ⟨b, hb, cq⟩:=gT k f hk;cases jk:P.info? f.type with
                  | none => simp [jk] at cq
                  | some fi => simp [Qe jk]
                have:=Z1g (P:=P) _ _ w' fs.toList oQ;simp only [Sem.run_map, this, zg];congr 2;apply zT;intro k;rw [xx];cases hk:fs.toList[k]? with
                | none =>
                  have:places.length <= k:=by simp_all
                  simp [x7 this]
                | some f =>
                  obtain ⟨b, hb, cq⟩:=gT k f hk;cases jk:P.info? f.type with
                  | none => simp [jk] at cq
                  | some fi => simp [jk] at cq |-; rw [hb, <- cq]
              have gw:(λ(i:Nat) => places.toArray[i]?) = (λ(i:Nat) => places[i]?):=by funext i; simp
              simp only [execOp];simp only [Instr.build, zp, Zy hi dG, zg, Q0 hu, aA];simp_all
            . cases h
      . rename_i n e hu
        cases cA:P.info? e with
        | none => simp [cA] at hc
        | some ei =>
          simp [cA] at hc; subst hc;simp only [Q8] at h;split at h
          . rename_i cs dW
            simp at h; obtain ⟨rfl, rfl⟩:=h
            obtain ⟨bB, l9, jI⟩:=F9 (ρ:=ρ) (n:=U.n) (λi => some (i * ei.size, ei.size)) _ ((parts.map λq => (q.1, ev q.2)).toList) z cs zv.cells (by simp)
              (by grind) dW aY
            refine ⟨rfl, .agg bB, by have:=VRel.q1n jI; simpa using this, λw' _ => ?_⟩;simp only [execOp];simp only [Instr.build, zp, Zy hi dG, zg, Q0 hu, Qe cA, l9];rfl
          . cases h
      . cases hc
  case index t x i =>
    simp at ak;have hx:=hE x ak.1;have hi:=hE i ak.2;split at hc
    . rename_i hu
      simp at hc; subst hc;simp only [Q8] at h;split at h
      . rename_i s k n h1 h2
        rw [h1] at hx; rw [h2] at hi;split at h
        . rename_i hn
          split at h
          . rename_i b hb
            simp at h; obtain ⟨rfl, rfl⟩:=h;have cq:s[n.toNat]? = some b:=by rw [<- hb]; simp [getElem?_def]; split <;> rfl
            refine ⟨rfl, Qq (λw' => ?_) (VRel.int _ _)⟩;simp [execOp, hx.q0p, hi.q0h, Instr.index, asIntOf, Q0 hu, hn, cq]
          . cases h
        . cases h
      . cases h
    . rename_i len e hu
      cases cA:P.info? e with
      | none => simp [cA] at hc
      | some ei =>
        cases jl:P.underlying e with
        | none => simp [cA, jl] at hc
        | some d =>
          simp [cA, jl] at hc; subst hc;simp only [Q8] at h;split at h
          . rename_i cs k n h1 h2
            rw [h1] at hx; rw [h2] at hi;obtain ⟨ds, hds, hl⟩:=hx.q1k;split at h
            . rename_i hn
              split at h
              . rename_i v0 hv
                simp at h; obtain ⟨rfl, rfl⟩:=h;obtain ⟨u, cH, hr⟩:=Q22 cA jl hv hl;refine ⟨rfl, u, cH, λw' _ => ?_⟩;simp [execOp, hds, hi.q0h, Instr.index, asIntOf, Q0 hu, hn, Qe cA, hr]
              . cases h
            . cases h
          . cases h
    . cases hc
  case indexAddr t x i =>
    simp at ak;have hx:=hE x ak.1;have hi:=hE i ak.2;split at hc
    . rename_i e hu
      cases cA:P.info? e with
      | none => simp [cA] at hc
      | some ei =>
        simp [cA] at hc; subst hc;simp only [Q8] at h;split at h
        . rename_i b o n cap k j h1 h2
          rw [h1] at hx; rw [h2] at hi;split at h
          . rename_i hj
            simp at h; obtain ⟨rfl, rfl⟩:=h;obtain ⟨a, aq, bc, aS, aY⟩:=hx.q1c;refine ⟨rfl, .pointer (some (a.add (j.toNat * ei.size))), .ptr _ _ _ aS (λp hp => ?_), λw' _ => ?_⟩
            . grind [Wu, Nat.add_assoc]
            . simp [execOp, bc, hi.q0h, Instr.indexAt, asIntOf, Q0 hu, hj, Qe cA]
          . cases h
        . cases h
    . rename_i len e hu
      cases cA:P.info? e with
      | none => simp [cA] at hc
      | some ei =>
        simp [cA] at hc; subst hc;simp only [Q8] at h;split at h
        . rename_i g o s k j h1 h2
          rw [h1] at hx; rw [h2] at hi;split at h
          . rename_i hj
            simp at h; obtain ⟨rfl, rfl⟩:=h;have bc:ev x = .pointer (some ⟨g, o, none⟩):=by generalize ev x = c at hx; cases hx; rfl
            refine ⟨rfl, .pointer (some ((⟨g, o, none⟩:Addr).add (j.toNat * ei.size))), by rw [Wu]; exact .glob _ _ _, λw' _ => ?_⟩;simp [execOp, bc, hi.q0h, Instr.indexAt, Instr.sureAddr, asIntOf, Q0 hu, hj, Qe cA]
          . cases h
        . rename_i b o k j h1 h2
          rw [h1] at hx; rw [h2] at hi;split at h
          . rename_i hj
            simp at h; obtain ⟨rfl, rfl⟩:=h;obtain ⟨a, bc, aS, aY⟩:=hx.q1h;refine ⟨rfl, .pointer (some (a.add (j.toNat * ei.size))), .ptr _ _ _ aS (λp hp => ?_), λw' _ => ?_⟩
            . grind [Wu, Nat.add_assoc]
            . simp [execOp, bc, hi.q0h, Instr.indexAt, Instr.sureAddr, asIntOf, Q0 hu, hj, Qe cA]
          . cases h
        . cases h
    . cases hc
  case slice t x lo hi mx =>
    have kM:W1 x = true:=by simp at ak; exact ak.1
    have gd:∀ y, lo = some y -> W1 y = true:=(by simp_all);have gf:∀ y, hi = some y -> W1 y = true:=λy hy => by subst hy; cases lo <;> simp at ak <;> first | exact ak.2.1 | exact ak.2.2.1 | exact ak.2.2 | exact ak.2
    have hx:=hE x kM;split at hc
    . rename_i e hu
      cases cA:P.info? e with
      | none => simp [cA] at hc
      | some ei =>
        simp [cA] at hc; subst hc;cases mx with
        | some m => simp [VOp.quiet] at hq
        | none =>
          simp only [Q8] at h;split at h
          . rename_i a n cap h1
            rw [h1] at hx;split at h
            . rename_i l hh hl kK _
              have l_:=K3 hE gd hl;have ma:=K3 hE gf kK;unfold YK at h;split at h
              . rename_i heq
                simp at heq; obtain ⟨rfl, rfl, rfl⟩:=heq;obtain ⟨_, _, bc⟩:=hx.q1l;split at h
                . rename_i ah
                  obtain ⟨rfl, rfl, _⟩:=ah;simp at h; obtain ⟨rfl, rfl⟩:=h;refine ⟨rfl, Qq (λw' => ?_) VRel.nilSl⟩;have:=VK (P:=P) (isSlice:=true) (cap:=0) l_ ma (z9 _) (z9 _) w';simp [execOp, bc, Instr.sliceAt, Instr.slice, Q0 hu, this, Qe cA]
                . cases h
              . rename_i i o n' jm heq
                simp at heq; obtain ⟨rfl, rfl, rfl⟩:=heq;simp only at h;split at h
                . rename_i c esz wr tight hb
                  split at h
                  . rename_i ah
                    obtain ⟨mG, pI, tf⟩:=ah;simp at h; obtain ⟨rfl, rfl⟩:=h;obtain ⟨ad, aq, bc, aS, aY⟩:=hx.q1c;obtain ⟨p, hp, hB⟩:=hH.live i _ hb;have eL:=(aY p hp).1;have b_:=λw' => VK (P:=P) (isSlice:=true) (cap:=aq) l_ ma pI (x6 tf eL) w';obtain ⟨-, oR, ⟨oS, gx⟩ | ⟨o', rfl, dK, ho⟩⟩:=aY p hp
                    . have br:aq = l:=by omega
                      refine ⟨rfl, .slice (some ad) (hh - l) (aq - l), .sl _ _ _ _ _ _ aS (λq hq => ⟨by omega, λ_ => by omega, .inl ⟨by omega, by omega⟩⟩), λw' _ => ?_⟩;simp only [execOp, bc, Instr.sliceAt, zp, Q0 hu, zg, Instr.slice, Option.map_none, b_, Qe cA];simp [br]
                    have dL:p.esz.sz = ei.size:=by rw [hB.1]; exact mG
                    rw [dL] at dK;refine ⟨rfl, .slice (some (if aq = l then ⟨p.blk, p.shift + o', none⟩ else ⟨p.blk, p.shift + (o' + l * ei.size), none⟩)) (hh - l) (aq - l), .sl _ _ _ _ _ _ aS (λq hq => ?_), λw' _ => ?_⟩
                    . obtain rfl:p = q:=osj (hp.symm.trans hq)
                      refine ⟨by omega, λht => by have:=oR ht; omega, .inr ?_⟩;rw [dL];by_cases cu:aq = l
                      . refine ⟨o', by rw [z6 cu], by rw [cu, Nat.sub_self]; omega, .inr (by omega)⟩
                      . refine ⟨o' + l * ei.size, by rw [z7 cu], ?_, ?_⟩
                        . have:aq = l + (aq - l):=by omega
                          rw [this, zF] at dK;omega
                        . rcases ho with rfl | ⟨h0, vU⟩
                          . exact .inl rfl
                          . exact .inr (by omega)
                    . simp only [execOp, bc, Instr.sliceAt, zp, Q0 hu, zg, Instr.slice, Option.map_none, b_, Qe cA]
                      by_cases cu:aq = l
                      . simp [cu]
                      . simp [cu, Wu, zw]
                  . cases h
                . cases h
              . cases h
            . simp_all
            . cases h
          . cases h
    . rename_i hu
      split at hc
      . rename_i pJ
        cases mx with
        | some m => simp at pJ
        | none =>
          simp at hc; subst hc;simp only [Q8] at h;split at h
          . rename_i s h1
            rw [h1] at hx;split at h
            . rename_i l hh hl kK
              have l_:=K3 hE gd hl;have ma:=K3 hE gf kK;split at h
              . rename_i ah
                simp at h; obtain ⟨rfl, rfl⟩:=h;refine ⟨rfl, Qq (λw' => ?_) (VRel.string _)⟩;have:=VK (P:=P) (isSlice:=false) (cap:=s.size) l_ ma ah.1 ah.2 w';simp [execOp, hx.q0p, Instr.sliceAt, Instr.slice, Q0 hu, this]
              . cases h
            . cases h
          . cases h
      . cases hc
    . cases hc
  case makeInterface t x =>
    have hx:=hE x (by simpa using ak);cases hu:P.underlying t with
    | none => simp [hu] at hc
    | some d =>
      have jJ:∀ ms, d ≠ .interface ms:=λms e => by subst e; simp [hu] at hc
      have dg:vo = .iface t x:=by simp_all
      subst dg;simp only [Q8] at h;split at h
      . cases h
      . simp at h; obtain ⟨rfl, rfl⟩:=h
        refine ⟨rfl, Qq (λw' => ?_) (VRel.iface t _ _ hx)⟩;have:(Instr.makeInterface t (ev x)).run P w' = .ok (.iface t (ev x)) w':=by cases d <;> first | (exact absurd rfl (jJ _)) | simp [Instr.makeInterface, Q0 hu]
        simp [execOp, this]
  case extract x i =>
    have hx:=hE x (by simpa using ak);simp at hc; subst hc;simp only [Q8] at h;split at h
    . rename_i vs h1
      rw [h1] at hx;obtain ⟨ds, hds, hl⟩:=hx.q1m;split at h
      . rename_i v0 hv
        simp at h; obtain ⟨rfl, rfl⟩:=h;obtain ⟨u, hu, cH⟩:=hl.get hv;have dJ:ds[i]? = some u:=by simpa using hu
        exact ⟨rfl, u, cH, λw' _ => by simp [execOp, hds, Instr.extract, dJ]⟩
      . cases h
    . cases h
  case nilCheck x =>
    have hx:=hE x (by simpa using ak);simp at hc; subst hc;simp only [Q8] at h;split at h
    . rename_i a h1
      rw [h1] at hx;simp at h; obtain ⟨rfl, rfl⟩:=h;have:∃ a', ev x = .pointer (some a'):=by generalize ev x = c at hx;cases hx <;> exact ⟨_, rfl⟩
      obtain ⟨a', jK⟩:=this;exact ⟨rfl, ev x, hx, λw' _ => by simp [execOp, jK]⟩
    . rename_i f first cap h1
      rw [h1] at hx;simp at h; obtain ⟨rfl, rfl⟩:=h;have:∃ g' c', ev x = .func (.func f) g' c':=by generalize ev x = c at hx;cases hx; exact ⟨_, _, rfl⟩
      obtain ⟨g', c', jK⟩:=this;exact ⟨rfl, ev x, hx, λw' _ => by simp [execOp, jK]⟩
    . cases h
  case call c =>
    split at hc
    . simp at hc; subst hc; simp [Q8] at h
    . simp at hc; subst hc; simp [Q8] at h
    . rename_i aI
      split at hc
      . rename_i t x ht ax
        have cI:c.args = #[x]:=by apply Array.ext'; simpa using ax
        have hx:=hE x (by simp [Call.operands, aI, cI] at ak; exact ak);split at hc
        . rename_i hu
          simp at hc; subst hc;simp only [Q8] at h;split at h
          . rename_i s h1
            rw [h1] at hx; simp at h; obtain ⟨rfl, rfl⟩:=h;refine ⟨rfl, Qq (λw' => ?_) (VRel.int _ _)⟩;simp [execOp, resolve, aI, cI, invoke, builtin, Builtin.len_, ht, hx.q0p, Q0 hu, goInt]
          . cases h
        . rename_i e hu
          simp at hc; subst hc;simp only [Q8] at h;split at h
          . rename_i a n cap h1
            rw [h1] at hx; simp at h; obtain ⟨rfl, rfl⟩:=h;obtain ⟨a', aq, bc⟩:=hx.q1v;refine ⟨rfl, Qq (λw' => ?_) (VRel.int _ _)⟩;simp [execOp, resolve, aI, cI, invoke, builtin, Builtin.len_, ht, bc, Q0 hu, goInt]
          . cases h
        . cases hc
      . cases hc
    . rename_i aI
      split at hc
      . rename_i t u s x ht hu ax
        split at hc
        . rename_i e f _ _
          cases hi:P.info? e with
          | none => simp [hi] at hc
          | some ei =>
            cases hz:zeroOf P e with
            | none => simp [hi, hz] at hc
            | some z =>
              simp only [hi, hz, zy, xi] at hc;split at hc
              . cases hc
              . simp at hc; subst hc; cases hq
        . cases hc
      . cases hc
    . rename_i aI
      split at hc
      . rename_i x y ax
        have cI:c.args = #[x, y]:=by apply Array.ext'; simpa using ax
        simp [Call.operands, aI, cI] at ak;have hx:=hE x ak.1;have hy:=hE y ak.2;simp at hc; subst hc;simp only [Q8] at h;split at h
        . rename_i k a k' b h1 h2
          rw [h1] at hx; rw [h2] at hy;split at h
          . simp at h; obtain ⟨rfl, rfl⟩:=h
            refine ⟨rfl, Qq (λw' => ?_) (VRel.int _ _)⟩;simp [execOp, resolve, aI, cI, invoke, builtin, Builtin.max_, Builtin.max2, hx.q0h, hy.q0h]
          . cases h
        . cases h
      . rename_i x y z ax
        have cI:c.args = #[x, y, z]:=by apply Array.ext'; simpa using ax
        simp [Call.operands, aI, cI] at ak;have hx:=hE x ak.1;have hy:=hE y ak.2.1;have hz:=hE z ak.2.2;simp at hc; subst hc;simp only [Q8] at h;split at h
        . rename_i k a k2 b k3 c' k4 d h1 h2 h3 h4
          rw [h1] at hx; rw [h2] at hy; rw [h3] at hz;split at h
          . rename_i hk; obtain ⟨rfl, rfl, rfl⟩:=hk
            simp at h; obtain ⟨rfl, rfl⟩:=h;refine ⟨rfl, Qq (λw' => ?_) (VRel.int _ _)⟩;have tg:=(Value.int.inj (h3.symm.trans h4)).2;subst tg;simp only [Q86];simp [execOp, resolve, aI, cI, invoke, builtin, Builtin.max_, Builtin.max2, hx.q0h, hy.q0h, hz.q0h, Q5n]
          . cases h
        . cases h
      . rename_i x y z w ax
        have cI:c.args = #[x, y, z, w]:=by apply Array.ext'; simpa using ax
        simp [Call.operands, aI, cI] at ak;have hx:=hE x ak.1;have hy:=hE y ak.2.1;have hz:=hE z ak.2.2.1;have hw:=hE w ak.2.2.2;simp at hc; subst hc;simp only [Q8] at h;split at h
        . rename_i k a k2 b k3 c' k4 d h1 h2 h3 h4
          rw [h1] at hx; rw [h2] at hy; rw [h3] at hz; rw [h4] at hw;split at h
          . rename_i hk; obtain ⟨rfl, rfl, rfl⟩:=hk
            simp at h; obtain ⟨rfl, rfl⟩:=h;refine ⟨rfl, Qq (λw' => ?_) (VRel.int _ _)⟩;simp [execOp, resolve, aI, cI, invoke, builtin, Builtin.max_, Builtin.max2, hx.q0h, hy.q0h, hz.q0h, hw.q0h, Q5n]
          . cases h
        . cases h
      . cases hc
    . rename_i aI
      split at hc
      . rename_i x y ax
        have cI:c.args = #[x, y]:=by apply Array.ext'; simpa using ax
        simp [Call.operands, aI, cI] at ak;have hx:=hE x ak.1;have hy:=hE y ak.2;simp at hc; subst hc;simp only [Q8] at h;split at h
        . rename_i k a k' b h1 h2
          rw [h1] at hx; rw [h2] at hy;split at h
          . simp at h; obtain ⟨rfl, rfl⟩:=h
            refine ⟨rfl, Qq (λw' => ?_) (VRel.int _ _)⟩;simp [execOp, resolve, aI, cI, invoke, builtin, Builtin.min_, Builtin.min2, hx.q0h, hy.q0h]
          . cases h
        . cases h
      . cases hc
    . cases hc
  all_goals (first | (cases hc; done) | (split at hc <;> cases hc; done))
end
end Go.V
namespace Go.V
open Go
section
variable {P:Program}{ρ:Plc}{U U':Heap}{w:World}{ev:Operand->Value}{env:Env}{v:Value}
def Ii (P:Program) (ρ:Plc) (U:Heap) (w:World) (v:Value) (U':Heap) (s:Sem Next):Prop :=
 ∃ c w' ρ',(s.run P w=.ok (.value c) w'\/(s.run P w=.ok .skip w'/\c=undef))/\VRel ρ' U'.n v c/\HRel ρ' U' w'/\Ext ρ U w ρ' U' w'
theorem Iw (z:List Value) (hz:z≠[]):∀ n,(List.range (n*z.length)).map (λi=>z[i % z.length]!)=(List.replicate n z).flatten:=by
 intro n;have bh:0<z.length:=zW.2 hz;induction n with
 |zero=>simp
 |succ n ih =>
  rw[xw,List.flatten_cons,<-ih,Nat.succ_mul,w5,List.range_add,xS,yb];congr 1
  .apply zT
   grind [Nat.mod_eq_of_lt]
  .apply xm;intro i _;simp
theorem KB (n:Nat) (z:List Value):TW n z=(List.replicate n z).flatten:=by
 unfold TW;split
 .simp_all
 .rfl
theorem Ta (zero:Array Value) (z:List Value) (h:zero.toList=z) (hz:z≠[]) (n:Nat):((Array.range (n*z.length)).map (λi=>zero[i % zero.size]!)).toList=TW n z:=by
 rw[KB,<-Iw z hz n];subst h;simp
 grind
theorem C3 (n:Nat) (z:List Value):(TW n z).length=n*z.length:=by rw[KB];simp_all
theorem Q57 (n:Nat) (z:List Value) (h:z.all cellOk=true):(TW n z).all cellOk=true:=by
 grind [KB,List.all_eq_true,List.mem_flatten]
theorem Tj (n:Nat) (z:List Value) (h:z.all Zl=true):(TW n z).all Zl=true:=by rw[KB,List.all_flatten];simp[List.all_replicate,h]
theorem Rg {lo:Option Operand}{yh ym:Operand}{n cap l h m:Nat}{kh km:IntKind}{ih im:Int}(pE:(lo=none/\l=0)\/∃ x k i,lo=some x/\ev x=.int k i/\0<=i/\l=i.toNat)
  (jo:ev yh=.int kh ih) (oT:0<=ih) (hh:h=ih.toNat) (jq:ev ym=.int km im) (oU:0<=im) (hm:m=im.toNat) (h1:l<=h) (h2:h<=m) (h3:m<=cap) (w:World) :
  (Instr.sliceBounds true n cap (lo.map ev) ((some yh).map ev) ((some ym).map ev)).run P w=.ok (l,h,m) w:=by
 subst hh;subst hm;rcases pE with⟨rfl,rfl⟩|⟨x,k,i,rfl,hx,oP,rfl⟩
 .simp[Instr.sliceBounds,jo,jq,ZA km im _ _ oU h3,ZA kh ih _ _ oT h2]
 .simp[Instr.sliceBounds,hx,jo,jq,ZA km im _ _ oU h3,ZA kh ih _ _ oT h2,ZA k i _ _ oP h1]
theorem ON (hH:HRel ρ U w) {c:List Value}{C:Array Value}{esz:El}(hc:LRel ρ U.n c C.toList) {s:Sem Next}
  (hs:s.run P w=.ok (.value (.pointer (some ⟨w.heap.size,0,none⟩))) (w.alloc (.cells C esz.ty))) :
  Ii P ρ U w (.pointer (some ⟨U.n,0,none⟩)) (U.push (.cells c esz true true)) s:=by
 have hl:c.length=C.size:=by have:=hc.1;simpa using this
 obtain⟨ρ',h1,h2,h3⟩:=hH.alloc c C esz.ty esz true rfl (by
  grind [Array.length_toList,List.take_length]) (by omega)
 refine⟨_,_,ρ',.inl hs,.ptr _ _ _ (by simp) (λp hp=>?_),h2,h3⟩;simp_all
theorem LL (hH:HRel ρ U w) {c:List Value}{C:Array Value}{esz:El}{n cap:Nat}(hc:LRel ρ U.n c C.toList) (hn:cap*esz.sz<=C.size) {s:Sem Next}
  (hs:s.run P w=.ok (.value (.slice (some ⟨w.heap.size,0,none⟩) n cap)) (w.alloc (.cells C esz.ty))) :
  Ii P ρ U w (.slice (some ⟨U.n,0,none⟩) n cap) (U.push (.cells c esz true true)) s:=by
 have hl:c.length=C.size:=by have:=hc.1;simpa using this
 obtain⟨ρ',h1,h2,h3⟩:=hH.alloc c C esz.ty esz true rfl (by
  grind [Array.length_toList,List.take_length]) (by omega)
 refine⟨_,_,ρ',.inl hs,.sl _ _ _ _ _ _ (by simp) (λp hp=>?_),h2,h3⟩;simp_all
theorem Ep (hH:HRel ρ U w) {esz n cap:Nat}{a:Option Addr}{xs:List Value}{c:Value}(h:U.sl esz (.slice a n cap)=some xs) (hv:VRel ρ U.n (.slice a n cap) c) :
  xs.length=n*esz/\∃ us:List Value,LRel ρ U.n xs us/\(∃ a' aq,c=.slice a' n aq)/\∀ w',Like ρ w w'->(Builtin.firstCells esz n c).run P w'=.ok us.toArray w':=by
 unfold Heap.sl at h;split at h
 .rename_i heq;simp at heq;obtain⟨rfl,rfl,rfl⟩:=heq;simp at h;subst h;obtain⟨_,_,rfl⟩:=hv.q1l;exact⟨by simp,[],LRel.nil _ _,⟨_,_,rfl⟩,λw' _=>by simp[Builtin.firstCells]⟩
 .rename_i i o n' jm heq;simp at heq;obtain⟨rfl,rfl,rfl⟩:=heq;split at h
  .rename_i c0 e wr tight hb;split at h
   .rename_i ah;obtain⟨mG,hlen⟩:=ah;simp at h;obtain⟨p,hp,_,_,_,_,h5,_⟩:=hH.live i _ hb;obtain⟨ad,aq,rfl,aS,aY⟩:=hv.q1c;have gg:xs.length=n*esz:=by rw[<-h];simp;omega
    obtain⟨_,_,⟨_,gx⟩|⟨o',rfl,_,ho⟩⟩:=aY p hp
    .subst gx;rw[Nat.zero_mul] at gg;obtain rfl:=x5.1 gg;refine⟨by simp,[],.nil _ _,⟨_,_,rfl⟩,λw' hl=>?_⟩;have:=run_loadCells_list (P:=P) w' ad [] (λj v hj=>by simp at hj);simp only[List.length_nil] at this;simp[Builtin.firstCells,this]
    refine⟨gg,?_⟩;have jL:n*esz=0\/o'=o:=by
     grind
    have hex:∀ k,k<n*esz->∃ u,w.cell? ⟨p.blk,p.shift+o'+k,none⟩=some u/\∀ v,xs[k]?=some v->VRel ρ U.n v u:=λk hk=>by
     have kN:o'=o:=jL.resolve_left (by omega);subst kN;obtain⟨u,hu,cH⟩:=h5 (o'+k) _ (z8 (by omega))
     grind
    let us:List Value:=(List.range (n*esz)).map λk=>(w.cell? ⟨p.blk,p.shift+o'+k,none⟩).getD undef;have mH:us.length=n*esz:=by simp[us]
    have dy:∀ k,k<n*esz->∀ u,w.cell? ⟨p.blk,p.shift+o'+k,none⟩=some u->us[k]?=some u:=λk hk u hu=>by simp[us,hk,hu]
    refine⟨us,⟨by omega,λk v u hk hu=>?_⟩,⟨_,_,rfl⟩,λw' hl=>?_⟩
    .grind
    .have cY:∀ j v,us[j]?=some v->w'.cell? ((⟨p.blk,p.shift+o',none⟩:Addr).add j)=some v:=λj v hj=>by
      have cM:j<n*esz:=by grind
      obtain⟨u',dJ,_⟩:=hex j cM;rw[dy j cM u' dJ] at hj;obtain rfl:=osj hj;rw[Wu,Lu hl hp];exact dJ
     have:=run_loadCells_list (P:=P) w' ⟨p.blk,p.shift+o',none⟩ us cY;rw[mH] at this;simp[Builtin.firstCells,this]
   .cases h
  .cases h
 .cases h
theorem Q3s (fC aX:Nat) (h:aX<fC):Builtin.nextslicecap fC aX<=2*fC:=by
 unfold Builtin.nextslicecap;split
 .omega
 .split
  .omega
  .have key:∀ r c,c<=2*fC->256<=fC->Builtin.growBy fC r c<=2*fC:=by
    intro r;induction r with
    |zero=>intro c hc _;exact hc
    |succ r ih =>
     intro c hc h2;unfold Builtin.growBy;split
     .exact hc
     .exact ih _ (by omega) h2
   exact key 4 aX (by omega) (by omega)
theorem Q59 {n:Nat}{v c:Value}(h:cellOk v=true) (hv:VRel ρ n v c):c.oneCell'=true:=by cases hv<;>first|rfl|(simp[cellOk,poison] at h)
theorem VP {n:Nat}{vs cs:List Value}(h:vs.all cellOk=true) (hv:LRel ρ n vs cs):∀ c∈cs,c.oneCell'=true:=by
 intro c hc;obtain⟨k,hk⟩:=List.getElem?_of_mem hc;have cL:k<vs.length:=by have:=(zq.1 hk).1;have:=hv.1;omega
 exact Q59 (by simp_all) (hv.2 k _ _ (z8 cL) hk)
theorem XI {t u e f:TypeId}{ei:TypeInfo}(ht:P.underlying t=some (.slice e)) (hu:P.underlying u=some (.slice f)) (hi:P.info? e=some ei) (ty:TypeId) (base:Option Addr) (n cap m:Nat) (x:Value) (us:List Value)
  (hx:∃ a' aq,x=.slice a' m aq) (ft:(Builtin.firstCells ei.size m x).run P w=.ok us.toArray w) (aK:n+m<=cap) (w':World)
  (a9:(match base with|some a=>storeCells (a.add (n*ei.size)) us|none=>pure ()).run P w=.ok () w') :
  (Builtin.append_ #[t,u] ty #[.slice base n cap,x]).run P w=.ok (.slice base (n+m) cap) w':=by
 obtain⟨a',aq,rfl⟩:=hx;unfold Builtin.append_;cases base with
 |none =>simp at a9;subst a9;simp[Q0 ht,Q0 hu,Qe hi,Builtin.lenOf,aK,ft]
 |some a =>simp at a9;simp[Q0 ht,Q0 hu,Qe hi,Builtin.lenOf,aK,ft,a9]
theorem Wi {t u e f:TypeId}{ei:TypeInfo}{zv:Value}(ht:P.underlying t=some (.slice e)) (hu:P.underlying u=some (.slice f)) (hi:P.info? e=some ei) (hz:ei.zero=some zv) (hb:ei.bytes≠0) (ty:TypeId) (base:Option Addr) (n cap m:Nat) (x:Value) (us os:List Value)
  (hx:∃ a' aq,x=.slice a' m aq) (ft:(Builtin.firstCells ei.size m x).run P w.drew=.ok us.toArray w.drew) (ie:(Builtin.firstCells ei.size n (.slice base n cap)).run P w.drew=.ok os.toArray w.drew)
  (aK:¬ n+m<=cap) (aC:(n+m)*ei.bytes<=2 ^ 46) :
  ∃ aZ,n+m<=aZ/\(Builtin.append_ #[t,u] ty #[.slice base n cap,x]).run P w =
   .ok (.slice (some ⟨w.heap.size,0,none⟩) (n+m) aZ) (w.drew.alloc (.cells ((os++us).toArray++Builtin.zeroCells zv.cells (aZ-(n+m))) e)):=by
 obtain⟨a',aq,rfl⟩:=hx;refine⟨(Question.appendCap (n+m) cap e).cut (w.tape w.drawn (.appendCap (n+m) cap e)),by simp[Question.cut],?_⟩;have h1:¬ (2 ^ 48<Builtin.nextslicecap (n+m) cap*ei.bytes):=by have:=Q3s (n+m) cap (by omega);have h2:Builtin.nextslicecap (n+m) cap*ei.bytes<=2*(n+m)*ei.bytes:=zk _ this;rw[Nat.mul_assoc] at h2;omega
 have ig:∀ w:World,(typeInfo e).run P w=.ok ei w:=λw=>run_typeInfo w hi;have dG:∀ w:World,(zeroValue e).run P w=.ok zv w:=λw=>Zy hi hz w;unfold Builtin.append_;simp[Q0 ht,Q0 hu,Qe hi,Builtin.lenOf,aK,ig,hb,h1,Question.forced,ie,ft,dG,newRow];congr 2;apply Array.ext';simp
theorem WV (_hH:HRel ρ U w) (_hE:Ext ρ U w ρ U w) {σ1:Heap}{ρ1:Plc}(iZ:HRel ρ1 σ1 w) (fv:Ext ρ U w ρ1 σ1 w) (gh:σ1.n=U.n) {aX xs os us:List Value}{zs:Array Value}{esz:El}{n aZ:Nat}
  (ho:LRel ρ U.n aX os) (hx:LRel ρ U.n xs us) (hlen:aX.length+xs.length=n*esz.sz) (ew:zs.size=(aZ-n)*esz.sz) (gy:n<=aZ) {s:Sem Next}
  (hs:s.run P w=.ok (.value (.slice (some ⟨w.heap.size,0,none⟩) n aZ)) (w.drew.alloc (.cells ((os++us).toArray++zs) esz.ty))) :
  Ii P ρ U w (.slice (some ⟨U.n,0,none⟩) n n) (σ1.push (.cells (aX++xs) esz true false)) s:=by
 have hl:(aX++xs).length=(os++us).length:=by simp[ho.1,hx.1]
 have aH:LRel ρ1 σ1.n (aX++xs) (((os++us).toArray++zs).toList.take (aX++xs).length):=by
  have h1:((os++us).toArray++zs).toList.take (aX++xs).length=os++us:=by
   grind
  rw[h1];exact(ho.append hx).mono fv.n fv.pl
 have aC:((os++us).toArray++zs).size=n*esz.sz+(aZ-n)*esz.sz:=by simp_all
 have cu:(aX++xs).length<=((os++us).toArray++zs).size:=by rw[aC,zG];omega
 obtain⟨ρ',h1,h2,h3⟩:=(iZ.drew).alloc (aX++xs) ((os++us).toArray++zs) esz.ty esz false rfl aH cu;have hh:w.drew.heap.size=w.heap.size:=rfl;rw[gh] at h1;refine⟨_,_,ρ',.inl hs,.sl _ _ _ _ _ _ (by simp[gh]) (λp hp=>?_),h2,(fv.trans (Ext.drew ρ1 σ1 w)).trans h3⟩;rw[h1] at hp;obtain rfl:=osj hp;refine⟨gy,⟨λh=>(by cases h),.inr ⟨0,rfl,?_,Or.inl rfl⟩⟩⟩;show 0+aZ*esz.sz<=((os++us).toArray++zs).size;rw[aC,<-zF];simp_all
theorem Q06 (hH:HRel ρ U w) {t u e f:TypeId}{ei:TypeInfo}{zv:Value}{z:List Value}(ht:P.underlying t=some (.slice e)) (hu:P.underlying u=some (.slice f)) (hi:P.info? e=some ei) (hz:ei.zero=some zv) (gb:zv.cells.toList=z) (ew:z.length=ei.size) (hb:ei.bytes≠0) (ty:TypeId)
  {s:Value}{a:Option Addr}{m kO:Nat}{xs:List Value}{cs cx:Value}(hs:VRel ρ U.n s cs) (hx:VRel ρ U.n (.slice a m kO) cx) (bH:U.sl z.length (.slice a m kO)=some xs) (ak:xs.all cellOk=true)
  (h:Wc ⟨z.length,e⟩ ei.bytes U s m xs=some (v,U')) {pK:Sem Next}(aW:∀ r w',(Builtin.append_ #[t,u] ty #[cs,cx]).run P w=.ok r w'->pK.run P w=.ok (.value r) w'):Ii P ρ U w v U' pK:=by
 obtain⟨gg,us,eY,dM,ft⟩:=Ep (P:=P) hH bH hx;rw[ew] at ft gg;have hL:=Like.refl ρ w;have i_:Like ρ w w.drew:=⟨z9 _,λ_ _ _=>rfl,λ_ _ _=>rfl⟩;have mH:us.length=m*ei.size:=by have:=eY.1;omega
 have hzero:∀ k,(Builtin.zeroCells zv.cells k).size=k*z.length:=(by grind [size_zeroCells]);unfold Wc at h;split at h
 .
  obtain⟨_,_,rfl⟩:=hs.q1l;split at h
  .rename_i dH;subst dH;simp at h;obtain⟨rfl,rfl⟩:=h;have:us=[]:=x5.1 (by omega);subst this;have hr:=XI (w:=w) ht hu hi ty none 0 0 0 cx [] dM (ft w hL) (z9 _) w rfl;exact⟨_,w,ρ,.inl (aW _ _ hr),VRel.nilSl,hH,Ext.refl _ _ _⟩
  .rename_i dH;split at h
   .rename_i aC;simp at h;obtain⟨rfl,rfl⟩:=h;obtain⟨aZ,gy,hr⟩:=Wi (w:=w) ht hu hi hz hb ty none 0 0 m cx us [] dM (ft _ i_) (by simp[Builtin.firstCells]) (by omega) (by simpa using aC);simp only[zU,xD] at hr gy;have:=WV (P:=P) hH (Ext.refl _ _ _) hH (Ext.refl _ _ _) rfl (LRel.nil ρ U.n) eY (by simp;rw[gg,<-ew]) (esz:=⟨z.length,e⟩) (n:=m) (hzero (aZ-m)) gy (s:=pK) (by simpa using aW _ _ hr);simpa using this
   .cases h
 .
  rename_i i o n cap;obtain⟨ad,aq,rfl,aS,aY⟩:=hs.q1c;split at h
  .rename_i c e' wr tight aD;obtain⟨p,hp,hB⟩:=hH.live i _ aD;obtain⟨eL,oR,⟨oS,gx⟩|⟨o',rfl,dK,fD⟩⟩:=aY p hp
   .
    obtain rfl:cap=0:=by omega
    subst oS gx;split at h
    .rename_i ah;obtain⟨rfl,jM,fE⟩:=ah;dsimp only at fE h;split at h
     .rename_i dH;subst dH;simp at h;obtain⟨rfl,rfl⟩:=h;have:us=[]:=x5.1 (by omega);subst this;have hr:=XI (w:=w) ht hu hi ty (some ad) 0 0 0 cx [] dM (ft w hL) (z9 _) w rfl;exact⟨_,w,ρ,.inl (aW _ _ hr),hs,hH,Ext.refl _ _ _⟩
     .rename_i dH;split at h
      .omega
      .split at h
       .rename_i aC;have gi:U.sl z.length (.slice (some ⟨i,o,none⟩) 0 0)=some ((c.drop o).take (0*z.length)):=by
         have:o<=c.length:=by omega
         simp[Heap.sl,aD,this]
        obtain⟨_,os,jr,_,ie⟩:=Ep (P:=P) hH gi hs;rw[ew] at ie;have hlen:((c.drop o).take (0*z.length)).length+xs.length=(0+m)*z.length:=by rw[gg,ew];simp
        obtain⟨aZ,gy,hr⟩:=Wi (w:=w) ht hu hi hz hb ty (some ad) 0 0 m cx us os dM (ft _ i_) (ie _ i_) (by omega) aC;split at h
        .grind [Prod.mk.inj,osj,WV,Ext.refl]
        .split at h
         .obtain⟨rfl,rfl⟩:=Prod.mk.inj (osj h);obtain⟨bp,aw⟩:=hH.kill i;exact WV hH (Ext.refl _ _ _) bp aw rfl jr eY hlen (hzero _) gy (aW _ _ hr)
         .cases h
       .cases h
    .cases h
   have dL:p.esz=e':=hB.1;split at h
   .rename_i ah;obtain⟨rfl,jM,fE⟩:=ah;rw[dL] at dK;dsimp only at dK fE h;split at h
    .
     rename_i dH;subst dH;simp at h;obtain⟨rfl,rfl⟩:=h;have:us=[]:=x5.1 (by omega);subst this;have hr:=XI (w:=w) ht hu hi ty (some ⟨p.blk,p.shift+o',none⟩) n aq 0 cx [] dM (ft w hL) (by omega) w rfl;exact⟨_,w,ρ,.inl (aW _ _ hr),hs,hH,Ext.refl _ _ _⟩
    .rename_i dH;split at h
     .
      rename_i aK;split at h
      .rename_i hw;obtain⟨rfl,eZ⟩:=hw;simp at h;obtain⟨rfl,rfl⟩:=h;have jL:o'=o:=by
        omega
       subst jL;have hmul:(n+m)*z.length=n*z.length+m*z.length:=zF _ _ _;have th:m*ei.size=m*z.length:=by rw[ew]
       obtain⟨h2,h3⟩:=hH.store hp aD eY (o:=o'+n*z.length) (by omega)
       have a9:=run_storeCells_cells (P:=P) p.blk (p.shift+o'+n*z.length) us 0 w
        (λj hj=>by rw[x4,zw,zw];exact hB.q0v _ (by have:=hB.2.2.1;omega))
        (λj hj=>by rw[x4,zw,zw];exact(hB.2.2.2.2.2 rfl).2 _ (by have:=hB.2.2.1;omega))
        (VP ak eY)
       have hr:=XI (w:=w) ht hu hi ty (some ⟨p.blk,p.shift+o',none⟩) n aq m cx us dM (ft w hL) (by omega) _ (by
        simp only[Wu,<-ew];exact a9)
       refine⟨_,_,ρ,.inl (aW _ _ hr),.sl _ _ _ _ _ _ aS (λq hq=>?_),by rw[x4,zw];exact h2,by grind⟩;simp_all
      .cases h
     .rename_i aK;split at h
      .rename_i aC;have hold:∀ k v,((c.drop o).take (n*z.length))[k]?=some v->∃ u,w.cell? ⟨p.blk,p.shift+o'+k,none⟩=some u/\VRel ρ U.n v u:=λk v hk=>by
        rw[xu] at hk;split at hk
        .rename_i cL;rw[zZ] at hk;have jL:o'=o:=by
          grind
         subst jL;obtain⟨u,hu,cH⟩:=hB.2.2.2.2.1 _ v hk
         grind
        .cases hk
       have dX:((c.drop o).take (n*z.length)).length=n*z.length:=by simp;omega
       have gi:U.sl z.length (.slice (some ⟨i,o,none⟩) n cap)=some ((c.drop o).take (n*z.length)):=by simp[Heap.sl,aD,fE]
       obtain⟨_,os,jr,_,ie⟩:=Ep (P:=P) hH gi hs;rw[ew] at ie;have hlen:((c.drop o).take (n*z.length)).length+xs.length=(n+m)*z.length:=by rw[dX,gg,zF,ew]
       split at h
       .
        rename_i fF;simp at h;obtain⟨rfl,rfl⟩:=h;have pL:aq=cap:=oR (by rw[hB.2.1];exact fF);subst pL;obtain⟨aZ,gy,hr⟩:=Wi (w:=w) ht hu hi hz hb ty (some ⟨p.blk,p.shift+o',none⟩) n aq m cx us os dM (ft _ i_) (ie _ i_) aK aC
        grind [WV,Ext.refl]
       .rename_i fF;have tj:tight=false:=by simpa using fF
        subst tj;split at h
        .rename_i gS;subst gS;simp at h;obtain⟨rfl,rfl⟩:=h;by_cases fG:n+m<=aq
         .
          have hmul:aq*z.length=(n+m)*z.length+(aq-(n+m))*z.length:=by rw[<-zF];congr 1;omega
          have rM:(n+m)*z.length=n*z.length+m*z.length:=zF _ _ _;have th:m*ei.size=m*z.length:=by rw[ew]
          obtain⟨ρ',h1,h2,h3⟩:=hH.onto hp aD o' hold eY (by rw[dX];omega)
          have a9:=run_storeCells_cells (P:=P) p.blk (p.shift+o'+n*z.length) us 0 w
           (λj hj=>by rw[x4,zw,zw];exact hB.q0v _ (by omega))
           (λj hj=>by rw[x4,zw,zw];exact(hB.2.2.2.2.2 rfl).2 _ (by omega))
           (VP ak eY)
          have hr:=XI (w:=w) ht hu hi ty (some ⟨p.blk,p.shift+o',none⟩) n aq m cx us dM (ft w hL) fG _ (by
           simp only[Wu,<-ew];exact a9)
          refine⟨_,_,ρ',.inl (aW _ _ hr),.sl _ _ _ _ _ _ (by simp) (λq hq=>?_),by rw[x4];rw[dX] at h2;exact h2,by rw[x4];rw[dX] at h3;exact h3⟩;rw[h1] at hq;obtain rfl:=osj hq;refine⟨fG,⟨λh=>(by cases h),.inr ⟨0,rfl,?_,Or.inl rfl⟩⟩⟩
          grind
         .obtain⟨aZ,gy,hr⟩:=Wi (w:=w) ht hu hi hz hb ty (some ⟨p.blk,p.shift+o',none⟩) n aq m cx us os dM (ft _ i_) (ie _ i_) fG aC;obtain⟨bp,aw⟩:=hH.kill i;exact WV hH (Ext.refl _ _ _) bp aw rfl jr eY hlen (hzero _) gy (aW _ _ hr)
        .cases h
      .cases h
   .cases h
  .cases h
 .
  rename_i i o n cap;obtain⟨ad,rfl,aS,aY,dw⟩:=hs.q2j;split at h
  .rename_i c e' wr tight aD;obtain⟨p,hp,hB⟩:=hH.live i _ aD;obtain⟨rfl,dK⟩:=aY p hp;have dL:p.esz=e':=hB.1;split at h
   .rename_i ah;obtain⟨rfl,jM,fE,dH,aC⟩:=ah;rw[dL] at dK;dsimp only at dK fE h;simp at h;obtain⟨rfl,rfl⟩:=h;have dX:((c.drop o).take (n*z.length)).length=n*z.length:=by simp;omega
    have gi:U.sl z.length (.slice (some ⟨i,o,none⟩) n cap)=some ((c.drop o).take (n*z.length)):=by simp[Heap.sl,aD,fE]
    obtain⟨_,os,jr,_,ie⟩:=Ep (P:=P) hH gi dw;rw[ew] at ie;have hlen:((c.drop o).take (n*z.length)).length+xs.length=(n+m)*z.length:=by rw[dX,gg,zF,ew]
    obtain⟨aZ,gy,hr⟩:=Wi (w:=w) ht hu hi hz hb ty (some ⟨p.blk,p.shift+o,none⟩) n cap m cx us os dM (ft _ i_) (ie _ i_) (by omega) aC
    grind [WV,Ext.refl]
   .cases h
  .cases h
 .cases h
set_option maxHeartbeats 1000000 in
theorem Q3u {o:Oper}{vo:VOp}(hc:N6 P o.op=some vo) (hq:vo.quiet=false) (hH:HRel ρ U w) (hE:∀ x,W1 x=true->VRel ρ U.n (Q5 env x) (ev x))
  (h:Q8 vo (Q5 env) U=some (v,U')):Ii P ρ U w v U' (execOp ev o):=by
 obtain⟨dst,op,ty,pos,after,guard⟩:=o;simp only at hc;unfold N6 at hc;split at hc
 .cases hc
 rename_i ak;simp only[w_,xM] at ak;cases op<;>simp only[Op.operands] at ak hc
 case alloc t =>
  cases hz:zeroOf P t with
  |none=>simp[hz] at hc
  |some z =>simp[hz] at hc;subst hc;obtain⟨ti,zv,hi,dG,gb,_,iY⟩:=YY hz;simp[Q8] at h;obtain⟨rfl,rfl⟩:=h;refine ON hH (C:=zv.cells) (esz:=⟨z.length,t⟩) (by rw[gb];exact X_ iY) ?_;simp[execOp,Instr.alloc,Zy hi dG,newVar,newRow]
 case box t x =>
  have hx:=hE x (by simpa using ak);simp at hc;subst hc;simp only[Q8] at h;split at h
  .rename_i vs cz;simp at h;obtain⟨rfl,rfl⟩:=h;refine ON hH (C:=(ev x).cells) (esz:=⟨vs.length,t⟩) (Tc cz hx) ?_;simp[execOp,Instr.box,newVar,newRow]
  .cases h
 case buildSlice t len parts =>
  split at hc
  .rename_i e hu;cases hz:zeroOf P e with
   |none=>simp[hz] at hc
   |some z =>
    obtain⟨ti,zv,hi,dG,gb,ew,iY⟩:=YY hz;simp only[hz,zy,xi] at hc;split at hc
    .cases hc
    .rename_i ah;simp at ah;obtain⟨gU,hlen⟩:=ah;simp at hc;subst hc;simp only[Q8] at h;split at h
     .rename_i cs dW;simp at h;obtain⟨rfl,rfl⟩:=h;have kL:∀ q∈parts.toList,W1 q.2=true:=(by grind);have kP:=Ta zv.cells z gb gU len
      obtain⟨bB,l9,jI⟩:=F9 (ρ:=ρ) (n:=U.n) (λi=>some (i*z.length,z.length)) _ ((parts.map λq=>(q.1,ev q.2)).toList) (TW len z) cs ((Array.range (len*z.length)).map (λi=>zv.cells[i % zv.cells.size]!)) (by simp)
       (by grind) dW (by rw[kP];exact X_ (Tj _ _ iY))
      have cu:cs.length=len*z.length:=by
       have h1:∀ (l:List (Nat×Nat×Value)) (c c':List Value),Gf c l=some c'->c'.length=c.length:=by
        intro l;induction l with
        |nil=>intro c c' h;simp[Gf] at h;rw[h]
        |cons a r ih =>
         intro c c' h;obtain⟨o1,s1,v1⟩:=a;simp only[Gf] at h;split at h
         .grind [Xa]
         .cases h
       rw[h1 _ _ _ dW,C3]
      refine LL hH (C:=bB) (esz:=⟨z.length,e⟩) jI (by have:=jI.1;simp_all) ?_;have hle:¬ (len*ti.size > 2 ^ 24):=by
       grind
      have pM:Instr.fill (λi=>some (i*ti.size,ti.size)) ((Array.range (len*ti.size)).map (λi=>zv.cells[i % zv.cells.size]!)) (parts.map λq=>(q.1,ev q.2)).toList=some bB:=by rw[<-ew];exact l9
      by_cases br:len*ti.size=0
      .have jN:∀ f:Nat->Value,(Array.range 0).map f=#[]:=λf=>by simp
       simp only[execOp];simp only[Instr.buildSlice,zp,Q0 hu,zg,Qe hi,br,zt,xj];rw[br,jN] at pM;simp only[jN,pM];simp[newRow]
      .simp only[execOp];simp only[Instr.buildSlice,zp,Q0 hu,zg,Qe hi,z7 hle,z7 br,Zy hi dG,xj,pM];simp[newRow]
     .cases h
  .cases hc
 case store t a x =>
  simp at ak;have ha:=hE a ak.1;have hx:=hE x ak.2;cases hi:P.info? t with
  |none=>simp[hi] at hc
  |some ti =>
   simp[hi] at hc;subst hc;simp only[Q8] at h;split at h
   .rename_i i o vs h1 cz;rw[h1] at ha;split at h
    .rename_i c e wr tight hb;split at h
     .rename_i ah;obtain⟨rfl,mI,jt,ij⟩:=ah;simp at h;obtain⟨rfl,rfl⟩:=h;obtain⟨p,hp,hB⟩:=hH.live i _ hb;obtain⟨_,aS,tk⟩:=ha.q0w hp;have hl:=Tc cz hx;have az:(ev x).cells.size=ti.size:=by have:=hl.1;simp at this;omega
      obtain⟨h2,h3⟩:=hH.store hp hb hl (o:=o) (by omega);refine⟨undef,_,ρ,.inr ⟨?_,rfl⟩,Xe,h2,h3⟩
      have hr:=run_storeCells_cells (P:=P) p.blk (p.shift+o) (ev x).cells.toList 0 w
       (λj hj=>by rw[x4,zw];exact hB.q0v _ (by have:=hB.2.2.1;simp at hj;omega))
       (λj hj=>by rw[x4,zw];exact(hB.2.2.2.2.2 rfl).2 _ (by have:=hB.2.2.1;simp at hj;omega))
       (VP ij hl)
      simp only[execOp];simp only[Instr.storeAt,tk,Instr.sureAddr,zp,xj,zg,storeVar,Qe hi];simp_all
     .cases h
    .cases h
   .cases h
 case makeSlice t l c =>
  simp at ak;have hl:=hE l ak.1;have eL:=hE c ak.2;split at hc
  .rename_i e hu;cases hi:P.info? e with
   |none=>simp[hi] at hc
   |some ei =>
    cases hz:zeroOf P e with
    |none=>simp[hi,hz] at hc
    |some z =>
     obtain⟨ti,zv,cf,dG,gb,ew,iY⟩:=YY hz;obtain rfl:ei=ti:=osj (hi.symm.trans cf);simp only[hi,hz,zy,xi] at hc;split at hc
     .cases hc
     .rename_i gU;simp at gU;simp at hc;subst hc;simp only[Q8] at h;split at h
      .rename_i k a k' b h1 h2;rw[h1] at hl;rw[h2] at eL;split at h
       .rename_i ah;obtain⟨vV,rL,mJ,bw⟩:=ah;simp at h;obtain⟨rfl,rfl⟩:=h;have kP:=Ta zv.cells z gb gU b.toNat;have tl:(2:Int) ^ 46=70368744177664:=by decide
        have oV:(2:Int) ^ 48=281474976710656:=by decide
        have ju:IntKind.i64.wrap a=a:=IntWalk.i64_in _ (by omega);have tm:IntKind.i64.wrap b=b:=IntWalk.i64_in _ (by omega);refine LL hH (C:=(Array.range (b.toNat*z.length)).map (λi=>zv.cells[i % zv.cells.size]!)) (esz:=⟨z.length,e⟩) (by rw[kP];exact X_ (Tj _ _ iY)) (by simp) ?_;have tn:((ei.bytes:Int)*b > 2 ^ 48)=False:=by
         grind
        have pN:(b<0)=False:=by rw[eq_iff_iff,iff_false];omega
        have mK:(a<0)=False:=by rw[eq_iff_iff,iff_false];omega
        have oW:(a > b)=False:=by rw[eq_iff_iff,iff_false];omega
        simp only[execOp];simp only[Instr.makeSlice,zp,Q0 hu,zg,hl.q0h,eL.q0h,asInt,asIntOf,xj,run_typeInfo w hi,ju,tm,tn,pN,mK,oW];simp only[decide_false,y8,Bool.false_or,zm,if_false,run_askRoom,zp,zg,Qe hi];rw[<-ew];by_cases br:b.toNat*z.length=0
        .have jN:∀ f:Nat->Value,(Array.range 0).map f=#[]:=λf=>by simp
         simp only[br,zt,jN];simp[newRow]
        .simp only[br,if_false,Zy hi dG,zp,xj,zg];simp[newRow]
       .cases h
      .cases h
  .cases hc
 case slice t x lo hi mx =>
  have kM:W1 x=true:=by simp at ak;exact ak.1
  have gd:∀ y,lo=some y->W1 y=true:=(by simp_all);have gf:∀ y,hi=some y->W1 y=true:=(by simp_all);have pO:∀ y,mx=some y->W1 y=true:=(by simp_all);have hx:=hE x kM;split at hc
  .rename_i e hu;cases cA:P.info? e with
   |none=>simp[cA] at hc
   |some ei =>
    simp[cA] at hc;subst hc;cases mx with
    |none=>simp[VOp.quiet] at hq
    |some mo =>
     simp only[Q8] at h;split at h
     .rename_i a n cap h1;rw[h1] at hx;split at h
      .simp_all
      .rename_i l hh vW hl kK tq;split at h
       .rename_i m ho hm;have l_:=K3 hE gd hl;have ma:=K3 hE gf kK;have tu:=K3 hE pO hm;obtain⟨ym,km,im,tv,jq,oU,kQ⟩:=tu.resolve_left (λhh=>by cases hh.1);obtain rfl:=osj tv;obtain⟨yh,kh,ih,tw,jo,oT,pP⟩:=ma.resolve_left (λhh=>by cases hh.1);obtain rfl:=osj tw;have kR:=λ(aq:Nat) (h1:l<=hh) (h2:hh<=m) (h3:m<=aq) w'=>Rg (P:=P) (n:=n) (cap:=aq) l_ jo oT pP jq oU kQ h1 h2 h3 w';unfold YK at h;split at h
        .rename_i heq;simp at heq;obtain⟨rfl,rfl,rfl⟩:=heq;obtain⟨_,_,bc⟩:=hx.q1l;split at h
         .rename_i ah;obtain⟨rfl,rfl,dH⟩:=ah;simp at dH;simp at h;obtain⟨rfl,rfl⟩:=h;subst dH;refine⟨.slice none 0 0,w,ρ,.inl ?_,VRel.nilSl,hH,Ext.refl _ _ _⟩;have:=kR 0 (z9 _) (z9 _) (z9 _) w;simp only[yc] at this;simp[execOp,bc,Instr.sliceAt,Instr.slice,Q0 hu,this,Qe cA]
         .cases h
        .rename_i i o n' jm heq;simp at heq;obtain⟨rfl,rfl,rfl⟩:=heq;simp only at h;split at h
         .rename_i c esz wr tight hb;split at h
          .rename_i ah;obtain⟨mG,pI,tx,dY⟩:=ah;obtain⟨ad,aq,bc,aS,aY⟩:=hx.q1c;obtain⟨p,hp,hB⟩:=hH.live i _ hb;have eL:=(aY p hp).1;have b_:=kR aq pI tx (x6 dY eL) w;simp only[yc] at b_;obtain⟨-,oR,⟨oS,gx⟩|⟨o',rfl,dK,fD⟩⟩:=aY p hp
           .split at h
            .rename_i fH;subst fH;simp at h;obtain⟨rfl,rfl⟩:=h;have pQ:hh=m:=by omega
             subst pQ;have gw:∀ j,j<U.n->∀ q,(ρ.put U.n (some ⟨p.blk,p.shift,0,esz,true⟩)) j=some q->ρ j=some q:=λj hj q hq=>by unfold Plc.put at hq;rwa [z7 (by omega)] at hq
             have bj:∀ j,j≠U.n->(ρ.put U.n (some ⟨p.blk,p.shift,0,esz,true⟩)) j=ρ j:=λj hj=>by simp[Plc.put,hj]
             have e_:(ρ.put U.n (some ⟨p.blk,p.shift,0,esz,true⟩)) U.n=some ⟨p.blk,p.shift,0,esz,true⟩:=by simp[Plc.put]
             have gS:∀ B,Wr (ρ.put U.n (some ⟨p.blk,p.shift,0,esz,true⟩)) (U.push (.cells [] esz false true)) B->Wr ρ U B:=by
              rintro B ⟨j,q,b,hq,bY,hw,rfl⟩;by_cases aO:j=U.n
              .subst aO;rw[Heap.q0a] at bY;obtain rfl:=osj bY;cases hw
              .rw[Heap.q0e _ _ aO] at bY;rw[bj j aO] at hq;exact⟨j,q,b,hq,bY,hw,rfl⟩
             refine⟨.slice (some ad) 0 0,w,ρ.put U.n (some ⟨p.blk,p.shift,0,esz,true⟩),.inl ?_,.sl _ _ _ _ _ _ (by simp) (λq hq=>?_),⟨⟨?_,?_,?_,?_⟩,λg cs hg=>⟨(hH.tab g cs hg).1,λhw=>(hH.tab g cs hg).2 (gS g hw)⟩⟩,
              ⟨rfl,rfl,rfl,z9 _,λ_ _ _=>rfl,λB _=>gS B,by simp,gw⟩⟩
             .simp[execOp,bc,Instr.sliceAt,Instr.slice,Q0 hu,b_,Qe cA]
             .omega
             .intro j b hj;by_cases aO:j=U.n
              .subst aO;rw[Heap.q0a] at hj;obtain rfl:=osj hj;obtain⟨C,e0,f0,hC,oM⟩:=hB.2.2.2.1;refine⟨_,e_,rfl,rfl,z9 _,⟨C,e0,f0,hC,?_⟩,λk v hk=>by simp at hk,λhw=>by cases hw⟩
               grind
              .rw[Heap.q0e _ _ aO] at hj;obtain⟨q,hq,eW⟩:=hH.live j b hj;exact⟨q,by rw[bj j aO];exact hq,eW.mono (by simp) gw rfl⟩
             .intro j hj;by_cases aO:j=U.n
              .grind [Heap.q0a]
              .rw[Heap.q0e _ _ aO] at hj;rw[bj j aO];exact hH.dead j hj
             .intro j q hq;by_cases aO:j=U.n
              .subst aO;rw[e_] at hq;obtain rfl:=osj hq;exact hH.lt i p hp
              .rw[bj j aO] at hq;exact hH.lt j q hq
             .intro j k q r b dq hq hr bY hw pR;by_cases aO:j=U.n
              .subst aO;rw[Heap.q0a] at bY;obtain rfl:=osj bY;cases hw
              .rw[Heap.q0e _ _ aO] at bY;rw[bj j aO] at hq;by_cases eX:k=U.n
               .grind
               .rw[bj k eX] at hr;exact hH.sep j k q r b dq hq hr bY hw pR
            .omega
           have dL:p.esz.sz=ei.size:=by rw[hB.1];exact mG
           rw[dL] at dK;split at h
           .rename_i fH;subst fH;simp at h;obtain⟨rfl,rfl⟩:=h;have pQ:hh=m:=by omega
            subst pQ;have gw:∀ j,j<U.n->∀ q,(ρ.put U.n (some ⟨p.blk,p.shift+o',0,esz,true⟩)) j=some q->ρ j=some q:=λj hj q hq=>by unfold Plc.put at hq;rwa [z7 (by omega)] at hq
            have bj:∀ j,j≠U.n->(ρ.put U.n (some ⟨p.blk,p.shift+o',0,esz,true⟩)) j=ρ j:=λj hj=>by simp[Plc.put,hj]
            have e_:(ρ.put U.n (some ⟨p.blk,p.shift+o',0,esz,true⟩)) U.n=some ⟨p.blk,p.shift+o',0,esz,true⟩:=by simp[Plc.put]
            have gS:∀ B,Wr (ρ.put U.n (some ⟨p.blk,p.shift+o',0,esz,true⟩)) (U.push (.cells [] esz false true)) B->Wr ρ U B:=by
             rintro B ⟨j,q,b,hq,bY,hw,rfl⟩;by_cases aO:j=U.n
             .subst aO;rw[Heap.q0a] at bY;obtain rfl:=osj bY;cases hw
             .rw[Heap.q0e _ _ aO] at bY;rw[bj j aO] at hq;exact⟨j,q,b,hq,bY,hw,rfl⟩
            refine⟨.slice (some ⟨p.blk,p.shift+o',none⟩) 0 0,w,ρ.put U.n (some ⟨p.blk,p.shift+o',0,esz,true⟩),.inl ?_,.sl _ _ _ _ _ _ (by simp) (λq hq=>?_),⟨⟨?_,?_,?_,?_⟩,λg cs hg=>⟨(hH.tab g cs hg).1,λhw=>(hH.tab g cs hg).2 (gS g hw)⟩⟩,
             ⟨rfl,rfl,rfl,z9 _,λ_ _ _=>rfl,λB _=>gS B,by simp,gw⟩⟩
            .simp[execOp,bc,Instr.sliceAt,Instr.slice,Q0 hu,b_,Qe cA]
            .omega
            .intro j b hj;by_cases aO:j=U.n
             .subst aO;rw[Heap.q0a] at hj;obtain rfl:=osj hj;obtain⟨C,e0,f0,hC,oM⟩:=hB.2.2.2.1;refine⟨_,e_,rfl,rfl,z9 _,⟨C,e0,f0,hC,?_⟩,λk v hk=>by simp at hk,λhw=>by cases hw⟩
              grind
             .rw[Heap.q0e _ _ aO] at hj;obtain⟨q,hq,eW⟩:=hH.live j b hj;exact⟨q,by rw[bj j aO];exact hq,eW.mono (by simp) gw rfl⟩
            .intro j hj;by_cases aO:j=U.n
             .grind [Heap.q0a]
             .rw[Heap.q0e _ _ aO] at hj;rw[bj j aO];exact hH.dead j hj
            .intro j q hq;by_cases aO:j=U.n
             .subst aO;rw[e_] at hq;obtain rfl:=osj hq;exact hH.lt i p hp
             .rw[bj j aO] at hq;exact hH.lt j q hq
            .intro j k q r b dq hq hr bY hw pR;by_cases aO:j=U.n
             .subst aO;rw[Heap.q0a] at bY;obtain rfl:=osj bY;cases hw
             .rw[Heap.q0e _ _ aO] at bY;rw[bj j aO] at hq;by_cases eX:k=U.n
              .grind
              .rw[bj k eX] at hr;exact hH.sep j k q r b dq hq hr bY hw pR
           rename_i fH;split at h
           .rename_i tz;obtain⟨_,rfl⟩:=tz;simp at h;obtain⟨rfl,rfl⟩:=h;have jL:o'=o:=by
             grind
            subst jL;refine⟨.slice (some ⟨p.blk,p.shift+(o'+l*ei.size),none⟩) (hh-l) (hh-l),w,ρ,.inl ?_,.slx _ _ _ _ _ aS (λq hq=>?_),hH,Ext.refl _ _ _⟩
            .simp[execOp,bc,Instr.sliceAt,Instr.slice,Q0 hu,b_,Qe cA,fH,Wu,zw]
            .obtain rfl:p=q:=osj (hp.symm.trans hq);refine⟨rfl,?_⟩;rw[dL];have:aq=l+((hh-l)+(aq-hh)):=by omega
             grind [Nat.add_mul]
           .simp at h;obtain⟨rfl,rfl⟩:=h;refine⟨.slice (some ⟨p.blk,p.shift+(o'+l*ei.size),none⟩) (hh-l) (m-l),w,ρ,.inl ?_,.sl _ _ _ _ _ _ aS (λq hq=>?_),hH,Ext.refl _ _ _⟩
            .simp[execOp,bc,Instr.sliceAt,Instr.slice,Q0 hu,b_,Qe cA,fH,Wu,zw]
            .obtain rfl:p=q:=osj (hp.symm.trans hq);refine⟨z9 _,λ_=>rfl,.inr ⟨o'+l*ei.size,rfl,?_,?_⟩⟩
             .rw[dL];have:aq=l+((m-l)+(aq-m)):=by omega
              grind [Nat.add_mul]
             omega
          .cases h
         .cases h
        .cases h
       .cases h
      .cases h
     .cases h
  .rename_i hu;split at hc
   .rename_i pJ;cases mx with
    |some m=>simp at pJ
    |none=>simp at hc;subst hc;simp[VOp.quiet] at hq
   .cases hc
  .cases hc
 case call c =>
  split at hc
  .simp at hc;subst hc;simp[VOp.quiet] at hq
  .simp at hc;subst hc;simp[VOp.quiet] at hq
  .split at hc
   .split at hc
    .simp at hc;subst hc;simp[VOp.quiet] at hq
    .simp at hc;subst hc;simp[VOp.quiet] at hq
    .cases hc
   .cases hc
  .rename_i aI;split at hc
   .rename_i t u s x ht pH ax;split at hc
    .rename_i e f hu mb;cases hi:P.info? e with
     |none=>simp[hi] at hc
     |some ei =>
      cases hz:zeroOf P e with
      |none=>simp[hi,hz] at hc
      |some z =>
       obtain⟨ti,zv,cf,dG,gb,ew,iY⟩:=YY hz;obtain rfl:ei=ti:=osj (hi.symm.trans cf);simp only[hi,hz,zy,xi] at hc;split at hc
       .cases hc
       .rename_i ah;simp at ah;obtain⟨gU,tA⟩:=ah;simp at hc;subst hc;have cI:c.args=#[s,x]:=by apply Array.ext';simpa using ax
        simp[Call.operands,aI,cI] at ak;have hs:=hE s ak.1;have hx:=hE x ak.2;have mL:(Builtin.append_ c.argTypes ty #[ev s,ev x])=(Builtin.append_ #[t,u] ty #[ev s,ev x]):=by unfold Builtin.append_;simp[ht,pH]
        have aW:∀ r w',(Builtin.append_ #[t,u] ty #[ev s,ev x]).run P w=.ok r w'->(execOp ev {dst:=dst,op:=.call c,type:=ty,pos:=pos,after:=after,guard:=guard}).run P w=.ok (.value r) w':=λr w' hr=>by simp[execOp,resolve,aI,cI,invoke,builtin,mL,hr]
        simp only[Q8] at h;split at h
        .rename_i xs a m kO bH mM;rw[mM] at hx;split at h
         .rename_i mN;rw[mM] at bH;exact Q06 hH hu mb hi dG gb ew tA ty hs hx bH mN h aW
         .cases h
        .cases h
    .cases hc
   .cases hc
  .split at hc
   .simp at hc;subst hc;simp[VOp.quiet] at hq
   .simp at hc;subst hc;simp[VOp.quiet] at hq
   .simp at hc;subst hc;simp[VOp.quiet] at hq
   .cases hc
  .split at hc
   .simp at hc;subst hc;simp[VOp.quiet] at hq
   .cases hc
  .cases hc
 case move x=>simp at hc;subst hc;simp[VOp.quiet] at hq
 case assign x=>simp at hc;subst hc;simp[VOp.quiet] at hq
 case pick c a b=>simp at hc;subst hc;simp[VOp.quiet] at hq
 case unOp=>simp at hc;subst hc;simp[VOp.quiet] at hq
 case extract=>simp at hc;subst hc;simp[VOp.quiet] at hq
 case nilCheck=>simp at hc;subst hc;simp[VOp.quiet] at hq
 all_goals
  repeat' first
   |(cases hc;done)
   |(simp at hc;subst hc;simp[VOp.quiet] at hq;done)
   |split at hc
 all_goals simp only[zy,zY,reduceCtorEq,and_false,exists_false] at hc
 all_goals first
  |(obtain⟨_,_,rfl⟩:=hc;simp[VOp.quiet] at hq;done)
  |(obtain⟨_,_,hc⟩:=hc;simp at hc;subst hc;simp[VOp.quiet] at hq;done)
  |(obtain⟨_,_,_,_,hc⟩:=hc;simp at hc;subst hc;simp[VOp.quiet] at hq;done)
  |(obtain⟨_,_,_,_,_,_,hc⟩:=hc;simp at hc;subst hc;simp[VOp.quiet] at hq;done)
  |(obtain⟨d,_,hc⟩:=hc;cases d<;>simp at hc<;>subst hc<;>simp[VOp.quiet] at hq;done)
  |(obtain⟨_,_,_,_,hc⟩:=hc;split at hc<;>simp at hc;subst hc;simp[VOp.quiet] at hq;done)
end
end Go.V
namespace Go.V
open Go
section
variable {P:Program}{ρ:Plc}{U U':Heap}{w:World}{ev:Operand->Value}{env:Env}{v:Value}
theorem VRel.q0q {n:Nat}{c:Value}(h:VRel ρ n (.pointer none) c):c=.pointer none:=by cases h;rfl
theorem VRel.q1j {n:Nat}{a:Addr}{c:Value}(h:VRel ρ n (.pointer (some a)) c):∃ b,c=.pointer (some b):=by cases h<;>exact⟨_,rfl⟩
theorem VRel.q0t {n:Nat}{c:Value}(h:VRel ρ n (.map none) c):c=.map none:=by cases h;rfl
theorem VRel.q1i {n:Nat}{m:Nat}{c:Value}(h:VRel ρ n (.map (some m)) c):∃ r,c=.map (some r)/\m<n/\∀ p,ρ m=some p->r=p.blk:=by
 cases h with
 |map _ r hi h=>exact⟨r,rfl,hi,h⟩
theorem VRel.q1b {n:Nat}{c:Value}(h:VRel ρ n .nilFunc c):c=.nilFunc:=by cases h;rfl
theorem VRel.q1o {n:Nat}{f:Fn}{a b:Array Value}{c:Value}(h:VRel ρ n (.func f a b) c):∃ g a' b',c=.func g a' b':=by cases h<;>exact⟨_,_,_,rfl⟩
theorem VRel.q1r {n:Nat}{a:Addr}{l k:Nat}{c:Value}(h:VRel ρ n (.slice (some a) l k) c):∃ b k',c=.slice (some b) l k':=by cases h<;>exact⟨_,_,rfl⟩
theorem VRel.q0y {n:Nat}{l k:Nat}{c:Value}(h:VRel ρ n (.slice none l k) c):c=.slice none 0 0:=by cases h;rfl
theorem Q32 (neg:Bool) (t:TypeId) (x y:Operand) (yt:TypeId) (ty:TypeId) (pos:String) (after:Array Edge) (dst:Option Tmp) (g:Option (Nat×Bool)) {a b:Value}{r:Bool}(hx:ev x=a) (hy:ev y=b)
  (hg:∀ op w',(eqGuard op t x y a b).run P w'=.ok () w') (h:∀ w',(binOp (if neg then .neq else .eql) t a b).run P w'=.ok (.bool (if neg then !r else r)) w') :
  Q00 P ρ U w (.bool (if neg then !r else r)) (execOp ev ⟨dst,.binOp (if neg then .neq else .eql) t x y yt,ty,pos,after,g⟩):=by
 refine Qq (c:=.bool (if neg then !r else r)) (λw'=>?_) (.bool _);simp only[execOp,hx,hy];simp[hg,h]
theorem I2 (op:BinOp) (t:TypeId) (x y:Operand) {a b:Value}(h:(∀ p q,¬ (a=.nilIface/\b=.nilIface)/\¬ (a=.agg p/\b=.agg q))) (w':World):(eqGuard op t x y a b).run P w'=.ok () w':=by
 have key:∀ op,op=.eql\/op=.neq->(eqGuard op t x y a b).run P w'=.ok () w':=by
  intro op ho;unfold eqGuard;rcases ho with rfl|rfl
  all_goals
   simp only[y7,zm,if_false];split
   .simp_all
   .simp_all
   .rfl
 cases op<;>first|exact key _ (.inl rfl)|exact key _ (.inr rfl)|rfl
theorem JI {t:TypeId}{a b:Value}{r:Bool}(h:∀ d w',(Op.equalIn (d+1) t a b).run P w'=.ok r w')
  (hb:∀ neg:Bool,binOp (if neg then .neq else .eql) t a b=(do let r <-Op.equal t a b;pure (.bool (if neg then !r else r)))) (neg:Bool) (w':World) :
  (binOp (if neg then .neq else .eql) t a b).run P w'=.ok (.bool (if neg then !r else r)) w':=by
 rw[hb,zp];have:(Op.equal t a b).run P w'=.ok r w':=h 9999 w';rw[this];rfl
theorem Q3o {kd:Nat}{t:TypeId}{a b c d:Value}{r:Bool}(hH:HRel ρ U w) (hk:(kd=0/\∃ e i,P.underlying t=some (.pointer e)/\P.info? e=some i)\/(kd=1/\∃ e,P.underlying t=some (.slice e)) \/
   (kd=2/\∃ k e,P.underlying t=some (.map k e))\/(kd=3/\∃ p q s,P.underlying t=some (.func p q s)))
  (ha:VRel ρ U.n a c) (hb:VRel ρ U.n b d) (h:Y3 kd a b U=some r):(∀ (neg:Bool) w',(binOp (if neg then .neq else .eql) t c d).run P w'=.ok (.bool (if neg then !r else r)) w')/\(∀ p q,¬ (c=.nilIface/\d=.nilIface)/\¬ (c=.agg p/\d=.agg q)):=by
 unfold Y3 at h;split at h
 .obtain rfl:=ha.q0q;obtain rfl:=hb.q0q;simp at h;subst h;rcases hk with⟨_,e,i,h1,h2⟩|⟨h0,_⟩|⟨h0,_⟩|⟨h0,_⟩<;>try (cases h0)
  exact⟨JI (λd w'=>by simp[Op.equalIn,Q0 h1]) (λneg=>by cases neg<;>rfl),by simp⟩
 .obtain rfl:=ha.q0q;obtain⟨q,rfl⟩:=hb.q1j;simp at h;subst h;rcases hk with⟨_,e,i,h1,h2⟩|⟨h0,_⟩|⟨h0,_⟩|⟨h0,_⟩<;>try (cases h0)
  exact⟨JI (λd w'=>by simp[Op.equalIn,Q0 h1]) (λneg=>by cases neg<;>rfl),by simp⟩
 .obtain⟨q,rfl⟩:=ha.q1j;obtain rfl:=hb.q0q;simp at h;subst h;rcases hk with⟨_,e,i,h1,h2⟩|⟨h0,_⟩|⟨h0,_⟩|⟨h0,_⟩<;>try (cases h0)
  exact⟨JI (λd w'=>by simp[Op.equalIn,Q0 h1]) (λneg=>by cases neg<;>rfl),by simp⟩
 .rename_i i o j q;split at h
  .rename_i hc;obtain⟨rfl,rfl,hs⟩:=hc;simp at h;subst h;rcases hk with⟨_,e,i',h1,h2⟩|⟨h0,_⟩|⟨h0,_⟩|⟨h0,_⟩<;>try (cases h0)
   obtain⟨blk,aD⟩:=Option.isSome_iff_exists.1 hs;obtain⟨p,hp,_⟩:=hH.live _ _ aD;obtain⟨_,_,rfl⟩:=ha.q0w hp;obtain⟨_,_,rfl⟩:=hb.q0w hp;exact⟨JI (λd w'=>by simp[Op.equalIn,Q0 h1,sizeOf,typeInfo,h2,run_sameAddr_same]) (λneg=>by cases neg<;>rfl),by simp⟩
  .cases h
 .obtain rfl:=ha.q0y;obtain rfl:=hb.q0y;simp at h;subst h;rcases hk with⟨h0,_⟩|⟨_,e,h1⟩|⟨h0,_⟩|⟨h0,_⟩<;>try (cases h0)
  exact⟨JI (λd w'=>by simp[Op.equalIn,Q0 h1]) (λneg=>by cases neg<;>rfl),by simp⟩
 .obtain rfl:=ha.q0y;obtain⟨_,_,rfl⟩:=hb.q1r;simp at h;subst h;rcases hk with⟨h0,_⟩|⟨_,e,h1⟩|⟨h0,_⟩|⟨h0,_⟩<;>try (cases h0)
  exact⟨JI (λd w'=>by simp[Op.equalIn,Q0 h1]) (λneg=>by cases neg<;>rfl),by simp⟩
 .obtain⟨_,_,rfl⟩:=ha.q1r;obtain rfl:=hb.q0y;simp at h;subst h;rcases hk with⟨h0,_⟩|⟨_,e,h1⟩|⟨h0,_⟩|⟨h0,_⟩<;>try (cases h0)
  exact⟨JI (λd w'=>by simp[Op.equalIn,Q0 h1]) (λneg=>by cases neg<;>rfl),by simp⟩
 .obtain rfl:=ha.q0t;obtain rfl:=hb.q0t;simp at h;subst h;rcases hk with⟨h0,_⟩|⟨h0,_⟩|⟨_,k,e,h1⟩|⟨h0,_⟩<;>try (cases h0)
  exact⟨JI (λd w'=>by simp[Op.equalIn,Q0 h1]) (λneg=>by cases neg<;>rfl),by simp⟩
 .obtain rfl:=ha.q0t;obtain⟨_,rfl,_⟩:=hb.q1i;simp at h;subst h;rcases hk with⟨h0,_⟩|⟨h0,_⟩|⟨_,k,e,h1⟩|⟨h0,_⟩<;>try (cases h0)
  exact⟨JI (λd w'=>by simp[Op.equalIn,Q0 h1]) (λneg=>by cases neg<;>rfl),by simp⟩
 .obtain⟨_,rfl,_⟩:=ha.q1i;obtain rfl:=hb.q0t;simp at h;subst h;rcases hk with⟨h0,_⟩|⟨h0,_⟩|⟨_,k,e,h1⟩|⟨h0,_⟩<;>try (cases h0)
  exact⟨JI (λd w'=>by simp[Op.equalIn,Q0 h1]) (λneg=>by cases neg<;>rfl),by simp⟩
 .obtain rfl:=ha.q1b;obtain rfl:=hb.q1b;simp at h;subst h;rcases hk with⟨h0,_⟩|⟨h0,_⟩|⟨h0,_⟩|⟨_,p,q,s,h1⟩<;>try (cases h0)
  exact⟨JI (λd w'=>by simp[Op.equalIn,Q0 h1]) (λneg=>by cases neg<;>rfl),by simp⟩
 .obtain rfl:=ha.q1b;obtain⟨_,_,_,rfl⟩:=hb.q1o;simp at h;subst h;rcases hk with⟨h0,_⟩|⟨h0,_⟩|⟨h0,_⟩|⟨_,p,q,s,h1⟩<;>try (cases h0)
  exact⟨JI (λd w'=>by simp[Op.equalIn,Q0 h1]) (λneg=>by cases neg<;>rfl),by simp⟩
 .obtain⟨_,_,_,rfl⟩:=ha.q1o;obtain rfl:=hb.q1b;simp at h;subst h;rcases hk with⟨h0,_⟩|⟨h0,_⟩|⟨h0,_⟩|⟨_,p,q,s,h1⟩<;>try (cases h0)
  exact⟨JI (λd w'=>by simp[Op.equalIn,Q0 h1]) (λneg=>by cases neg<;>rfl),by simp⟩
 .cases h
def Z79 (ρ:Plc) (n:Nat) (e:MapEntry) (kv:JO):Prop:=e.key=kv.1/\e.born=kv.2.2/\VRel ρ n kv.2.1 e.val
def LERel (ρ:Plc) (n:Nat) (E:List MapEntry) (es:List JO):Prop:=E.length=es.length/\∀ (k:Nat) (e:MapEntry) (kv:JO),E[k]?=some e->es[k]?=some kv->Z79 ρ n e kv
theorem LERel.cons_inv {n:Nat}{E:List MapEntry}{es:List JO}{kv:JO}(h:LERel ρ n E (kv::es)):∃ e E',E=e::E'/\Z79 ρ n e kv/\LERel ρ n E' es:=by
 cases E with
 |nil=>have:=h.1;simp at this
 |cons e E'=>exact⟨e,E',rfl,h.2 0 e kv rfl rfl,by have:=h.1;simpa using this,λk a b ha hb=>h.2 (k+1) a b (by simpa using ha) (by simpa using hb)⟩
theorem ORel.q0s {n:Nat}{es:List JO}{clock:Nat}{O:Obj}:ORel ρ n (.map es clock) O<->∃ entries,O=.map entries clock/\LERel ρ n entries.toList es:=by
 constructor
 .rintro⟨entries,h1,h2,h3⟩;refine⟨entries,h1,by simpa using h2,λk e kv he dN=>?_⟩;obtain⟨e',h4,h5,h6,h7⟩:=h3 k kv dN;have:e=e':=by
   simp_all
  subst this;exact⟨h5,h6,h7⟩
 .rintro⟨entries,h1,h2,h3⟩;refine⟨entries,h1,by simpa using h2,λk kv dN=>?_⟩;have hk:k<es.length:=(zq.1 dN).1;have oN:k<entries.toList.length:=by omega
  obtain⟨h4,h5,h6⟩:=h3 k entries.toList[k] kv (z8 oN) dN;simp_all
theorem Wq:∀ {s:List MK}{l:List Value},fits s l=true->l.length=s.length
 |[],[],_=>rfl
 |_::s,_::l,h=>by simp only[fits,z0] at h;simp[Wq h.2]
 |[],_::_,h=>by cases h
 |_::_,[],h=>by cases h
theorem M3:∀ {s r:List MK}{l:List Value},fits (s++r) l=true->fits s (l.take s.length)=true/\fits r (l.drop s.length)=true
 |[],r,l,h=>by simpa [fits] using h
 |k::s,r,[],h=>by cases h
 |k::s,r,v::l,h=>by simp only[xq,fits,z0] at h;obtain⟨h1,h2⟩:=M3 h.2;simp only[zV,y6,yf,fits,z0];exact⟨⟨h.1,h1⟩,h2⟩
theorem Gz:∀ (n:Nat) (l m:List Value),l.length=m.length->QD l m=(QD (l.take n) (m.take n)&&QD (l.drop n) (m.drop n))
 |0,l,m,_=>by simp[QD]
 |n+1,[],[],_=>by simp[QD]
 |n+1,a::l,b::m,h=>by simp only[QD,y6,yf];rw[Gz n l m (by simpa using h),Bool.and_assoc]
 |n+1,[],_::_,h=>by simp at h
 |n+1,_::_,[],h=>by simp at h
def mkT (P:Program) (t:TypeId) (cs:List Value):Value:=match P.underlying t with
 |some (.struct _)=>.agg cs.toArray
 |some (.array _ _)=>.agg cs.toArray
 |_=>cs.headD undef
theorem B5 {m:Nat}{t:TypeId}{s:List MK}(hs:shp P m t=some s) (hc:P.cellsOf t=s.length) {xs:Array Value}{off:Nat}(hf:fits s ((xs.toList.drop off).take s.length)=true) (w:World) :
  (part t xs off).run P w=.ok (mkT P t ((xs.toList.drop off).take s.length)) w:=by
 cases m with
 |zero=>simp[shp] at hs
 |succ m =>
  simp only[shp] at hs;have plain:∀ kd,P.underlying t=some kd->(∀ n e,kd≠.array n e)->(∀ fs,kd≠.struct fs)->s.length=1->(part t xs off).run P w=.ok (mkT P t ((xs.toList.drop off).take s.length)) w:=λkd hu h1 h2 h3=>by
   have hl:=Wq hf;rw[h3] at hl |-;have aj:off<xs.size:=by
    grind
   have e:(xs.toList.drop off).take 1=[xs[off]]:=by
    grind [List.drop_eq_getElem_cons]
   rw[e];have:mkT P t [xs[off]]=xs[off]:=by unfold mkT;simp_all
   rw[this];cases kd<;>first|(exact absurd rfl (h1 _ _))|(exact absurd rfl (h2 _))|simp[part,isAgg,run_underlying hu,xI aj]
  have agg:∀ kd,P.underlying t=some kd->((∃ n e,kd=.array n e)\/∃ fs,kd=.struct fs)->(part t xs off).run P w=.ok (mkT P t ((xs.toList.drop off).take s.length)) w:=λkd hu hk=>by
   obtain⟨i,hi⟩:=info_of_underlying hu;have hl:(xs.extract off (off+P.cellsOf t))=((xs.toList.drop off).take s.length).toArray:=by
    grind
   rcases hk with⟨n,e,rfl⟩|⟨fs,rfl⟩<;>simp[part,isAgg,run_underlying hu,run_sizeOf w hi,hl,mkT,hu]
  cases hu:P.underlying t with
  |none=>rw[hu] at hs;cases hs
  |some kd =>
   rw[hu] at hs;cases kd
   case bool=>grind
   case int q=>grind
   case string=>grind
   case array n e=>exact agg _ hu (.inl ⟨_,_,rfl⟩)
   case struct fs=>exact agg _ hu (.inr ⟨_,rfl⟩)
   all_goals cases hs
theorem Q2d {g:TypeId->Option (List MK)}{m d:Nat}(hg:g=shp P m) (ih:∀ t s,shp P m t=some s->∀ (w:World) (cs ds:List Value),fits s cs=true->fits s ds=true->(Op.equalIn (d+m) t (mkT P t cs) (mkT P t ds)).run P w=.ok (QD cs ds) w) {xs ys:Array Value}(w:World) :
  ∀ (fs:List Field) (off:Nat) (ss:List MK),Q1c P g fs off=some ss->fits ss (xs.toList.drop off)=true->fits ss (ys.toList.drop off)=true->(Op.eqFields (d+m) xs ys fs).run P w=.ok (QD (xs.toList.drop off) (ys.toList.drop off)) w
 |[],off,ss,h,h1,h2=>by simp only[Q1c,xp] at h;subst h;have e1:=Wq h1;have e2:=Wq h2;rw[List.eq_nil_of_length_eq_zero e1];simp[Op.eqFields,QD]
 |f::r,off,ss,h,h1,h2=>by
  simp only[Q1c] at h;split at h
  .rename_i hn;obtain⟨hn,rfl⟩:=hn;split at h
   .rename_i s hs;split at h
    .rename_i hc;obtain⟨q,hq,rfl⟩:=zi.1 h;obtain⟨a1,a2⟩:=M3 h1;obtain⟨b1,b2⟩:=M3 h2;rw[List.drop_drop] at a2 b2;rw[hg] at hs;have p1:=B5 hs hc a1 w;have p2:=B5 hs hc b1 w;have p3:=ih f.type s hs w _ _ a1 b1;have hr:=Q2d hg ih w r (f.offset+s.length) q hq a2 b2;rw[Gz s.length _ _ (by rw[Wq h1,Wq h2]),List.drop_drop,List.drop_drop];simp only[Op.eqFields,hn,ne_eq,not_false_eq_true,zt,zp,p1,p2,p3,zg];cases hb:QD (List.take s.length (List.drop f.offset xs.toList)) (List.take s.length (List.drop f.offset ys.toList)) with
     |false=>simp
     |true=>simpa using hr
    .cases h
   .cases h
  .cases h
theorem Lc {m d:Nat}{e:TypeId}{s:List MK}(hs:shp P m e=some s) (hc:P.cellsOf e=s.length) (ih:∀ (w:World) (cs ds:List Value),fits s cs=true->fits s ds=true->(Op.equalIn (d+m) e (mkT P e cs) (mkT P e ds)).run P w=.ok (QD cs ds) w) {xs ys:Array Value}(w:World) :
  ∀ (k i:Nat),fits (List.replicate k s).flatten (xs.toList.drop (i*s.length))=true->fits (List.replicate k s).flatten (ys.toList.drop (i*s.length))=true->(Op.eqItems (d+m) e (P.cellsOf e) xs ys (List.range' i k)).run P w=.ok (QD (xs.toList.drop (i*s.length)) (ys.toList.drop (i*s.length))) w
 |0,i,h1,h2=>by have e1:=Wq h1;have e2:=Wq h2;simp only[List.replicate_zero,List.flatten_nil,List.length_nil] at e1 e2;rw[List.eq_nil_of_length_eq_zero e1];simp[Op.eqItems,QD]
 |k+1,i,h1,h2=>by
  rw[xw,List.flatten_cons] at h1 h2;obtain⟨a1,a2⟩:=M3 h1;obtain⟨b1,b2⟩:=M3 h2;rw[List.drop_drop,<-Nat.succ_mul] at a2 b2;have p1:=B5 hs hc a1 w;have p2:=B5 hs hc b1 w;have p3:=ih w _ _ a1 b1;have hr:=Lc hs hc ih w k (i+1) a2 b2;rw[Gz s.length _ _ (by rw[Wq h1,Wq h2]),List.drop_drop,List.drop_drop,<-Nat.succ_mul];rw[hc] at hr |-;simp only[List.range'_succ,Op.eqItems,zp,p1,p2,p3,zg];cases hb:QD (List.take s.length (List.drop (i*s.length) xs.toList)) (List.take s.length (List.drop (i*s.length) ys.toList)) with
  |false=>simp
  |true=>simpa using hr
theorem Mn (d:Nat):∀ (m:Nat) (t:TypeId) (s:List MK),shp P m t=some s->∀ (w:World) (cs ds:List Value),fits s cs=true->fits s ds=true->(Op.equalIn (d+m) t (mkT P t cs) (mkT P t ds)).run P w=.ok (QD cs ds) w
 |0,t,s,h=>by simp[shp] at h
 |m+1,t,s,h=>by
  intro w cs ds h1 h2;simp only[shp] at h;have one:∀ {k:MK}{cs:List Value},fits [k] cs=true->∃ a,cs=[a]/\Z0q k a=true:=λ{k cs} h=>by
   cases cs with
   |nil=>cases h
   |cons a l =>
    cases l with
    |nil=>exact⟨a,rfl,by simpa [fits] using h⟩
    |cons b l=>simp[fits] at h
  cases hu:P.underlying t with
  |none=>rw[hu] at h;cases h
  |some kd =>
   rw[hu] at h;cases kd
   case bool =>
    obtain rfl:=osj h;obtain⟨a,rfl,ha⟩:=one h1;obtain⟨b,rfl,hb⟩:=one h2;cases a<;>first|(cases ha;done)|skip
    cases b<;>first|(cases hb;done)|skip
    simp only[mkT,hu,List.headD_cons,QD,UE,xW];exact run_equalIn_bool' w (d+m) t _ _ hu
   case int q =>
    obtain rfl:=osj h;obtain⟨a,rfl,ha⟩:=one h1;obtain⟨b,rfl,hb⟩:=one h2;cases a<;>first|(cases ha;done)|skip
    cases b<;>first|(cases hb;done)|skip
    simp only[Z0q,zh] at ha hb;subst ha;subst hb;simp only[mkT,hu,List.headD_cons,QD,UE,xW]
    grind [run_equalIn_int]
   case string =>
    obtain rfl:=osj h;obtain⟨a,rfl,ha⟩:=one h1;obtain⟨b,rfl,hb⟩:=one h2;cases a<;>first|(cases ha;done)|skip
    cases b<;>first|(cases hb;done)|skip
    simp only[mkT,hu,List.headD_cons,QD,UE,xW]
    grind [ByteArray.toList_eq,run_equalIn_string]
   case array n e =>
    simp only at h;split at h
    .rename_i s' a_;split at h
     .rename_i hc;obtain rfl:=osj h;obtain⟨i,hi⟩:∃ i,P.info? e=some i:=by
       cases m with
       |zero=>simp[shp] at a_
       |succ m =>
        simp only[shp] at a_;cases jl:P.underlying e with
        |none=>rw[jl] at a_;cases a_
        |some _=>exact info_of_underlying jl
      simp only[mkT,hu];rw[show d+(m+1)=(d+m)+1 from rfl,run_equalIn_array w (d+m) _ _ hu hi,List.range_eq_range'];have:=Lc (d:=d) a_ hc (Mn d m e s' a_) (xs:=cs.toArray) (ys:=ds.toArray) w n 0 (by simpa using h1) (by simpa using h2);simpa using this
     .cases h
    .cases h
   case struct fs =>
    simp only at h;split at h
    .cases h
    .rename_i a9;have oQ:P.fieldsOf t=fs:=by simp[Program.fieldsOf,hu]
     simp only[mkT,hu];rw[show d+(m+1)=(d+m)+1 from rfl,run_equalIn_struct w (d+m) t _ _ (by rw[oQ];exact hu) (by simpa using a9),oQ];have:=Q2d (d:=d) rfl (Mn d m) (xs:=cs.toArray) (ys:=ds.toArray) w fs.toList 0 s h (by simpa using h1) (by simpa using h2);simpa using this
   all_goals cases h
theorem Sn {n:Nat}:∀ {s:List MK}{l m:List Value},fits s l=true->LRel ρ n l m->m=l
 |[],[],m,_,hr=>by have:=hr.1;grind
 |k::s,v::l,[],_,hr=>by have:=hr.1;simp at this
 |k::s,v::l,c::m,h,hr=>by
  simp only[fits,z0] at h;have h0:=hr.2 0 v c rfl rfl;have e:c=v:=by cases k<;>cases v<;>first|(cases h.1;done)|(cases h0;rfl)
  have iq:LRel ρ n l m:=⟨by have:=hr.1;simpa using this,λi a b ha hb=>hr.2 (i+1) a b (by simpa using ha) (by simpa using hb)⟩;rw[e,Sn h.2 iq]
 |[],_::_,_,h,_=>by cases h
 |_::_,[],_,h,_=>by cases h
def Z0m (P:Program) (t:TypeId):MK->TypeDesc->Prop
 |.int k,d=>d=.int k
 |.string,d=>d=.string
 |.bool,d=>d=.bool
 |.agg s,d=>shp P 8 t=some s/\((∃ fs,d=.struct fs)\/∃ n e,d=.array n e)
theorem Dm {t:TypeId}{mk:MK}(h:II P t=some mk):∃ d,P.underlying t=some d/\Z0m P t mk d:=by
 unfold II at h;split at h
 .rename_i k hk;simp at h;subst h;exact⟨_,hk,rfl⟩
 .rename_i hk;simp at h;subst h;exact⟨_,hk,rfl⟩
 .rename_i hk;simp at h;subst h;exact⟨_,hk,rfl⟩
 .rename_i fs hk;obtain⟨s,hs,rfl⟩:=zi.1 h;exact⟨_,hk,hs,.inl ⟨fs,rfl⟩⟩
 .rename_i n e hk;obtain⟨s,hs,rfl⟩:=zi.1 h;exact⟨_,hk,hs,.inr ⟨n,e,rfl⟩⟩
 .cases h
theorem V7 {n:Nat}{v c:Value}(h:Zl v=true) (hv:VRel ρ n v c):c=v:=by cases hv<;>first|rfl|(simp[Zl,poison] at h)
theorem Lv {mk:MK}{k c:Value}{n:Nat}(h:ZF mk k=true) (hv:VRel ρ n k c):c=k:=by
 unfold ZF at h;split at h<;>first|(cases h;done)|(exact V7 rfl hv)|skip
 obtain⟨ds,rfl,hl⟩:=hv.q1k
 grind [Sn,Array.toList_inj]
def MK.plain:MK->Bool
 |.agg _=>false
 |_=>true
theorem Q4c {mk:MK}(hp:mk.plain=true) {t:TypeId}{d:TypeDesc}(hd:Z0m P t mk d) {a b:Value}(ha:ZF mk a=true) (hb:ZF mk b=true):Instr.sameNow d a b=some (XT a b):=by
 cases mk
 case agg=>cases hp
 all_goals
  cases a<;>first|(cases ha;done)|skip
  cases b<;>first|(cases hb;done)|skip
  simp only[Z0m] at hd;subst hd
 .simp[ZF] at ha hb;subst ha;subst hb;simp[Instr.sameNow,XT]
 .simp[Instr.sameNow,XT,beq_toListBytes,ByteArray.toList_eq]
 .simp[Instr.sameNow,XT]
theorem AY:∀ {s:List MK}{l m:List Value},fits s l=true->fits s m=true->QD l m=true->((m.zip l).all λp=>Instr.sameBits 9999 p.1 p.2)=true
 |[],[],[],_,_,_=>rfl
 |k::s,a::l,b::m,h1,h2,h3=>by
  simp only[fits,QD,z0] at h1 h2 h3;simp only[List.zip_cons_cons,zP,z0];refine⟨?_,AY h1.2 h2.2 h3.2⟩;obtain⟨h1,_⟩:=h1;obtain⟨h2,_⟩:=h2;obtain⟨h3,_⟩:=h3;cases k<;>cases a<;>first|(cases h1;done)|(cases b<;>first|(cases h2;done)|skip)
  .simp only[Z0q,zh] at h1 h2;subst h1;subst h2;simp only[UE,zX] at h3;subst h3;simp[Instr.sameBits]
  .simp only[UE,zX] at h3;simp[Instr.sameBits,beq_toListBytes,ByteArray.toList_eq,h3]
  .simp only[UE,zX] at h3;subst h3;simp[Instr.sameBits]
 |[],_::_,_,h,_,_=>by cases h
 |[],[],_::_,_,h,_=>by cases h
 |_::_,[],_,h,_,_=>by cases h
 |_::_,_::_,[],_,h,_=>by cases h
theorem Hw {mk:MK}{a b:Value}(ha:ZF mk a=true) (hb:ZF mk b=true) (h:XT a b=true):Instr.sameBits 10000 b a=true:=by
 cases mk
 case agg s =>
  cases a<;>first|(cases ha;done)|skip
  cases b<;>first|(cases hb;done)|skip
  rename_i x y;simp only[ZF] at ha hb;simp only[XT] at h;simp only[Instr.sameBits,z0,zX];have h1:=Wq ha;have h2:=Wq hb
  grind [AY]
 all_goals
  cases a<;>first|(cases ha;done)|skip
  cases b<;>first|(cases hb;done)|skip
 .simp[ZF] at ha hb;subst ha;subst hb;simp[XT] at h;subst h;simp[Instr.sameBits]
 .simp[XT] at h;simp[Instr.sameBits,beq_toListBytes,ByteArray.toList_eq,h]
 .simp[XT] at h;simp[Instr.sameBits,h]
theorem V2 {t:TypeId}{d:TypeDesc}(hd:P.underlying t=some d) {a:Value}(hm:(∃ k,d=.int k)\/d=.string\/d=.bool) (e:Bool) (n:Nat) (w':World):(Instr.checkKey e (n+1) t a).run P w'=.ok () w':=by simp only[Instr.checkKey,zp,Q0 hd,zg];rcases hm with⟨k,rfl⟩|rfl|rfl<;>rfl
theorem Q2t {e:Bool}{g:TypeId->Option (List MK)}{m d:Nat}(hg:g=shp P m) (ih:∀ t s,shp P m t=some s->∀ (w:World) (cs:List Value),fits s cs=true->(Instr.checkKey e (d+m) t (mkT P t cs)).run P w=.ok () w) {xs:Array Value}(w:World) :
  ∀ (fs:List Field) (off:Nat) (ss:List MK),Q1c P g fs off=some ss->fits ss (xs.toList.drop off)=true->(forIn fs PUnit.unit λf (_:PUnit)=>(do
   if f.name≠"_" then Instr.checkKey e (d+m) f.type (<-part f.type xs f.offset)
   pure (ForInStep.yield PUnit.unit):Sem (ForInStep PUnit))).run P w=.ok PUnit.unit w
 |[],off,ss,h,h1=>by simp
 |f::r,off,ss,h,h1=>by
  simp only[Q1c] at h;split at h
  .rename_i hn;obtain⟨hn,rfl⟩:=hn;split at h
   .rename_i s hs;split at h
    .rename_i hc;obtain⟨q,hq,rfl⟩:=zi.1 h;obtain⟨a1,a2⟩:=M3 h1;rw[List.drop_drop] at a2;rw[hg] at hs;have p1:=B5 hs hc a1 w;have p3:=ih f.type s hs w _ a1;have hr:=Q2t hg ih w r (f.offset+s.length) q hq a2;simp_all
    .cases h
   .cases h
  .cases h
theorem Lg (e:Bool) (d:Nat):∀ (m:Nat) (t:TypeId) (s:List MK),shp P m t=some s->∀ (w:World) (cs:List Value),fits s cs=true->(Instr.checkKey e (d+m) t (mkT P t cs)).run P w=.ok () w
 |0,t,s,h=>by simp[shp] at h
 |m+1,t,s,h=>by
  intro w cs h1;simp only[shp] at h;cases hu:P.underlying t with
  |none=>rw[hu] at h;cases h
  |some kd =>
   rw[hu] at h;cases kd
   case bool=>grind [V2]
   case int q=>grind [V2]
   case string=>rw[show d+(m+1)=(d+m)+1 from rfl];exact V2 hu (by simp) e (d+m) w
   case array n el =>
    simp only at h;split at h
    .rename_i s' a_;split at h
     .rename_i hc;obtain rfl:=osj h;obtain⟨i,hi⟩:∃ i,P.info? el=some i:=by
       cases m with
       |zero=>simp[shp] at a_
       |succ m =>
        simp only[shp] at a_;cases jl:P.underlying el with
        |none=>rw[jl] at a_;cases a_
        |some _=>exact info_of_underlying jl
      simp only[mkT,hu];rw[show d+(m+1)=(d+m)+1 from rfl,Instr.checkKey];simp only[zp,run_underlying hu,zg];simp only[Std.Legacy.Range.forIn_eq_forIn_range',Std.Legacy.Range.size,Nat.sub_zero,Nat.add_one_sub_one,Nat.div_one]
      have key:∀ (k i:Nat),fits (List.replicate k s').flatten (cs.drop (i*s'.length))=true->(forIn (List.range' i k) PUnit.unit λi (_:PUnit)=>(do
        Instr.checkKey e (d+m) el (<-part el cs.toArray (i*(<-sizeOf el)))
        pure (ForInStep.yield PUnit.unit):Sem (ForInStep PUnit))).run P w=.ok PUnit.unit w:=by
       intro k;induction k with
       |zero=>intro i _;simp
       |succ k tB =>intro i hf;rw[xw,List.flatten_cons] at hf;obtain⟨a1,a2⟩:=M3 hf;rw[List.drop_drop,<-Nat.succ_mul] at a2;have p1:=B5 (xs:=cs.toArray) (off:=i*s'.length) a_ hc (by simpa using a1) w;have p2:=Lg e d m el s' a_ w _ a1;have hr:=tB (i+1) a2;simp only[List.range'_succ,List.forIn_cons,zp,run_sizeOf w hi,hc,zg,p1,p2,xj];exact hr
      simp_all
     .cases h
    .cases h
   case struct fs =>
    simp only at h;split at h
    .cases h
    .simp only[mkT,hu];rw[show d+(m+1)=(d+m)+1 from rfl,Instr.checkKey];simp only[zp,run_underlying hu,zg];rw[<-Array.forIn_toList];have:=Q2t (e:=e) (d:=d) rfl (Lg e d m) (xs:=cs.toArray) w fs.toList 0 s h (by simpa using h1);simp_all
   all_goals cases h
theorem Q1d {t:TypeId}{d:TypeDesc}(hd:P.underlying t=some d) (hk:(∃ fs,d=.struct fs)\/∃ n e,d=.array n e) (a:Array Value):mkT P t a.toList=.agg a:=by unfold mkT;rcases hk with⟨fs,rfl⟩|⟨n,e,rfl⟩<;>simp[hd]
theorem ZZ {mk:MK}{t:TypeId}{d:TypeDesc}(hd:P.underlying t=some d) (hm:Z0m P t mk d) {a:Value}(ha:ZF mk a=true) (e:Bool) (w':World):(Instr.checkKey e 10000 t a).run P w'=.ok () w':=by
 cases mk
 case agg s =>
  cases a<;>first|(cases ha;done)|skip
  rename_i x;have:=Lg (P:=P) e 9992 8 t s hm.1 w' x.toList ha;rw[Q1d hd hm.2] at this;exact this
 all_goals (cases a<;>first|(cases ha;done)|(simp only[Z0m] at hm;subst hm;exact V2 hd (by simp) e 9999 w'))
theorem Q4r {mk:MK}(hp:mk.plain=true) {t:TypeId}{d:TypeDesc}(hd:Z0m P t mk d) {k:Value}(hk:ZF mk k=true) (nv:Value) (c:Nat) {n:Nat}:∀ (es:List JO) (E:List MapEntry) (i:Nat),LERel ρ n E es->es.all (λe=>ZF mk e.1)=true ->
  (Qh k es=none/\Instr.findNow d k E i=some none/\Qx k nv c es=(es++[(k,nv,c)],c+1)) \/
  (∃ j e e',Qh k es=some e/\es[j]?=some e/\E[j]?=some e'/\Instr.findNow d k E i=some (some (i+j,e'.val))/\XT k e.1=true/\Qx k nv c es=(es.set j (k,nv,e.2.2),c)):=by
 intro es;induction es with
 |nil =>
  intro E i hE _;have:E=[]:=by have:=hE.1;simpa using this
  subst this;exact .inl ⟨rfl,rfl,rfl⟩
 |cons kv es ih =>
  intro E i hE hall;obtain⟨e,E',rfl,he,bZ⟩:=hE.cons_inv;simp only[zP,z0] at hall;have hs:Instr.sameNow d k e.key=some (XT k kv.1):=by rw[he.1];exact Q4c hp hd hk hall.1
  cases hq:XT k kv.1 with
  |true =>refine .inr ⟨0,kv,e,by simp[Qh,hq],rfl,rfl,?_,hq,by simp[Qx,hq]⟩;simp[Instr.findNow,hs,hq]
  |false =>
   rcases ih E' (i+1) bZ hall.2 with⟨h1,h2,h3⟩|⟨j,a,a',h1,h2,h3,h4,h5,h6⟩
   .refine .inl ⟨by simp[Qh,hq,h1],by simp[Instr.findNow,hs,hq,h2],by simp[Qx,hq,h3]⟩
   .refine .inr ⟨j+1,a,a',by simp[Qh,hq,h1],by simpa using h2,by simpa using h3,?_,h5,by simp[Qx,hq,h6]⟩;simp[Instr.findNow,hs,hq,h4];omega
theorem Hh {t:TypeId}{d:TypeDesc}(hd:P.underlying t=some d) {k:Value}{E:List MapEntry}{r:Option (Nat×Value)}(h:Instr.findNow d k E 0=some r) (w':World):(Instr.findKey t k E).run P w'=.ok r w':=by simp[Instr.findKey,Q0 hd,h]
theorem Q41 {s:List MK}{t:TypeId}{d:TypeDesc}(hu:P.underlying t=some d) (hd:Z0m P t (.agg s) d) {k:Value}(hk:ZF (.agg s) k=true) (nv:Value) (c:Nat) {n:Nat}:∀ (es:List JO) (E:List MapEntry) (i:Nat),LERel ρ n E es->es.all (λe=>ZF (.agg s) e.1)=true ->
  (Qh k es=none/\(∀ w',(Instr.findAsking t k E i).run P w'=.ok none w')/\Qx k nv c es=(es++[(k,nv,c)],c+1)) \/
  (∃ j e e',Qh k es=some e/\es[j]?=some e/\E[j]?=some e'/\(∀ w',(Instr.findAsking t k E i).run P w'=.ok (some (i+j,e'.val)) w')/\XT k e.1=true/\Qx k nv c es=(es.set j (k,nv,e.2.2),c)):=by
 intro es;induction es with
 |nil =>
  intro E i hE _;have:E=[]:=by have:=hE.1;simpa using this
  subst this;exact .inl ⟨rfl,λw'=>by simp[Instr.findAsking],rfl⟩
 |cons kv es ih =>
  intro E i hE hall;obtain⟨e,E',rfl,he,bZ⟩:=hE.cons_inv;simp only[zP,z0] at hall;have hs:∀ w',(Op.equal t k e.key).run P w'=.ok (XT k kv.1) w':=λw'=>by
   rw[he.1];have h1:=hall.1;cases k<;>first|(cases hk;done)|skip
   rename_i x;generalize dN:kv.1=y at h1 |-;cases y<;>first|(cases h1;done)|skip
   rename_i y;have:=Mn 9992 8 t s hd.1 w' x.toList y.toList hk h1;rw[Q1d hu hd.2,Q1d hu hd.2] at this;exact this
  cases hq:XT k kv.1 with
  |true =>refine .inr ⟨0,kv,e,by simp[Qh,hq],rfl,rfl,λw'=>?_,hq,by simp[Qx,hq]⟩;simp[Instr.findAsking,hs,hq]
  |false =>
   rcases ih E' (i+1) bZ hall.2 with⟨h1,h2,h3⟩|⟨j,a,a',h1,h2,h3,h4,h5,h6⟩
   .refine .inl ⟨by simp[Qh,hq,h1],λw'=>by simp[Instr.findAsking,hs,hq,h2],by simp[Qx,hq,h3]⟩
   .refine .inr ⟨j+1,a,a',by simp[Qh,hq,h1],by simpa using h2,by simpa using h3,λw'=>?_,h5,by simp[Qx,hq,h6]⟩;simp[Instr.findAsking,hs,hq,h4];omega
theorem Q11 {t:TypeId}{s:List MK}{d:TypeDesc}(hd:Z0m P t (.agg s) d) {k:Value}{e:MapEntry}{E:List MapEntry}{i:Nat}:Instr.findNow d k (e::E) i=none:=by rcases hd.2 with⟨fs,rfl⟩|⟨n,el,rfl⟩<;>simp[Instr.findNow,Instr.sameNow]
theorem Vo {mk:MK}{t:TypeId}{d:TypeDesc}(hu:P.underlying t=some d) (hd:Z0m P t mk d) {k:Value}(hk:ZF mk k=true) (nv:Value) (c:Nat) {n:Nat}(es:List JO) (E:List MapEntry) (hE:LERel ρ n E es) (hall:es.all (λe=>ZF mk e.1)=true) :
  (Qh k es=none/\(∀ w',(Instr.findKey t k E).run P w'=.ok none w')/\Qx k nv c es=(es++[(k,nv,c)],c+1)) \/
  (∃ j e e',Qh k es=some e/\es[j]?=some e/\E[j]?=some e'/\(∀ w',(Instr.findKey t k E).run P w'=.ok (some (0+j,e'.val)) w')/\XT k e.1=true/\Qx k nv c es=(es.set j (k,nv,e.2.2),c)):=by
 cases hp:mk.plain with
 |true =>
  rcases Q4r hp hd hk nv c es E 0 hE hall with⟨h1,h2,h3⟩|⟨j,a,a',h1,h2,h3,h4,h5,h6⟩
  .grind [Hh]
  .grind [Hh]
 |false =>
  cases mk with
  |agg s =>
   have e1:∀ w',(Instr.findKey t k E).run P w'=(Instr.findAsking t k E 0).run P w':=λw'=>by
    cases E with
    |nil=>simp[Instr.findKey,Q0 hu,Instr.findNow,Instr.findAsking]
    |cons e E=>simp[Instr.findKey,Q0 hu,Q11 hd]
   rcases Q41 hu hd hk nv c es E 0 hE hall with⟨h1,h2,h3⟩|⟨j,a,a',h1,h2,h3,h4,h5,h6⟩
   .simp_all
   .grind
  |_=>cases hp
theorem Wm {m:Nat}{es:List JO}{clock:Nat}{wr:Bool}(h:U.mapAt m=some (es,clock,wr)):U.get m=some (.obj (.map es clock) wr):=by
 unfold Heap.mapAt at h
 grind
theorem Wo (hH:HRel ρ U w) {m:Nat}{es:List JO}{clock:Nat}{wr:Bool}(h:U.mapAt m=some (es,clock,wr)) {c:Value}(hv:VRel ρ U.n (.map (some m)) c) :
  ∃ p entries,c=.map (some p.blk)/\ρ m=some p/\w.heap[p.blk]?=some (.map entries clock)/\LERel ρ U.n entries.toList es:=by
 obtain⟨p,hp,_,O,h1,h2⟩:=hH.live m _ (Wm h);obtain⟨entries,rfl,h3⟩:=ORel.q0s.1 h2;obtain⟨r,rfl,_,hr⟩:=hv.q1i
 grind
theorem QE {w':World}{r:Nat}{O:Obj}(h:w'.heap[r]?=some O) (hc:∀ c e f,O≠.cells c e f):(getObj r).run P w'=.ok O w':=by cases O<;>first|(exact absurd rfl (hc _ _ _))|simp[getObj,Sem.run,h]
theorem QR {w':World}{r:Nat}{O O':Obj}(h:w'.heap[r]?=some O) (hc:∀ c e f,O≠.cells c e f):(setObj r O').run P w'=.ok () (Sl w' r O'):=by cases O<;>first|(exact absurd rfl (hc _ _ _))|simp[setObj,Sem.run,h,Sl]
theorem Ea {xs:List Value}{s:ByteArray}(h:AZ xs=some s):∃ ns:List Int,xs=ns.map (Value.int .u8)/\s=⟨(ns.map λn=>n.toNat.toUInt8).toArray⟩:=by
 unfold AZ at h;rw[zi] at h;obtain⟨bs,h1,rfl⟩:=h;have key:∀ (xs:List Value) (bs:List UInt8),xs.mapM Q6x=some bs->∃ ns:List Int,xs=ns.map (Value.int .u8)/\bs=ns.map λn=>n.toNat.toUInt8:=by
  intro xs;induction xs with
  |nil=>intro bs h;simp at h;subst h;exact⟨[],rfl,rfl⟩
  |cons x xs ih =>
   intro bs h;rw[xg] at h;cases hx:Q6x x with
   |none=>simp[hx] at h
   |some b =>
    cases hm:xs.mapM Q6x with
    |none=>simp[hx,hm] at h
    |some vX =>
     simp[hx,hm] at h;obtain⟨ns,h1,h2⟩:=ih _ hm;unfold Q6x at hx;split at hx
     .rename_i n;simp at hx;exact⟨n::ns,by simp[h1],by rw[<-h,h2,<-hx];rfl⟩
     .cases hx
 simp_all
theorem Z1f {n:Nat}{ns:List Int}{us:List Value}(h:LRel ρ n (ns.map (Value.int .u8)) us):us=ns.map (Value.int .u8):=by
 apply zT;intro i;cases hi:(ns.map (Value.int .u8))[i]? with
 |none =>have h1:(ns.map (Value.int .u8)).length<=i:=List.getElem?_eq_none_iff.1 hi;exact List.getElem?_eq_none_iff.2 (by rw[<-h.1];exact h1)
 |some v =>
  obtain⟨c,hc,hv⟩:=h.get hi;rw[hc];rw[xx] at hi;cases hn:ns[i]? with
  |none=>rw[hn] at hi;cases hi
  |some x=>rw[hn] at hi;obtain rfl:=osj hi;rw[hv.q0h]
theorem Q5c (ns:List Int):∀ (acc:ByteArray),ns.foldl (λr n=>r.push (UInt8.ofNat n.toNat)) acc=⟨acc.data++(ns.map λn=>n.toNat.toUInt8).toArray⟩:=by
 induction ns with
 |nil=>intro acc;simp
 |cons n ns ih =>intro acc;rw[xY,ih];apply ByteArray.ext;simp[ByteArray.push]
theorem Q98 {n:Nat}(b:Nat):∀ (es:List JO) (E:List MapEntry),LERel ρ n E es->∀ e,es.find? (λe=>e.2.2==b)=some e->∃ e',E.find? (λx=>x.born==b)=some e'/\Z79 ρ n e' e:=by
 intro es;induction es with
 |nil=>intro E _ e h;simp at h
 |cons kv es ih =>
  intro E hE e h;obtain⟨x,E',rfl,hx,bZ⟩:=hE.cons_inv;cases hb:kv.2.2==b with
  |true =>simp only[List.find?_cons,hb] at h;obtain rfl:=osj h;exact⟨x,by simp only[List.find?_cons,hx.2.1,hb],hx⟩
  |false =>simp only[List.find?_cons,hb] at h;obtain⟨e',h1,h2⟩:=ih E' bZ e h;exact⟨e',by simp only[List.find?_cons,hx.2.1,hb];exact h1,h2⟩
theorem Q5f {u:TypeId}(hc:P.cellsOf u≠0) (n off:Nat) (h0:off=0) (hn:P.cellsOf u<=n):liesAt P P.depth u (n / P.cellsOf u) off u 1=true:=by have hd:P.depth=(2*(P.types.size+Made.depth)+1)+1:=rfl;have h1:1<=n / P.cellsOf u:=(Nat.one_le_div_iff (by omega)).2 hn;subst h0;rw[hd];simp only[liesAt,zr];left;rw[hd];simp[rowAt,hc,sameLayout,h1]
set_option maxHeartbeats 1000000 in
theorem OC {o:Oper}{xo:XOp}(hc:CU P o.op=some xo) (hq:xo.quiet=true) (hH:HRel ρ U w) (hE:∀ x,W1 x=true->VRel ρ U.n (Q5 env x) (ev x))
  (h:J5 xo (Q5 env) U=some (v,U')):U'=U/\Q00 P ρ U w v (execOp ev o):=by
 obtain⟨dst,op,ty,pos,after,guard⟩:=o;simp only at hc;unfold CU at hc;split at hc
 .cases hc
 rename_i ak;simp only[w_,xM] at ak;cases op<;>simp only[Op.operands] at ak hc
 case binOp jj t x y yt =>
  simp at ak;have hx:=hE x ak.1;have hy:=hE y ak.2
  have key:∀ (kd:Nat) (neg:Bool),jj=(if neg then .neq else .eql)->((kd=0/\∃ e i,P.underlying t=some (.pointer e)/\P.info? e=some i)\/(kd=1/\∃ e,P.underlying t=some (.slice e)) \/
   (kd=2/\∃ k e,P.underlying t=some (.map k e))\/(kd=3/\∃ p q s,P.underlying t=some (.func p q s)))->xo=.eqNil kd neg x y->U'=U/\Q00 P ρ U w v (execOp ev ⟨dst,.binOp jj t x y yt,ty,pos,after,guard⟩):=by
   intro kd neg kS hk mc;subst mc;simp only[J5] at h;split at h
   .rename_i r hs;simp at h;obtain⟨rfl,rfl⟩:=h;obtain⟨h1,h2⟩:=Q3o hH hk hx hy hs;rw[kS];exact⟨rfl,Q32 neg t x y yt ty pos after dst guard rfl rfl (by grind [I2]) (h1 neg)⟩
   .cases h
  have tC:∀ (neg:Bool),jj=(if neg then .neq else .eql)->((∃ fs,P.underlying t=some (.struct fs))\/∃ n e,P.underlying t=some (.array n e))->Ah P neg t x y=some xo->U'=U/\Q00 P ρ U w v (execOp ev ⟨dst,.binOp jj t x y yt,ty,pos,after,guard⟩):=by
   intro neg kS hk mc;unfold Ah at mc;split at mc
   .cases mc
   .rename_i oW;obtain⟨s,hs,rfl⟩:=zi.1 mc;simp only[J5] at h;split at h
    .rename_i a b ha hb;split at h
     .rename_i eZ;simp at h;obtain⟨rfl,rfl⟩:=h;rw[ha] at hx;rw[hb] at hy;obtain⟨ca,vY,mO⟩:=hx.q1k;obtain⟨cb,vZ,oX⟩:=hy.q1k;have ea:=Sn eZ.1 mO;have eb:=Sn eZ.2 oX;have e1:mkT P t a.toList=.agg a:=by
       unfold mkT;rcases hk with⟨fs,hu⟩|⟨n,e,hu⟩<;>simp[hu]
      have e2:mkT P t b.toList=.agg b:=by unfold mkT;rcases hk with⟨fs,hu⟩|⟨n,e,hu⟩<;>simp[hu]
      have aW:=λw'=>Mn 9992 8 t s hs w' a.toList b.toList eZ.1 eZ.2;rw[e1,e2] at aW;have tD:ev x=.agg a:=by simp_all
      have tE:ev y=.agg b:=by simp_all
      rw[kS];refine⟨rfl,Q32 neg t x y yt ty pos after dst guard tD tE (by grind [run_eqGuard_agg]) (λw'=>?_)⟩;have hr:=aW w';cases neg
      .simp only[zm,if_false];rw[run_eql_struct w' t a b,show (10000:Nat)=9992+8 from rfl,hr];rfl
      .simp only[zt];rw[run_neq_struct w' t a b,show (10000:Nat)=9992+8 from rfl,hr];rfl
     .cases h
    .cases h
  split at hc
  .rename_i e hu;cases hi:P.info? e with
   |none=>simp[hi] at hc
   |some i =>simp[hi] at hc;exact(by simp_all)
  .rename_i e hu;cases hi:P.info? e with
   |none=>simp[hi] at hc
   |some i =>simp[hi] at hc;exact(by simp_all)
  .simp_all
  .simp_all
  .simp_all
  .simp_all
  .simp_all
  .simp_all
  .simp_all
  .simp_all
  .simp_all
  .simp_all
  .cases hc
 case makeMap t r=>cases r<;>simp at hc;subst hc;cases hq
 case mapUpdate t m k x =>
  split at hc
  .rename_i kt e hu;cases hk:II P kt with
   |none=>simp[hk] at hc
   |some mk=>simp[hk] at hc;subst hc;cases hq
  .cases hc
 case insert t m k x =>
  split at hc
  .rename_i kt e hu;cases hk:II P kt with
   |none=>simp[hk] at hc
   |some mk=>simp[hk] at hc;subst hc;cases hq
  .cases hc
 case mapEntry t m k =>
  split at hc
  .rename_i kt e hu;cases hk:II P kt with
   |none=>simp[hk] at hc
   |some mk =>
    cases bT:P.info? e with
    |none=>simp[hk,bT] at hc
    |some inf =>
     cases hz:inf.zero with
     |none=>simp[hk,bT,hz] at hc
     |some z=>simp[hk,bT,hz] at hc;obtain⟨_,rfl⟩:=hc;cases hq
  .cases hc
 case entryStore t m s x=>simp at hc;subst hc;cases hq
 case range t x =>
  split at hc
  .simp at hc;subst hc;cases hq
  .simp at hc;subst hc;cases hq
  .cases hc
 case next x b=>cases b<;>(simp at hc;subst hc;cases hq)
 case lookup t x i jv =>
  simp at ak;have hx:=hE x ak.1;have hi:=hE i ak.2;split at hc
  .rename_i kt e hu;cases hk:II P kt with
   |none=>simp[hk] at hc
   |some mk =>
    cases bT:P.info? e with
    |none=>simp[hk,bT] at hc
    |some inf =>
     cases hz:inf.zero with
     |none=>simp[hk,bT,hz] at hc
     |some z =>
      simp[hk,bT,hz] at hc;obtain⟨kT,rfl⟩:=hc;obtain⟨d,hd,dO⟩:=Dm hk;have kP:∀ w',(zeroValue e).run P w'=.ok z w':=λw'=>Zy bT hz w';have dG:VRel ρ U.n z z:=Nq kT;simp only[J5] at h;split at h
      .rename_i bG;have pS:ev i=Q5 env i:=Lv bG hi;split at h
       .rename_i bc;rw[bc] at hx;obtain bU:=hx.q0t;simp at h;obtain⟨rfl,rfl⟩:=h;refine⟨rfl,if jv then .tuple #[z,.bool false] else z,?_,λw' _=>?_⟩
        .cases jv
         .exact dG
         .exact VRel.q0j (LRel.cons dG (LRel.cons (.bool _) (LRel.nil _ _)))
        .simp only[execOp];simp only[Instr.lookup,zp,Q0 hu,zg,bU,xj,pS,ZZ hd dO bG];rw[Hh hd (r:=none) rfl];cases jv<;>simp[kP]
       .rename_i m bc;rw[bc] at hx;split at h
        .rename_i es clock wr aA;split at h
         .rename_i hall;obtain⟨p,entries,bU,hp,aD,aH⟩:=Wo hH aA hx;have aW:∀ w',Like ρ w w'->(getObj p.blk).run P w'=.ok (.map entries clock) w':=λw' hl =>
           QE (by rw[hl.blk m p hp];exact aD) (λ_ _ _ e=>by cases e)
          rcases Vo hd dO bG (.bool true) 0 es entries.toList aH hall with⟨h1,h2,_⟩|⟨j,a,a',h1,h2,h3,h4,_,_⟩
          .rw[h1] at h;simp at h;obtain⟨rfl,rfl⟩:=h;refine⟨rfl,if jv then .tuple #[z,.bool false] else z,?_,λw' hl=>?_⟩
           .cases jv
            .exact dG
            .exact VRel.q0j (LRel.cons dG (LRel.cons (.bool _) (LRel.nil _ _)))
           .simp only[execOp];simp only[Instr.lookup,zp,Q0 hu,zg,bU,aW w' hl,xj,pS,ZZ hd dO bG];simp_all
          .rw[h1] at h;simp at h;obtain⟨rfl,rfl⟩:=h;have mP:=(aH.2 j a' a h3 h2).2.2;refine⟨rfl,if jv then .tuple #[a'.val,.bool true] else a'.val,?_,λw' hl=>?_⟩
           .cases jv
            .exact mP
            .exact VRel.q0j (LRel.cons mP (LRel.cons (.bool _) (LRel.nil _ _)))
           .simp only[execOp];simp only[Instr.lookup,zp,Q0 hu,zg,bU,aW w' hl,xj,pS,ZZ hd dO bG];rw[h4];cases jv<;>simp
         .cases h
        .cases h
       .cases h
      .cases h
  .cases hc
 case entry x =>
  simp at ak;have hx:=hE x ak;simp at hc;subst hc;simp only[J5] at h;split at h
  .rename_i i bc;rw[bc] at hx;split at h
   .rename_i m since seen last wr hb;split at h
    .rename_i es clock kU b aA dA;split at h
     .rename_i cu;split at h
      .rename_i e cg;split at h
       rotate_left
       .cases h
       rename_i aY;simp at h;obtain⟨rfl,rfl⟩:=h;obtain⟨p,hp,⟨_,dP⟩,O,hO,rm,rfl,oY⟩:=hH.live i _ hb;obtain⟨q,entries,iu,cD,aD,aH⟩:=Wo hH aA oY;simp at iu;obtain⟨_,_,bU⟩:=hx.q0w hp;rw[dP] at bU;obtain⟨e',jO,me⟩:=Q98 b es entries.toList aH e cg;rw[Array.find?_toList] at jO;have dZ:(seen.toArray).back?=some b:=by simpa using dA
       have dN:VRel ρ U.n e.1 e'.key:=by rw[me.1];exact Nq aY
       refine⟨rfl,.tuple #[e'.key,e'.val],VRel.q0j (LRel.cons dN (LRel.cons me.2.2 (LRel.nil _ _))),λw' hl=>?_⟩;have h1:=QE (P:=P) (w':=w') (r:=p.blk) (by rw[hl.blk i p hp];exact hO) (λ_ _ _ e=>by cases e);have h2:=QE (P:=P) (w':=w') (r:=q.blk) (by rw[hl.blk m q cD];exact aD) (λ_ _ _ e=>by cases e);simp only[execOp];simp only[Instr.entry,bU,zU,zp,h1,zg,dZ];rw[iu,];simp[h2,cu,jO]
      .cases h
     .cases h
    .cases h
   .cases h
  .cases h
 case convert s d x =>
  simp at ak;have hx:=hE x ak;split at hc
  .rename_i t hs hd;cases hi:P.info? t with
   |none=>simp[hi] at hc
   |some inf =>
    simp[hi] at hc;obtain⟨aC,rfl⟩:=hc;simp only[J5] at h;split at h
    .rename_i bc;rw[bc] at hx;obtain bU:=hx.q0q;simp at h;obtain⟨rfl,rfl⟩:=h;refine⟨rfl,Qq (c:=.pointer none) (λw'=>?_) .nilPtr⟩;simp[execOp,bU,convert,Q0 hs,Q0 hd,Conv.unsafePointer]
    .rename_i i o bc;rw[bc] at hx;split at h
     .rename_i c e wr tight hb;split at h
      .rename_i aj;simp at h;obtain⟨rfl,rfl⟩:=h;obtain⟨p,hp,_,_,hl,⟨C,e',f,hC,pT,_⟩,_,_⟩:=hH.live i _ hb;obtain⟨_,_,bU⟩:=hx.q0w hp;refine⟨rfl,ev x,hx,λw' pU=>?_⟩;have dP:w'.shape? p.blk=some (e',C.size):=by
        have:w'.heap[p.blk]?=some (.cells C e' f):=by rw[pU.blk i p hp];exact hC
        simp[World.shape?,this]
       simp only[execOp,bU];have:=Go.Lib.run_to_unsafe (P:=P) w' (src:=s) (dst:=d) ⟨p.blk,p.shift+o,none⟩ hs hd hi (by simpa using aC) dP (by show p.shift+o<C.size;omega);simp[this]
      .cases h
     .cases h
    .cases h
  .rename_i u hs hd;cases hi:P.info? u with
   |none=>simp[hi] at hc
   |some inf =>
    simp[hi] at hc;obtain⟨⟨aC,tF⟩,rfl⟩:=hc;simp only[J5] at h;split at h
    .rename_i bc;rw[bc] at hx;obtain bU:=hx.q0q;simp at h;obtain⟨rfl,rfl⟩:=h;refine⟨rfl,Qq (c:=.pointer none) (λw'=>?_) .nilPtr⟩;simp[execOp,bU,convert,Q0 hs,Q0 hd,Conv.unsafePointer]
    .rename_i i o bc;rw[bc] at hx;split at h
     .rename_i c e hb;split at h
      .rename_i aj;obtain⟨rfl,het,hle⟩:=aj;simp at h;obtain⟨rfl,rfl⟩:=h;obtain⟨p,hp,_,_,hl,⟨C,e',f,hC,pT,kV⟩,_,h6⟩:=hH.live i _ hb;obtain⟨_,_,bU⟩:=hx.q0w hp;have tG:=(h6 rfl).1 rfl;refine⟨rfl,ev x,hx,λw' pU=>?_⟩;have dP:w'.shape? p.blk=some (u,C.size):=by
        have:w'.heap[p.blk]?=some (.cells C e' f):=by rw[pU.blk i p hp];exact hC
        simp[World.shape?,this,kV,het]
       simp only[execOp,bU];rw[x4] at *
       have:=Go.Lib.run_from_unsafe (P:=P) w' (src:=s) (dst:=d) ⟨p.blk,p.shift,none⟩ hs hd hi dP (Q5f tF _ _ tG (by omega));simp[this]
      .cases h
     .cases h
    .cases h
  .rename_i e hs hd;split at hc
   .rename_i he;simp at hc;subst hc;simp only[J5] at h;split at h
    .rename_i a n c bc;rw[bc] at hx;split at h
     .rename_i xs bH;split at h
      .rename_i s' pV;simp at h;obtain⟨rfl,rfl⟩:=h;obtain⟨ns,mf,rfl⟩:=Ea pV;subst mf;obtain⟨hlen,us,dy,⟨a',aq,bU⟩,aW⟩:=Ep hH bH hx;have mQ:=Z1f dy;refine⟨rfl,.string ⟨(ns.map λn=>n.toNat.toUInt8).toArray⟩,.string _,λw' hl=>?_⟩;have hr:=aW w' hl;rw[bU] at hr;simp only[execOp,bU];cases a' with
       |none =>
        simp[Builtin.firstCells] at hr;have:ns=[]:=by rw[mQ] at hr;simpa using hr.symm
        subst this;simp[convert,Q0 hs,Q0 hd,Q0 he,Conv.bytesToString];rfl
       |some a' =>simp only[Builtin.firstCells,y9] at hr;rw[mQ] at hr;have:=run_bytesToString (P:=P) w' a' n aq ns hr;rw[Q5c] at this;simp[convert,Q0 hs,Q0 hd,Q0 he,this]
      .cases h
     .cases h
    .cases h
   .cases hc
  .split at hc
   .simp at hc;subst hc;cases hq
   .cases hc
  .cases hc
 case call c =>
  split at hc
  .rename_i aI;split at hc
   .rename_i t x dh cI;split at hc
    .rename_i kt e hu;simp at hc;subst hc;have bC:c.args=#[x]:=Array.ext' (by simpa using cI);have hx:VRel ρ U.n (Q5 env x) (ev x):=hE x (by simpa [Call.operands,aI,bC] using ak);simp only[J5] at h;split at h
     .rename_i bc;rw[bc] at hx;obtain bU:=hx.q0t;simp at h;obtain⟨rfl,rfl⟩:=h;refine⟨rfl,Qq (c:=.int .i64 0) (λw'=>?_) (.int _ _)⟩;simp[execOp,resolve,aI,bC,invoke,builtin,Builtin.len_,dh,bU,Q0 hu,goInt]
     .rename_i m bc;rw[bc] at hx;split at h
      .rename_i es clock wr aA;simp at h;obtain⟨rfl,rfl⟩:=h;obtain⟨p,entries,bU,hp,aD,aH⟩:=Wo hH aA hx;refine⟨rfl,.int .i64 es.length,.int _ _,λw' hl=>?_⟩;have h1:=QE (P:=P) (w':=w') (r:=p.blk) (by rw[hl.blk m p hp];exact aD) (λ_ _ _ e=>by cases e);have h2:entries.size=es.length:=by have:=aH.1;simpa using this
       simp[execOp,resolve,aI,bC,invoke,builtin,Builtin.len_,dh,bU,Q0 hu,goInt,h1,h2]
      .cases h
     .cases h
    .cases hc
   .cases hc
  .split at hc
   .split at hc
    .rename_i kt e hu;cases hk:II P kt with
     |none=>simp[hk] at hc
     |some mk=>simp[hk] at hc;subst hc;cases hq
    .cases hc
   .cases hc
  .split at hc
   .split at hc
    .rename_i e hu;cases hi:P.info? e with
     |none=>simp[hi] at hc
     |some inf=>simp[hi] at hc;subst hc;cases hq
    .cases hc
   .cases hc
  .split at hc
   .split at hc
    .rename_i e hu;cases hz:zeroOf P e with
     |none=>simp[hz] at hc
     |some z=>simp[hz] at hc;obtain⟨_,rfl⟩:=hc;cases hq
    .cases hc
   .cases hc
  .rename_i aI;split at hc
   .rename_i x cI;simp at hc;subst hc;have bC:c.args=#[x]:=Array.ext' (by simpa using cI);have hx:VRel ρ U.n (Q5 env x) (ev x):=hE x (by simpa [Call.operands,aI,bC] using ak);simp only[J5] at h;split at h
    .rename_i bc;rw[bc] at hx;obtain bU:=hx.q0y;simp at h;obtain⟨rfl,rfl⟩:=h;refine⟨rfl,Qq (c:=.pointer none) (λw'=>?_) .nilPtr⟩;simp[execOp,resolve,aI,bC,invoke,builtin,bU,Go.Lib.run_unsafeSliceData_nil]
    .rename_i i o n cap bc;rw[bc] at hx;split at h
     .rename_i b8;simp at h;obtain⟨rfl,rfl⟩:=h;obtain⟨b8,hs⟩:=b8;obtain⟨blk,aD⟩:=Option.isSome_iff_exists.1 hs;obtain⟨p,hp,_⟩:=hH.live _ _ aD;obtain⟨a,aq,bU,aS,aY⟩:=hx.q1c;obtain⟨h1,_,⟨oS,_⟩|⟨o',rfl,_,ho⟩⟩:=aY p hp
      .omega
      have fD:o'=o:=ho.resolve_right (λhh=>b8 hh.2);subst fD;refine⟨rfl,.pointer (some ⟨p.blk,p.shift+o',none⟩),.ptr _ _ _ aS (by simp_all),λw' _=>?_⟩;simp[execOp,resolve,aI,bC,invoke,builtin,bU,Go.Lib.run_unsafeSliceData_row w' _ _ _ n aq (by omega)]
     .cases h
    .cases h
   .cases hc
  .split at hc
   .split at hc
    .split at hc
     .simp at hc;subst hc;cases hq
     .cases hc
    .cases hc
   .cases hc
  .cases hc
 all_goals cases hc
theorem getElem?_modify_list {α:Type}(l:List α) (j:Nat) (f:α->α) (k:Nat):(l.modify j f)[k]?=if j=k then (l[k]?).map f else l[k]?:=by
 grind
theorem Pf {n:Nat}{E:List MapEntry}{es:List JO}(h:LERel ρ n E es) (j:Nat) (f:MapEntry->MapEntry) (kv:JO) (hf:∀ e,E[j]?=some e->Z79 ρ n (f e) kv):LERel ρ n (E.modify j f) (es.set j kv):=by
 refine⟨by simp[h.1],λk e tH he dN=>?_⟩;rw[getElem?_modify_list] at he;rw[xy] at dN;by_cases dq:j=k
 .grind
 .simp only[dq,if_false] at he dN;exact h.2 k e tH he dN
theorem TC {n:Nat}{E:List MapEntry}{es:List JO}(h:LERel ρ n E es) {e:MapEntry}{kv:JO}(he:Z79 ρ n e kv):LERel ρ n (E++[e]) (es++[kv]):=by
 refine⟨by simp[h.1],λk a b ha hb=>?_⟩;have hl:=h.1;rw[List.getElem?_append] at ha hb;split at ha<;>split at hb<;>try omega
 .exact h.2 k a b ha hb
 grind
theorem EO {γ:Sort _}(f:Option Addr->Value->γ) (g:Array Value->γ) (p:Option Addr) (l:Value):Builtin.unsafeString_.match_3 (motive:=λ_=>γ) #[.pointer p,l] f g=f p l:=rfl
theorem FH (ts:Array TypeId) (ty pt:TypeId) (h0:ts[0]?=some pt) (p:Option Addr) (w:World):(Builtin.unsafeString_ ts ty #[.pointer p,.int .i64 0]).run P w=.ok (.string .empty) w:=by
 have jx:IntKind.i64.max=9223372036854775807:=rfl;cases p with
 |none =>delta Builtin.unsafeString_;rw[EO];simp[asInt,asIntOf,jx,h0]
 |some a =>delta Builtin.unsafeString_;rw[EO];simp[asInt,asIntOf,jx,h0]
theorem Ok:∀ (ns:List Int) (a:Addr) (acc:ByteArray) (w:World),(∀ j n,ns[j]?=some n->w.cell? (a.add j)=some (.int .u8 n)) ->
  (loadBytes a acc ns.length).run P w=.ok ⟨acc.data++(ns.map λn=>n.toNat.toUInt8).toArray⟩ w
 |[],a,acc,w,_=>by simp[loadBytes]
 |n::ns,a,acc,w,h=>by
  have h0:w.cell? a=some (.int .u8 n):=by have:=h 0 n rfl;simpa [Addr.add] using this
  have ih:=Ok ns (a.add 1) (acc.push n.toNat.toUInt8) w (λj y hy=>by
   have:=h (j+1) y (by simpa using hy);have e:(a.add 1).add j=a.add (j+1):=by
    unfold Addr.add
    grind
   rw[e];exact this)
  simp only[zV,loadBytes,zp,run_load,h0,Result.andThen];simp_all
theorem F3 {e:TypeId}(hc:P.cellsOf e=1) (count off n:Nat) (hn:off+n<=count):liesAt P P.depth e count off e n=true:=by have hd:P.depth=(2*(P.types.size+Made.depth)+1)+1:=rfl;rw[hd];simp only[liesAt,zr];left;rw[hd];simp[rowAt,hc,hn,sameLayout,Nat.mod_one]
theorem Q9v (ts:Array TypeId) (ty pt e:TypeId) (h0:ts[0]?=some pt) (hp:P.underlying pt=some (.pointer e)) (hc:P.cellsOf e=1) (a:Addr) (cells:Nat) (w:World) (dP:w.shape? a.block=some (e,cells)) (ns:List Int) (k:Int) (hk:0<k) (mg:ns.length=k.toNat) (hn:a.off+ns.length<=cells)
  (v5:k<=2 ^ 62) (bz:∀ j n,ns[j]?=some n->w.cell? (a.add j)=some (.int .u8 n)) :
  (Builtin.unsafeString_ ts ty #[.pointer (some a),.int .i64 k]).run P w=.ok (.string ⟨(ns.map λn=>n.toNat.toUInt8).toArray⟩) (w.freeze a k.toNat):=by
 have jx:IntKind.i64.max=9223372036854775807:=rfl;have v7:(2:Int) ^ 62=4611686018427387904:=by decide
 have oX:=Ok (P:=P) ns a .empty w bz;have jP:=F3 (P:=P) hc (cells / P.cellsOf e) a.off ns.length (by rw[hc];simpa using hn);have h1:¬ k<0:=by omega
 have h2:¬ (9223372036854775807:Int)<k:=by omega
 have h3:¬ k=0:=by omega
 rw[<-mg];rw[mg] at oX jP;delta Builtin.unsafeString_;rw[EO];simp[asInt,asIntOf,jx,h0,h1,h2,h3,variablesAt,dP,elemOf,Q0 hp,jP,oX,mg]
theorem HRel.freeze (hH:HRel ρ U w) {i:Nat}{p:Pl}{c:List Value}{e:El}{tight:Bool}(hp:ρ i=some p) (hb:U.get i=some (.cells c e true tight)) (off n:Nat) :
  HRel ρ (U.upd i (.cells c e false tight)) (w.freeze ⟨p.blk,off,none⟩ n)/\Ext ρ U w ρ (U.upd i (.cells c e false tight)) (w.freeze ⟨p.blk,off,none⟩ n):=by
 have hi:=U.lt hb;obtain⟨p',bE,hB⟩:=hH.live i _ hb;obtain rfl:p=p':=osj (hp.symm.trans bE);obtain⟨h1,h2,h3,⟨C,e',f,h4,iW⟩,h5,h6⟩:=hB;have cE:∀ k,k≠p.blk->(w.freeze ⟨p.blk,off,none⟩ n).heap[k]?=w.heap[k]?:=λk hk=>by
  unfold World.freeze
  grind
 have aC:(w.freeze ⟨p.blk,off,none⟩ n).heap.size=w.heap.size:=by
  unfold World.freeze;split
  .rfl
  .simp
 obtain⟨f',fb⟩:∃ f',(w.freeze ⟨p.blk,off,none⟩ n).heap[p.blk]?=some (.cells C e' f'):=by
  unfold World.freeze
  grind
 have bz:∀ o,(w.freeze ⟨p.blk,off,none⟩ n).cell? ⟨p.blk,o,none⟩=w.cell? ⟨p.blk,o,none⟩:=λo=>by simp[World.cell?,fb,h4]
 have pW:(w.freeze ⟨p.blk,off,none⟩ n).os=w.os/\(w.freeze ⟨p.blk,off,none⟩ n).tape=w.tape/\(w.freeze ⟨p.blk,off,none⟩ n).output=w.output:=by unfold World.freeze;split<;>exact⟨rfl,rfl,rfl⟩
 have hE:Ext ρ U w ρ (U.upd i (.cells c e false tight)) (w.freeze ⟨p.blk,off,none⟩ n):=by
  .refine⟨pW.1,pW.2.1,pW.2.2,by rw[aC];exact z9 _,λB hB hW=>cE B (λe=>hW ⟨i,p,_,hp,hb,rfl,e.symm⟩),?_,z9 _,λ_ _ _ h=>h⟩;rintro B _ ⟨j,q,b,hq,bY,hw,rfl⟩;by_cases aQ:j=i
   .subst aQ;exact⟨j,q,_,hq,hb,rfl,rfl⟩
   .rw[Heap.q0b _ _ aQ] at bY;exact⟨j,q,b,hq,bY,hw,rfl⟩
 refine⟨hH.ext ⟨λj b hj=>?_,λj hj=>?_,λj q hq=>by rw[aC];exact hH.lt j q hq,λj k q r b dq hq hr cq hw hx=>?_⟩ hE,hE⟩
 .by_cases aQ:j=i
  .subst aQ;rw[Heap.q0c _ _ hi] at hj;obtain rfl:=osj hj;exact⟨p,hp,h1,h2,h3,⟨C,e',f',fb,iW⟩,(by simp_all),λh=>by cases h⟩
  .rw[Heap.q0b _ _ aQ] at hj;obtain⟨q,hq,eW⟩:=hH.live j b hj;exact⟨q,hq,eW.other (z9 _) (λ_ _ _ h=>h) p.blk C e' f h4 (λhx=>hH.sep i j p q _ (Ne.symm aQ) hp hq hb rfl hx) ⟨C,f',fb,z9 _⟩ (λk hk _=>cE k hk) (hH.lt j q hq)⟩
 .by_cases aQ:j=i
  .grind [Heap.q0c]
  .rw[Heap.q0b _ _ aQ] at hj;exact hH.dead j hj
 .by_cases aQ:j=i
  .subst aQ;rw[Heap.q0c _ _ hi] at cq;obtain rfl:=osj cq;cases hw
  .rw[Heap.q0b _ _ aQ] at cq;exact hH.sep j k q r b dq hq hr cq hw hx
theorem HRel.freezeOut (hH:HRel ρ U w) {i:Nat}{p:Pl}{c:List Value}{e:El}{tight:Bool}(hp:ρ i=some p) (hb:U.get i=some (.cells c e true tight)) {C:Array Value}{e':TypeId}{f:Nat×Nat}(hC:w.heap[p.blk]?=some (.cells C e' f)) (hf:f.1=f.2) :
  HRel ρ U (w.freeze ⟨p.blk,C.size,none⟩ 1)/\Ext ρ U w ρ U (w.freeze ⟨p.blk,C.size,none⟩ 1):=by
 have cE:∀ k,k≠p.blk->(w.freeze ⟨p.blk,C.size,none⟩ 1).heap[k]?=w.heap[k]?:=λk hk=>by
  unfold World.freeze
  grind
 have aC:(w.freeze ⟨p.blk,C.size,none⟩ 1).heap.size=w.heap.size:=by unfold World.freeze;rw[z7 (by omega)];simp
 have fb:(w.freeze ⟨p.blk,C.size,none⟩ 1).heap[p.blk]?=some (.cells C e' (C.size,C.size+1)):=by
  unfold World.freeze
  grind
 have bz:∀ o,(w.freeze ⟨p.blk,C.size,none⟩ 1).cell? ⟨p.blk,o,none⟩=w.cell? ⟨p.blk,o,none⟩:=λo=>by simp[World.cell?,fb,hC]
 have hE:Ext ρ U w ρ U (w.freeze ⟨p.blk,C.size,none⟩ 1):=by refine⟨?_,?_,?_,by rw[aC];exact z9 _,λB hB hW=>cE B (λe=>hW ⟨i,p,_,hp,hb,rfl,e.symm⟩),λ_ _ h=>h,z9 _,λ_ _ _ h=>h⟩<;>(unfold World.freeze;rw[z7 (by omega)])
 refine⟨hH.ext ⟨λj b hj=>?_,hH.dead,λj q hq=>by rw[aC];exact hH.lt j q hq,hH.sep⟩ hE,hE⟩;obtain⟨q,hq,eW⟩:=hH.live j b hj;refine⟨q,hq,?_⟩;by_cases hk:q.blk=p.blk
 .cases b with
  |cells c0 e0 tI t0 =>
   obtain⟨h1,h2,h3,⟨C0,e1,f1,h4,h5⟩,h6,h7⟩:=eW;rw[hk,hC] at h4;obtain⟨rfl,rfl,rfl⟩:=(by simpa using h4:C=C0/\e'=e1/\f=f1);refine⟨h1,h2,h3,(by simp_all),λk v hv=>?_,λhw=>⟨(h7 hw).1,λk oN=>?_⟩⟩
   .rw[hk,bz,<-hk];exact h6 k v hv
   .unfold World.frozen?
    grind
  |obj o tI =>obtain⟨_,O,h4,h5⟩:=eW;rw[hk,hC] at h4;obtain rfl:=osj h4;exact absurd h5 ORel.q1u
 .exact eW.mono (z9 _) (λ_ _ _ h=>h) (cE _ hk)
theorem Q0p (hH:HRel ρ U w) {s:ByteArray}{st d e:TypeId}(hs:P.underlying st=some .string) (hd:P.underlying d=some (.slice e)) (he:P.underlying e=some (.int .u8)) {s0:Sem Next}(h0:s0=(do let v <-convert st d (.string s);pure (.value v))) :
  Ii P ρ U w (.slice (some ⟨U.n,0,none⟩) s.size s.size) (U.push (.cells (s.data.toList.map λb=>.int .u8 b.toNat) ⟨1,e⟩ true false)) s0:=by
 obtain⟨cap,b8⟩:∃ cap,cap=(Question.appendCap s.size 0 e).cut (w.tape w.drawn (.appendCap s.size 0 e)):=⟨_,rfl⟩;have hle:s.size<=cap:=by rw[b8];simp[Question.cut]
 let C:Array Value:=(s.data.map λb=>Value.int .u8 b.toNat)++Array.replicate (cap-s.size) (.int .u8 0);have pT:C.size=cap:=by have:s.data.size=s.size:=rfl;simp[C,this];omega
 have mR:=hH.drew;have aH:LRel ρ U.n (s.data.toList.map λb=>Value.int .u8 b.toNat) (C.toList.take (s.data.toList.map λb=>Value.int .u8 b.toNat).length):=by
  have:C.toList.take (s.data.toList.map λb=>Value.int .u8 b.toNat).length=s.data.toList.map λb=>Value.int .u8 b.toNat:=by simp[C]
  rw[this];exact X_ (zf.2 λx hx=>by obtain⟨b,_,rfl⟩:=zS.1 hx;rfl)
 obtain⟨ρ',h1,h2,h3⟩:=mR.alloc (s.data.toList.map λb=>Value.int .u8 b.toNat) C e ⟨1,e⟩ false rfl aH (by
  simp_all)
 have aD:(w.drew.alloc (.cells C e)).heap[w.drew.heap.size]?=some (.cells C e (0,0)):=by show (w.drew.heap.push _)[w.drew.heap.size]?=_;rw[Array.getElem?_push_size]
 obtain⟨h4,h5⟩:=h2.freezeOut (i:=U.n) h1 (Heap.q0a _ _) aD rfl;refine⟨.slice (some ⟨w.heap.size,0,none⟩) s.size cap,_,ρ',.inl ?_,.sl _ _ _ _ _ _ (by simp) (λp hp=>?_),h4,((Ext.drew ρ U w).trans h3).trans h5⟩
 .subst h0;have dP:(w.drew.alloc (.cells C e)).shape? w.drew.heap.size=some (e,C.size):=by
   unfold World.shape?;rw[aD]
  have hq:(Question.appendCap s.size 0 e).forced=false:=rfl;have rN:w.drew.heap.size=w.heap.size:=rfl;simp only[convert,zp,Q0 hs,Q0 hd,Q0 he,zg,Conv.stringToBytes,run_choose_drew,hq,zm,if_false,<-b8,newRow,run_newObj_alloc,xj,markStringish,run_shape,rN];rw[rN] at dP;have pX:(w.drew.alloc (.cells ((s.data.map λb=>Value.int .u8 b.toNat)++Array.replicate (cap-s.size) (.int .u8 0)) e)).shape? w.heap.size=some (e,C.size):=dP;rw[pX];rfl
 simp_all
set_option maxHeartbeats 1000000 in
theorem Ee {k nv:Value}{c:Nat}:∀ {es:List JO}{e:JO},Qh k es=some e->∃ j,es[j]?=some e/\Qx k nv c es=(es.set j (k,nv,e.2.2),c)/\Uv k es=es.eraseIdx j
 |[],e,h=>by cases h
 |a::es,e,h=>by
  simp only[Qh] at h;split at h
  .rename_i he;obtain rfl:=osj h;exact⟨0,rfl,by simp[Qx,he],by simp[Uv,he]⟩
  .rename_i he;obtain⟨j,h1,h2,h3⟩:=Ee (nv:=nv) (c:=c) h;exact⟨j+1,by simpa using h1,by simp[Qx,he,h2],by simp[Uv,he,h3]⟩
theorem LG {k:Value}:∀ {es:List JO},Qh k es=none->Uv k es=es
 |[],_=>rfl
 |a::es,h=>by
  simp only[Qh] at h;split at h
  .cases h
  .rename_i he;simp[Uv,he,LG h]
def Z9o:Value->Nat
 |.int _ n=>n.natAbs
 |_=>0
theorem Q2r {e:JO}:∀ {es:List JO},e∈es->Z9o e.2.1<=(es.map λx=>Z9o x.2.1).sum
 |a::es,h=>by
  rw[zO,xV];rcases zN.1 h with rfl|h
  .omega
  .have:=Q2r h;omega
theorem Q6t (es:List JO):∃ nv:Value,∀ e∈es,e.2.1≠nv :=
 ⟨.int .i64 ((es.map λx=>Z9o x.2.1).sum+1:Nat),λe he h=>by
  have h1:=Q2r he;rw[h] at h1;simp only[Z9o] at h1;omega⟩
theorem Z58 {es:List JO}{i j:Nat}{x y:JO}(hi:i<es.length) (_hj:j<es.length) (h:es.set i x=es.set j y) (hx:∀ e∈es,e.2.1≠x.2.1):i=j:=by
 grind [List.getElem?_set_self,List.getElem?_set_ne,List.getElem?_eq_getElem,osj,List.getElem_mem]
theorem Q1q {n:Nat}{E:List MapEntry}{es:List JO}(h:LERel ρ n E es) (j:Nat):LERel ρ n (E.eraseIdx j) (es.eraseIdx j):=by
 refine⟨by rw[List.length_eraseIdx,List.length_eraseIdx,h.1],λk e kv he dN=>?_⟩;rw[List.getElem?_eraseIdx] at he dN;split at he
 .rename_i aj;rw[z6 aj] at dN;exact h.2 _ _ _ he dN
 .rename_i aj;rw[z7 aj] at dN;exact h.2 _ _ _ he dN
theorem Q1n {o:Oper}{xo:XOp}(hc:CU P o.op = some xo) (hq:xo.quiet = false) (hH:HRel ρ U w) (hE:∀ x, W1 x = true -> VRel ρ U.n (Q5 env x) (ev x))
    (h:J5 xo (Q5 env) U = some (v, U')):Ii P ρ U w v U' (execOp ev o):=by
  obtain ⟨dst, op, ty, pos, after, guard⟩:=o;simp only at hc;unfold CU at hc;split at hc
  . cases hc
  rename_i ak;simp only [w_, xM] at ak;cases op <;> simp only [Op.operands] at ak hc
  case binOp jj t x y yt =>
    have nA:∀ neg, Ah P neg t x y = some xo -> False:=λneg hx => by
      unfold Ah at hx;split at hx
      . cases hx
      . obtain ⟨s, _, rfl⟩:=zi.1 hx; cases hq
    split at hc <;> first
      | exact (nA _ hc).elim
      | (simp at hc; subst hc; cases hq; done)
      | (rename_i e hu
         cases hi:P.info? e with
         | none => simp [hi] at hc
         | some i => simp [hi] at hc; obtain ⟨_, rfl⟩:=hc; cases hq)
      | cases hc
  case makeMap t r =>
    cases r with
    | some _ => cases hc
    | none =>
      simp at hc; subst hc;simp [J5] at h;obtain ⟨rfl, rfl⟩:=h;obtain ⟨ρ', h1, h2, h3⟩:=hH.newObj (.map [] 0) (.map #[] 0) (ORel.q0s.2 ⟨#[], rfl, rfl, λk e kv he => by simp at he⟩);refine ⟨.map (some w.heap.size), _, ρ', .inl ?_, .map _ _ (by simp) (λp hp => ?_), h2, h3⟩
      . simp [execOp, Instr.makeMap]
      . simp_all
  case lookup t x i jv =>
    split at hc
    . rename_i kt e hu
      cases hk:II P kt with
      | none => simp [hk] at hc
      | some mk =>
        cases bT:P.info? e with
        | none => simp [hk, bT] at hc
        | some inf =>
          cases hz:inf.zero with
          | none => simp [hk, bT, hz] at hc
          | some z => simp [hk, bT, hz] at hc; obtain ⟨_, rfl⟩:=hc; cases hq
    . cases hc
  case mapUpdate t m k x =>
    simp at ak;have hm:=hE m ak.1;have fI:=hE k ak.2.1;have hx:=hE x ak.2.2;split at hc
    . rename_i kt e hu
      cases hk:II P kt with
      | none => simp [hk] at hc
      | some mk =>
        simp [hk] at hc; subst hc;obtain ⟨d, hd, dO⟩:=Dm hk;simp only [J5] at h;split at h
        . rename_i i gV
          rw [gV] at hm;split at h
          . rename_i es clock aA
            split at h
            . rename_i ah
              simp only [z0] at ah;obtain ⟨bG, hall⟩:=ah;simp at h; obtain ⟨rfl, rfl⟩:=h;obtain ⟨p, entries, dY, hp, aD, aH⟩:=Wo hH aA hm;have eM:ev k = Q5 env k:=Lv bG fI;have bm:(getObj p.blk).run P w = .ok (.map entries clock) w:=(by grind [QE]);have a7:∀ O', (setObj p.blk O').run P w = .ok () (Sl w p.blk O'):=(by grind [QR]);rcases Vo hd dO bG (Q5 env x) clock es entries.toList aH hall with ⟨h1, h2, h3⟩ | ⟨j, a, a', h1, h2, h3, h4, h5, h6⟩
              . rw [h3]
                obtain ⟨k1, k2⟩:=hH.setObj (i:=i) (p:=p) hp (Wm aA) (o':=.map (es ++ [(Q5 env k, Q5 env x, clock)]) (clock + 1))
                  (O':=.map (entries.push { key:=ev k, val:=ev x, born:=clock }) (clock + 1)) (ORel.q0s.2 ⟨_, rfl, by
                    rw [Array.toList_push];exact TC aH ⟨eM, rfl, hx⟩⟩)
                refine ⟨undef, _, ρ, .inr ⟨?_, rfl⟩, Xe, k1, k2⟩;simp only [execOp];simp only [Instr.mapUpdate, zp, Q0 hu, zg, dY, bm, eM, ZZ hd dO bG];simp_all
              . rw [h6]
                have iv:((entries[j]?).map (·.key)).getD (Q5 env k) = a.1:=by
                  rw [<- Array.getElem?_toList, h3];simp [(aH.2 j a' a h3 h2).1]
                have fc:ZF mk a.1 = true:=(by grind)
                obtain ⟨k1, k2⟩:=hH.setObj (i:=i) (p:=p) hp (Wm aA) (o':=.map (es.set j (Q5 env k, Q5 env x, a.2.2)) clock)
                  (O':=.map (entries.modify (0 + j) λe => { e with key:=Q5 env k, val:=ev x }) clock) (ORel.q0s.2 ⟨_, rfl, by
                    rw [Array.toList_modify, zU];exact Pf aH j _ _ (λe he => by
                      obtain rfl:a' = e:=osj (h3.symm.trans he);exact ⟨rfl, (aH.2 j a' a h3 h2).2.1, hx⟩)⟩)
                refine ⟨undef, _, ρ, .inr ⟨?_, rfl⟩, Xe, k1, k2⟩;simp only [execOp];simp only [Instr.mapUpdate, zp, Q0 hu, zg, dY, bm, eM, ZZ hd dO bG];rw [h4];simp only [zg, zp, zU, iv];have a9:(Instr.keyThatStays a.1 (Q5 env k)).run P w = .ok (Q5 env k) w:=by unfold Instr.keyThatStays;rw [z6 (Hw bG fc h5)];rfl
                simp_all
            . cases h
          . cases h
        . cases h
    . cases hc
  case insert t m k x =>
    simp at ak;have hm:=hE m ak.1;have fI:=hE k ak.2.1;have hx:=hE x ak.2.2;split at hc
    . rename_i kt e hu
      cases hk:II P kt with
      | none => simp [hk] at hc
      | some mk =>
        simp [hk] at hc; subst hc;obtain ⟨d, hd, dO⟩:=Dm hk;simp only [J5] at h;split at h
        . rename_i i gV
          rw [gV] at hm;split at h
          . rename_i es clock aA
            split at h
            . rename_i ah
              simp only [z0] at ah;obtain ⟨bG, hall⟩:=ah;simp at h; obtain ⟨rfl, rfl⟩:=h;obtain ⟨p, entries, dY, hp, aD, aH⟩:=Wo hH aA hm;have eM:ev k = Q5 env k:=Lv bG fI;have bm:(getObj p.blk).run P w = .ok (.map entries clock) w:=(by grind [QE]);have a7:∀ O', (setObj p.blk O').run P w = .ok () (Sl w p.blk O'):=(by grind [QR]);rcases Vo hd dO bG (Q5 env x) clock es entries.toList aH hall with ⟨h1, h2, h3⟩ | ⟨j, a, a', h1, h2, h3, h4, h5, h6⟩
              . rw [h3]
                obtain ⟨k1, k2⟩:=hH.setObj (i:=i) (p:=p) hp (Wm aA) (o':=.map (es ++ [(Q5 env k, Q5 env x, clock)]) (clock + 1))
                  (O':=.map (entries.push { key:=ev k, val:=ev x, born:=clock }) (clock + 1)) (ORel.q0s.2 ⟨_, rfl, by
                    rw [Array.toList_push];exact TC aH ⟨eM, rfl, hx⟩⟩)
                refine ⟨undef, _, ρ, .inr ⟨?_, rfl⟩, Xe, k1, k2⟩;simp only [execOp];simp only [Instr.mapUpdate, zp, Q0 hu, zg, dY, bm, eM, ZZ hd dO bG];simp_all
              . rw [h6]
                have iv:((entries[j]?).map (·.key)).getD (Q5 env k) = a.1:=by
                  rw [<- Array.getElem?_toList, h3];simp [(aH.2 j a' a h3 h2).1]
                have fc:ZF mk a.1 = true:=(by grind)
                obtain ⟨k1, k2⟩:=hH.setObj (i:=i) (p:=p) hp (Wm aA) (o':=.map (es.set j (Q5 env k, Q5 env x, a.2.2)) clock)
                  (O':=.map (entries.modify (0 + j) λe => { e with key:=Q5 env k, val:=ev x }) clock) (ORel.q0s.2 ⟨_, rfl, by
                    rw [Array.toList_modify, zU];exact Pf aH j _ _ (λe he => by
                      obtain rfl:a' = e:=osj (h3.symm.trans he);exact ⟨rfl, (aH.2 j a' a h3 h2).2.1, hx⟩)⟩)
                refine ⟨undef, _, ρ, .inr ⟨?_, rfl⟩, Xe, k1, k2⟩;simp only [execOp];simp only [Instr.mapUpdate, zp, Q0 hu, zg, dY, bm, eM, ZZ hd dO bG];rw [h4];simp only [zg, zp, zU, iv];have a9:(Instr.keyThatStays a.1 (Q5 env k)).run P w = .ok (Q5 env k) w:=by unfold Instr.keyThatStays;rw [z6 (Hw bG fc h5)];rfl
                simp_all
            . cases h
          . cases h
        . cases h
    . cases hc
  case mapEntry t m k =>
    simp at ak;have hm:=hE m ak.1;have fI:=hE k ak.2;split at hc
    . rename_i kt e hu
      cases hk:II P kt with
      | none => simp [hk] at hc
      | some mk =>
      cases bT:P.info? e with
      | none => simp [hk, bT] at hc
      | some inf =>
      cases hz:inf.zero with
      | none => simp [hk, bT, hz] at hc
      | some z =>
        simp [hk, bT, hz] at hc;obtain ⟨kT, rfl⟩:=hc;obtain ⟨d, hd, dO⟩:=Dm hk;have kP:∀ w', (zeroValue e).run P w' = .ok z w':=λw' => Zy bT hz w';have dG:VRel ρ U.n z z:=Nq kT;simp only [J5] at h;split at h
        . rename_i i gV
          rw [gV] at hm;split at h
          . rename_i es clock aA
            split at h
            . rename_i ah
              simp only [z0] at ah;obtain ⟨bG, hall⟩:=ah;obtain ⟨p, entries, dY, hp, aD, aH⟩:=Wo hH aA hm;have eM:ev k = Q5 env k:=Lv bG fI;have bm:(getObj p.blk).run P w = .ok (.map entries clock) w:=(by grind [QE]);have a7:∀ O', (setObj p.blk O').run P w = .ok () (Sl w p.blk O'):=(by grind [QR]);split at h
              . rename_i e0 hf
                simp at h; obtain ⟨rfl, rfl⟩:=h;rcases Vo hd dO bG e0.2.1 clock es entries.toList aH hall with ⟨h1, h2, h3⟩ | ⟨j, a, a', h1, h2, h3, h4, h5, h6⟩
                . rw [hf] at h1; cases h1
                . obtain rfl:e0 = a:=by rw [hf] at h1; exact osj h1
                  rw [h6];have pY:entries[j]? = some a':=by simp_all
                  have iv:((entries[j]?).map (·.key)).getD (Q5 env k) = e0.1:=by
                    rw [pY]; simp [(aH.2 j a' e0 h3 h2).1]
                  have pZ:((entries[j]?).map λx => (x.born:Int)).getD 0 = (e0.2.2:Int):=by rw [pY]; simp [(aH.2 j a' e0 h3 h2).2.1]
                  have fc:ZF mk e0.1 = true:=(by grind);have mP:=(aH.2 j a' e0 h3 h2).2.2
                  obtain ⟨k1, k2⟩:=hH.setObj (i:=i) (p:=p) hp (Wm aA) (o':=.map (es.set j (Q5 env k, e0.2.1, e0.2.2)) clock)
                    (O':=.map (entries.modify (0 + j) λe => { e with key:=Q5 env k }) clock) (ORel.q0s.2 ⟨_, rfl, by
                      rw [Array.toList_modify, zU];exact Pf aH j _ _ (λe he => by
                        obtain rfl:a' = e:=osj (h3.symm.trans he);exact ⟨rfl, (aH.2 j a' e0 h3 h2).2.1, mP⟩)⟩)
                  refine ⟨.tuple #[a'.val, .int .i64 e0.2.2], _, ρ, .inl ?_, VRel.q0j (LRel.cons mP (LRel.cons (.int _ _) (LRel.nil _ _))), k1, k2⟩;simp only [execOp];simp only [Instr.mapEntry, zp, Q0 hu, zg, dY, bm, eM, ZZ hd dO bG];rw [h4];simp only [zg, zp, zU, iv, pZ];have a9:(Instr.keyThatStays e0.1 (Q5 env k)).run P w = .ok (Q5 env k) w:=by unfold Instr.keyThatStays;rw [z6 (Hw bG fc h5)];rfl
                  rw [a9];simp only [zg, a7, xj];rfl
              . rename_i hf
                simp at h; obtain ⟨rfl, rfl⟩:=h;rcases Vo hd dO bG z clock es entries.toList aH hall with ⟨h1, h2, h3⟩ | ⟨j, a, a', h1, h2, h3, h4, h5, h6⟩
                . rw [h3]
                  obtain ⟨k1, k2⟩:=hH.setObj (i:=i) (p:=p) hp (Wm aA) (o':=.map (es ++ [(Q5 env k, z, clock)]) (clock + 1))
                    (O':=.map (entries.push { key:=Q5 env k, val:=z, born:=clock }) (clock + 1)) (ORel.q0s.2 ⟨_, rfl, by
                      rw [Array.toList_push];exact TC aH ⟨rfl, rfl, dG⟩⟩)
                  refine ⟨.tuple #[z, .int .i64 clock], _, ρ, .inl ?_, VRel.q0j (LRel.cons dG (LRel.cons (.int _ _) (LRel.nil _ _))), k1, k2⟩;simp only [execOp];simp only [Instr.mapEntry, zp, Q0 hu, zg, dY, bm, eM, ZZ hd dO bG];rw [h2];simp only [zg, zp, kP, a7, xj];rfl
                . rw [hf] at h1; cases h1
            . cases h
          . cases h
        . cases h
    . cases hc
  case entryStore t m s x =>
    simp at ak;have hm:=hE m ak.1;have hs:=hE s ak.2.1;have hx:=hE x ak.2.2;simp at hc; subst hc;simp only [J5] at h;split at h
    . rename_i i n gV p5
      rw [gV] at hm;rw [p5] at hs;split at h
      . rename_i es clock aA
        split at h
        . rename_i j jk
          split at h
          . rename_i e0 rO
            simp at h; obtain ⟨rfl, rfl⟩:=h;obtain ⟨p, entries, dY, hp, aD, aH⟩:=Wo hH aA hm;have mS:ev s = .int .i64 n:=V7 rfl hs;have bm:(getObj p.blk).run P w = .ok (.map entries clock) w:=(by grind [QE]);have a7:∀ O', (setObj p.blk O').run P w = .ok () (Sl w p.blk O'):=(by grind [QR]);have mT:entries.toList.map (λx => (x.born:Int)) = es.map (λe => (e.2.2:Int)):=by
              refine zT λq => ?_;rw [xx, xx];cases h1:entries.toList[q]? with
              | none =>
                have:es[q]? = none:=by rw [List.getElem?_eq_none_iff] at h1 |-; rw [<- aH.1]; exact h1
                rw [this]; rfl
              | some a =>
                cases h2:es[q]? with
                | none => rw [List.getElem?_eq_none_iff, <- aH.1, <- List.getElem?_eq_none_iff, h1] at h2; cases h2
                | some b => simp [(aH.2 q a b h1 h2).2.1]
            have p6:entries.findIdx? (λe => (e.born:Int) == n) = some j:=by
              have e1:entries.toList.findIdx? (λe => (e.born:Int) == n) = (entries.toList.map (λx => (x.born:Int))).findIdx? (λb => b == n):=by rw [List.findIdx?_map]; rfl
              have e2:es.findIdx? (λe => (e.2.2:Int) == n) = (es.map (λe => (e.2.2:Int))).findIdx? (λb => b == n):=by rw [List.findIdx?_map]; rfl
              have e3:entries.findIdx? (λe => (e.born:Int) == n) = entries.toList.findIdx? (λe => (e.born:Int) == n):=by rw [<- List.findIdx?_toArray, Array.toArray_toList]
              rw [e3, e1, mT, <- e2, jk]
            have cM:j < entries.toList.length:=by rw [aH.1]; grind
            have pY:=z8 cM
            obtain ⟨k1, k2⟩:=hH.setObj (i:=i) (p:=p) hp (Wm aA) (o':=.map (es.set j (e0.1, Q5 env x, e0.2.2)) clock)
              (O':=.map (entries.modify j λe => { e with val:=ev x }) clock) (ORel.q0s.2 ⟨_, rfl, by
                rw [Array.toList_modify];exact Pf aH j _ _ (λe he => by
                  have hr:=aH.2 j e e0 he rO;exact ⟨hr.1, hr.2.1, hx⟩)⟩)
            refine ⟨undef, _, ρ, .inr ⟨?_, rfl⟩, Xe, k1, k2⟩;simp only [execOp];simp only [Instr.entryStore, dY, zp, bm, zg, mS];simp [asInt, asIntOf, p6, a7]
          . cases h
        . cases h
      . cases h
    . cases h
  case range t x =>
    simp at ak;have hx:=hE x ak;split at hc
    . rename_i kt e hu
      simp at hc; subst hc;simp only [J5] at h;split at h
      . rename_i m bc
        rw [bc] at hx;split at h
        . rename_i es clock wr aA
          simp at h; obtain ⟨rfl, rfl⟩:=h;obtain ⟨p, entries, dY, hp, aD, aH⟩:=Wo hH aA hx;rw [dY] at hx;obtain ⟨ρ', h1, h2, h3⟩:=hH.newObj (.iter m clock [] clock) (.mapIter (some p.blk) clock #[] clock) ⟨p.blk, rfl, hx⟩;have bm:(getObj p.blk).run P w = .ok (.map entries clock) w:=(by grind [QE]);refine ⟨.pointer (some ⟨w.heap.size, 0, none⟩), _, ρ', .inl ?_, .ptr _ _ _ (by simp) (λq hq => ?_), h2, h3⟩
          . simp [execOp, Instr.range, Q0 hu, dY, bm]
          simp_all
        . cases h
      . cases h
    . rename_i hu
      simp at hc; subst hc;simp only [J5] at h;split at h
      . rename_i s bc
        rw [bc] at hx;simp at h; obtain ⟨rfl, rfl⟩:=h;have bH:ev x = .string s:=V7 rfl hx;obtain ⟨ρ', h1, h2, h3⟩:=hH.newObj (.siter s 0) (.stringIter s 0) rfl;refine ⟨.pointer (some ⟨w.heap.size, 0, none⟩), _, ρ', .inl ?_, .ptr _ _ _ (by simp) (λq hq => ?_), h2, h3⟩
        . simp [execOp, Instr.range, Q0 hu, bH]
        simp_all
      . cases h
    . cases hc
  case next x b =>
    cases b with
    | false => simp at hc; subst hc; simp [J5] at h
    | true =>
      simp at ak hc;subst hc;have hx:=hE x ak;simp only [J5] at h;split at h
      . rename_i i bc
        rw [bc] at hx;split at h
        . rename_i s ps hb
          obtain ⟨p, hp, ⟨_, dP⟩, O, hO, rfl⟩:=hH.live i _ hb;obtain ⟨_, _, bU⟩:=hx.q0w hp;rw [dP, zU] at bU;have bm:(getObj p.blk).run P w = .ok (.stringIter s ps) w:=(by grind [QE]);have a7:∀ O', (setObj p.blk O').run P w = .ok () (Sl w p.blk O'):=(by grind [QR]);split at h
          . rename_i b rP
            split at h
            . rename_i aj
              simp at h; obtain ⟨rfl, rfl⟩:=h;obtain ⟨dV, p7⟩:=zq.1 rP;have hps':ps < s.size:=dV;have cq:s[ps]'hps' = b:=p7;obtain ⟨k1, k2⟩:=hH.setObj hp hb (o':=.siter s (ps + 1)) (O':=.stringIter s (ps + 1)) rfl;refine ⟨.tuple #[.bool true, .int .i64 ps, .int .i32 b.toNat], _, ρ, .inl ?_, VRel.q0j (LRel.cons (.bool _) (LRel.cons (.int _ _) (LRel.cons (.int _ _) (LRel.nil _ _)))), k1, k2⟩;simp only [execOp, Instr.next, bU, zp, bm, zg, z6 hps', decode_ascii s ps hps' (by rw [cq]; exact aj), a7];simp [goInt, cq]
            . cases h
          . rename_i rP
            simp at h; obtain ⟨rfl, rfl⟩:=h;have hps':¬ ps < s.size:=by simp_all
            refine ⟨.tuple #[.bool false], w, ρ, .inl ?_, VRel.q0j (LRel.cons (.bool _) (LRel.nil _ _)), hH, Ext.refl _ _ _⟩;simp only [execOp, Instr.next, bU, zp, bm, zg, z7 hps'];simp
        . cases h
      . cases h
  case entry x => simp at hc; subst hc; cases hq
  case convert s d x =>
    split at hc
    . rename_i t hs hd
      cases hi:P.info? t with
      | none => simp [hi] at hc
      | some inf => simp [hi] at hc; obtain ⟨_, rfl⟩:=hc; cases hq
    . rename_i u hs hd
      cases hi:P.info? u with
      | none => simp [hi] at hc
      | some inf => simp [hi] at hc; obtain ⟨_, rfl⟩:=hc; cases hq
    . split at hc
      . simp at hc; subst hc; cases hq
      . cases hc
    . rename_i e hs hd
      split at hc
      . rename_i he
        simp at hc; subst hc;simp only [J5] at h;split at h
        . rename_i s' bc
          split at h
          . simp at h; obtain ⟨rfl, rfl⟩:=h
            have hx:=hE x (by simpa using ak);rw [bc] at hx;refine Q0p hH hs hd he ?_;simp only [execOp, hx.q0p]
          . cases h
        . cases h
      . cases hc
    . cases hc
  case call c =>
    split at hc
    . split at hc
      . split at hc
        . simp at hc; subst hc; cases hq
        . cases hc
      . cases hc
    . rename_i aI
      split at hc
      . rename_i t mm kk dh cI
        split at hc
        . rename_i kt e hu
          cases hk:II P kt with
          | none => simp [hk] at hc
          | some mk =>
            simp [hk] at hc; subst hc;obtain ⟨d, hd, dO⟩:=Dm hk;have bC:c.args = #[mm, kk]:=Array.ext' (by simpa using cI);have cO:W1 mm = true /\ W1 kk = true:=by simpa [Call.operands, aI, bC] using ak
            have hm:=hE mm cO.1;have fI:=hE kk cO.2;simp only [J5] at h;split at h
            . rename_i i gV
              rw [gV] at hm;split at h
              . rename_i es clock aA
                split at h
                . rename_i ah
                  simp only [z0] at ah;obtain ⟨bG, hall⟩:=ah;simp at h; obtain ⟨rfl, rfl⟩:=h;obtain ⟨p, entries, dY, hp, aD, aH⟩:=Wo hH aA hm;have eM:ev kk = Q5 env kk:=Lv bG fI;have bm:(getObj p.blk).run P w = .ok (.map entries clock) w:=(by grind [QE]);have a7:∀ O', (setObj p.blk O').run P w = .ok () (Sl w p.blk O'):=(by grind [QR]);obtain ⟨nv, oZ⟩:=Q6t es;rcases Vo hd dO bG nv clock es entries.toList aH hall with ⟨h1, h2, h3⟩ | ⟨j, a, a', h1, h2, h3, h4, h5, h6⟩
                  . rw [LG h1]
                    obtain ⟨k1, k2⟩:=hH.setObj (i:=i) (p:=p) hp (Wm aA) (o':=.map es clock) (O':=.map entries clock) (ORel.q0s.2 ⟨_, rfl, aH⟩);refine ⟨.tuple #[], _, ρ, .inl ?_, VRel.q0j (LRel.nil _ _), k1, k2⟩;simp only [execOp];simp [resolve, aI, bC, invoke, builtin, Builtin.delete_, dh, Q0 hu, dY, bm, eM, ZZ hd dO bG, h2, a7]
                  . obtain ⟨j0, g1, g2, g3⟩:=Ee (nv:=nv) (c:=clock) h1
                    have hj:j = j0:=by
                      rw [g2] at h6;have hs:=congrArg (λx:List JO × Nat => x.1) h6
                      grind [Z58, List.getElem?_eq_some_iff]
                    subst hj;rw [g3];obtain ⟨k1, k2⟩:=hH.setObj (i:=i) (p:=p) hp (Wm aA) (o':=.map (es.eraseIdx j) clock) (O':=.map (entries.eraseIdxIfInBounds (0 + j)) clock) (ORel.q0s.2 ⟨_, rfl, by
                      have cM:j < entries.size:=by
                        grind
                      rw [zU];have e:(entries.eraseIdxIfInBounds j).toList = entries.toList.eraseIdx j:=by simp
                      grind [Q1q]⟩)
                    refine ⟨.tuple #[], _, ρ, .inl ?_, VRel.q0j (LRel.nil _ _), k1, k2⟩;simp only [execOp];simp [resolve, aI, bC, invoke, builtin, Builtin.delete_, dh, Q0 hu, dY, bm, eM, ZZ hd dO bG, h4, a7]
                . cases h
              . cases h
            . cases h
        . cases hc
      . cases hc
    . rename_i aI
      split at hc
      . rename_i t dd ss dh cI
        split at hc
        . rename_i e hu
          cases hi:P.info? e with
          | none => simp [hi] at hc
          | some inf =>
            simp [hi] at hc; subst hc;have bC:c.args = #[dd, ss]:=Array.ext' (by simpa using cI);have cO:W1 dd = true /\ W1 ss = true:=by simpa [Call.operands, aI, bC] using ak
            have hd:=hE dd cO.1;have hs:=hE ss cO.2;simp only [J5] at h;split at h
            . rename_i db dn dc sb sn sc p8 p5
              rw [p8] at hd; rw [p5] at hs;obtain ⟨da, tJ, p9⟩:=hd.q1v;obtain ⟨sa, mU, mS⟩:=hs.q1v;split at h
              . rename_i h0
                simp at h; obtain ⟨rfl, rfl⟩:=h;refine ⟨.int .i64 0, w, ρ, .inl ?_, .int _ _, hH, Ext.refl _ _ _⟩;simp only [execOp];have rQ:Nat.min sn dn = 0:=h0;cases sa <;> cases da <;> simp [resolve, aI, bC, invoke, builtin, Builtin.copy_, dh, p9, mS, Q0 hu, Qe hi, Builtin.lenOf, rQ, Builtin.firstCells, loadCells, loadCellsFrom, storeCells, goInt]
              . rename_i h0
                split at h
                . rename_i i o xs bH
                  split at h
                  . rename_i cc e' wr tight hb
                    split at h
                    . rename_i ah
                      obtain ⟨rfl, mG, jt, ij⟩:=ah;simp at h; obtain ⟨rfl, rfl⟩:=h;have a_:VRel ρ U.n (.slice sb (min sn dn) sc) (.slice sa (min sn dn) mU):=by
                        rw [mS] at hs;cases hs with
                        | nilSl => exact absurd (by simp) h0
                        | slx _ _ _ _ _ gA d_ => exact .slx _ _ _ _ _ gA d_
                        | sl i2 o2 _ _ a2 _ gA d_ =>
                          refine .sl _ _ _ _ _ _ gA λp hp => ?_;obtain ⟨k1, k2, ⟨k0, v8⟩ | ⟨o', k3, k4, k5⟩⟩:=d_ p hp
                          . omega
                          exact (by simp_all)
                      obtain ⟨gg, us, dy, _, aW⟩:=Ep hH bH a_;have hr:=aW w (Like.refl ρ w);have p6:(Builtin.firstCells inf.size (min sn dn) (.slice sa sn mU)).run P w = .ok us.toArray w:=by rw [<- hr]; cases sa <;> rfl
                      obtain ⟨p, hp, hB⟩:=hH.live i _ hb;rw [p9] at hd;obtain ⟨a2, jm, mV, aS, aY⟩:=hd.q1c;simp at mV;obtain ⟨rfl, rfl⟩:=mV;obtain ⟨_, _, ⟨_, gU⟩ | ⟨o', mh, _, kN⟩⟩:=aY p hp
                      . exact absurd (by rw [gU]; simp) h0
                      have ho:o' = o:=kN.resolve_right (λhh => h0 (by rw [hh.1]; simp));subst ho;obtain ⟨h2, h3⟩:=hH.store hp hb dy (o:=o') (by omega);refine ⟨.int .i64 (min sn dn:Nat), _, ρ, .inl ?_, .int _ _, h2, h3⟩;have oO:us.length = xs.length:=dy.1.symm
                      have a9:=run_storeCells_cells (P:=P) p.blk (p.shift + o') us 0 w
                        (λj hj => by rw [x4, zw]; exact hB.q0v _ (by have:=hB.2.2.1; omega))
                        (λj hj => by rw [x4, zw]; exact (hB.2.2.2.2.2 rfl).2 _ (by have:=hB.2.2.1; omega))
                        (VP ij dy)
                      rw [x4] at a9;have p_:Nat.min sn dn = min sn dn:=rfl;simp only [execOp];simp [resolve, aI, bC, invoke, builtin, Builtin.copy_, dh, p9, mS, Q0 hu, Qe hi, Builtin.lenOf, p_, p6, mh, a9, goInt]
                    . cases h
                  . cases h
                . cases h
            . cases h
        . cases hc
      . cases hc
    . rename_i aI
      split at hc
      . rename_i t x dh cI
        split at hc
        . rename_i e hu
          cases hz:zeroOf P e with
          | none => simp [hz] at hc
          | some z =>
            simp [hz] at hc;obtain ⟨gU, rfl⟩:=hc;obtain ⟨inf, zv, bT, dG, gb, v9, iY⟩:=YY hz;have bC:c.args = #[x]:=Array.ext' (by simpa using cI);have cO:W1 x = true:=by simpa [Call.operands, aI, bC] using ak
            have hx:=hE x cO;simp only [J5] at h;split at h
            . rename_i b n cap bc
              rw [bc] at hx;obtain ⟨a, tK, bU⟩:=hx.q1v;split at h
              . rename_i h0
                simp at h; obtain ⟨rfl, rfl⟩:=h;subst h0;refine ⟨.tuple #[], w, ρ, .inl ?_, VRel.q0j (LRel.nil _ _), hH, Ext.refl _ _ _⟩;simp only [execOp];cases a <;> simp [resolve, aI, bC, invoke, builtin, Builtin.clear_, dh, bU, Q0 hu]
              . rename_i h0
                split at h
                . rename_i i o
                  split at h
                  . rename_i cc e' wr tight hb
                    split at h
                    . rename_i ah
                      obtain ⟨rfl, jt, ij⟩:=ah;simp at h; obtain ⟨rfl, rfl⟩:=h;have dy:LRel ρ U.n (TW n z) (TW n z):=X_ (Tj n z iY);have dQ:=C3 n z;have bQ:(TW n z).all cellOk = true:=Q57 n z ij;obtain ⟨p, hp, hB⟩:=hH.live i _ hb;rw [bU] at hx;obtain ⟨a2, jm, mV, aS, aY⟩:=hx.q1c;simp at mV;obtain ⟨rfl, rfl⟩:=mV;obtain ⟨_, _, ⟨_, gU⟩ | ⟨o', mh, _, kN⟩⟩:=aY p hp
                      . exact absurd gU h0
                      have ho:o' = o:=kN.resolve_right (λhh => h0 hh.1);subst ho;obtain ⟨h2, h3⟩:=hH.store hp hb dy (o:=o') (by omega);refine ⟨.tuple #[], _, ρ, .inl ?_, VRel.q0j (LRel.nil _ _), h2, h3⟩
                      have a9:=run_storeCells_cells (P:=P) p.blk (p.shift + o') (TW n z) 0 w
                        (λj hj => by rw [x4, zw]; exact hB.q0v _ (by have:=hB.2.2.1; omega))
                        (λj hj => by rw [x4, zw]; exact (hB.2.2.2.2.2 rfl).2 _ (by have:=hB.2.2.1; omega))
                        (VP bQ dy)
                      rw [x4] at a9;have tL:(Builtin.zeroCells zv.cells n).toList = TW n z:=by have:=Ta zv.cells z gb (by intro hh; rw [hh] at gU; exact gU rfl) n;simpa [Builtin.zeroCells, <- gb] using this
                      simp only [execOp];obtain ⟨n', rfl⟩:∃ k, n = k + 1:=⟨n - 1, by omega⟩;simp [resolve, aI, bC, invoke, builtin, Builtin.clear_, dh, bU, Q0 hu, Zy bT dG, tL, mh, a9]
                    . cases h
                  . cases h
                . cases h
            . cases h
        . cases hc
      . cases hc
    . split at hc
      . simp at hc; subst hc; cases hq
      . cases hc
    . rename_i aI
      split at hc
      . rename_i t x nn dh cI
        split at hc
        . rename_i e hu
          split at hc
          . rename_i pL
            simp at hc; subst hc;have bC:c.args = #[x, nn]:=Array.ext' (by simpa using cI);have cO:W1 x = true /\ W1 nn = true:=by simpa [Call.operands, aI, bC] using ak
            have hx:=hE x cO.1;have hn:=hE nn cO.2;simp only [J5] at h;split at h
            . rename_i q k bc aG
              rw [bc] at hx; rw [aG] at hn;have gy:=hn.q0h;split at h
              . rename_i h0
                simp at h; obtain ⟨rfl, rfl⟩:=h;subst h0;refine ⟨.string ⟨#[]⟩, w, ρ, .inl ?_, .string _, hH, Ext.refl _ _ _⟩;have cD:∃ q', ev x = .pointer q':=by
                  cases q with
                  | none => exact ⟨none, hx.q0q⟩
                  | some a => obtain ⟨b, hb⟩:=hx.q1j; exact ⟨_, hb⟩
                obtain ⟨q', cD⟩:=cD;simp [execOp, resolve, aI, bC, invoke, builtin, cD, gy, FH c.argTypes ty t dh q' w];rfl
              . rename_i h0
                split at h
                . rename_i i o
                  split at h
                  . rename_i cc el tight hb
                    split at h
                    . rename_i ah
                      obtain ⟨iw, rR, het, jt⟩:=ah;split at h
                      . rename_i s' pV
                        simp at h; obtain ⟨rfl, rfl⟩:=h;obtain ⟨ns, mf, rfl⟩:=Ea pV;obtain ⟨p, hp, h1, h2, h3, ⟨C, e', f, hC, pT, kV⟩, h5, h6⟩:=hH.live i _ hb;obtain ⟨_, _, bU⟩:=hx.q0w hp;have iz:ns.length = k.toNat:=by have:=congrArg List.length mf;simp at this; omega
                        have bz:∀ j n, ns[j]? = some n -> w.cell? ((⟨p.blk, p.shift + o, none⟩:Addr).add j) = some (.int .u8 n):=λj n hj => by
                          have cM:j < ns.length:=(zq.1 hj).1;have eL:cc[o + j]? = some (.int .u8 n):=by
                            have:((cc.drop o).take k.toNat)[j]? = some (.int .u8 n):=by rw [mf, xx, hj]; rfl
                            rwa [xu, z6 (by omega), zZ] at this
                          obtain ⟨u, dJ, cH⟩:=h5 (o + j) _ eL;have fJ:(⟨p.blk, p.shift + o, none⟩:Addr).add j = ⟨p.blk, p.shift + (o + j), none⟩:=by unfold Addr.add; split <;> simp_all <;> omega
                          rw [fJ, dJ, cH.q0h]
                        have dP:w.shape? p.blk = some (e, C.size):=by simp [World.shape?, hC, kV, het]
                        have hr:=Q9v (P:=P) c.argTypes ty t e dh hu pL ⟨p.blk, p.shift + o, none⟩ C.size w dP ns k iw iz (by show p.shift + o + ns.length <= C.size; omega) rR bz;obtain ⟨k1, k2⟩:=hH.freeze hp hb (p.shift + o) k.toNat;refine ⟨.string ⟨(ns.map λn => n.toNat.toUInt8).toArray⟩, _, ρ, .inl ?_, .string _, k1, k2⟩;simp [execOp, resolve, aI, bC, invoke, builtin, bU, gy, hr]
                      . cases h
                    . cases h
                  . cases h
                . cases h
            . cases h
          . cases hc
        . cases hc
      . cases hc
    . cases hc
  all_goals cases hc
theorem Q5x {o:Oper}{vo:VOp}(hc:U2 P o.op=vo) (hq:vo.quiet=true) (hH:HRel ρ U w) (hE:∀ x,W1 x=true->VRel ρ U.n (Q5 env x) (ev x))
  (h:Q8 vo (Q5 env) U=some (v,U')):U'=U/\Q00 P ρ U w v (execOp ev o):=by
 unfold U2 at hc;split at hc
 .grind [Q0z]
 .split at hc
  .rename_i x hx;subst hc;exact OC hx hq hH hE h
  .subst hc;simp[Q8] at h
theorem Z1b {o:Oper}{vo:VOp}(hc:U2 P o.op=vo) (hq:vo.quiet=false) (hH:HRel ρ U w) (hE:∀ x,W1 x=true->VRel ρ U.n (Q5 env x) (ev x))
  (h:Q8 vo (Q5 env) U=some (v,U')):Ii P ρ U w v U' (execOp ev o):=by
 unfold U2 at hc;split at hc
 .grind [Q3u]
 .split at hc
  .rename_i x hx;subst hc;exact Q1n hx hq hH hE h
  .subst hc;simp[Q8] at h
end
end Go.V